/- Proved: the law WireLimits, called with any value and any limit, returns true and changes nothing that was there (no condition). -/
import Derived.Test.YtmihibikhmldgaaLim
import Derived.Test.YtmihibikhmldgaaOpen
namespace Go.Proofs.Ytmihibikhmldgaa.Run
open Go.RowKit Go.Proofs.Ytmihibikhmldgaa.Q Go.Proofs.Ytmihibikhmldgaa.Sl Go.Proofs.Ytmihibikhmldgaa.Open Go.Proofs.YtmihibikhmldgaaW.PrintWords Go.Proofs.YtmihibikhmldgaaW.PrintLast
def good25 : S25 → Prop := giso (gpair (gint .i64) (gpair (gint .u32) (gall (gint .u8)))) (fun x : S25 => (x.f0, x.f1, x.f2))
theorem opens25 : Opens Try.prog 25 k25 good25 := by
  refine opens_iso (fun x : S25 => (x.f0, x.f1, x.f2)) (fun a => ⟨a.1, a.2.1, a.2.2⟩) (fun _ => rfl) (opens_struct Try.underlying25 (by kernel_rfl) ?_)
  exact at_cons rfl (by kernel_rfl) rfl (opens_int Try.underlying3) (at_cons rfl (by kernel_rfl) rfl (opens_int Try.underlying23) (at_last rfl (by kernel_rfl) (opens_slice Try.underlying22 (by kernel_rfl) (opens_int Try.underlying5))))
theorem u32r {x : Int} (h : (Lit.int .u32 x).wf = true) : 0 ≤ x ∧ x < 4294967296 := by
  simp [Lit.wf, IntKind.min, IntKind.max, IntKind.signed, IntKind.bits] at h
  omega
theorem u8r {x : Int} (h : (Lit.int .u8 x).wf = true) : 0 ≤ x ∧ x < 256 := by
  simp [Lit.wf, IntKind.min, IntKind.max, IntKind.signed, IntKind.bits] at h
  omega
theorem int_cell {k : IntKind} {W : World} {n a : Int} (c : (Kd.int k).K W a (Value.int k n).cells.toList) : n = a := by
  have : [Value.int k n] = [Value.int k a] := c
  injection this with h
  injection h
theorem WireLimits_o0 : Opens Try.prog 25 k25 good25 := opens25
theorem WireLimits_o1 : Opens Try.prog 3 (Kd.int .i64) (gint .i64) := opens_int Try.underlying3
theorem WireLimits_run (W : World) (v : Value) (s : ∃ cs, v = .agg cs ∧ cs.size = Try.prog.cellsOf 25) (a : S25) (g : good25 a) (c : k25.K W a v.cells.toList) (v1 : Value) (s1 : ∃ n, v1 = .int .i64 n) (a1 : Int) (g1 : gint .i64 a1) (c1 : (Kd.int .i64).K W a1 v1.cells.toList) :
    Calls Try.prog 8 #[v, v1] W fun e w' => e = .returned (.bool true) ∧ Below W.heap.size W w' := by
  obtain ⟨cs, rfl, _⟩ := s
  obtain ⟨n1, rfl⟩ := s1
  obtain rfl := int_cell c1
  obtain ⟨A2, c2, e, hl, hC⟩ := k25_open c
  obtain ⟨l⟩ := cs
  have e' : l = [.int .i64 a.f0, .int .u32 a.f1, .slice A2 a.f2.length c2] := by simpa [Value.cells] using e
  subst e'
  exact Limits_law a.f0 a.f1 n1 a.f2 A2 c2 W hC hl (u32r (show gint .u32 a.f1 from g.2.1)).1 (u32r (show gint .u32 a.f1 from g.2.1)).2 (fun x hx => u8r ((show gall (gint .u8) a.f2 from g.2.2) x hx))
end Go.Proofs.Ytmihibikhmldgaa.Run
