/- Proved: the law WirePuts, called with any bytes and any value, returns true and changes nothing that was there (no condition). -/
import Derived.Test.YtmihibikhmldgaaPts
import Derived.Test.YtmihibikhmldgaaOpen
namespace Go.Proofs.Ytmihibikhmldgaa.Run
set_option linter.unusedVariables false
open Go.RowKit Go.Proofs.Ytmihibikhmldgaa.Q Go.Proofs.Ytmihibikhmldgaa.Sl Go.Proofs.Ytmihibikhmldgaa.Open Go.Proofs.YtmihibikhmldgaaW.PrintWords Go.Proofs.YtmihibikhmldgaaW.PrintLast
def good25 : S25 → Prop := giso (gpair (gint .i64) (gpair (gint .u32) (gall (gint .u8)))) (fun x : S25 => (x.f0, x.f1, x.f2))
theorem opens25 : Opens Try.prog 25 k25 good25 := by
  refine opens_iso (fun x : S25 => (x.f0, x.f1, x.f2)) (fun a => ⟨a.1, a.2.1, a.2.2⟩) (fun _ => rfl) (opens_struct Try.underlying25 (by kernel_rfl) ?_)
  exact at_cons rfl (by kernel_rfl) rfl (opens_int Try.underlying3) (at_cons rfl (by kernel_rfl) rfl (opens_int Try.underlying23) (at_last rfl (by kernel_rfl) (opens_slice Try.underlying22 (by kernel_rfl) (opens_int Try.underlying5))))
theorem u32r {x : Int} (h : (Lit.int .u32 x).wf = true) : 0 ≤ x ∧ x < 4294967296 := by
  simp [Lit.wf, IntKind.min, IntKind.max, IntKind.signed, IntKind.bits] at h
  omega
theorem u8r {x : Int} (h : (Lit.int .u8 x).wf = true) : 0 ≤ x ∧ x < 256 := by
  simp [Lit.wf, IntKind.min, IntKind.max, IntKind.signed, IntKind.bits] at h
  omega
theorem int_cell {k : IntKind} {W : World} {n a : Int} (c : (Kd.int k).K W a (Value.int k n).cells.toList) : n = a := by
  have : [Value.int k n] = [Value.int k a] := c
  injection this with h
  injection h
theorem WirePuts_o0 : Opens Try.prog 22 (Kd.slice 5 (Kd.int .u8)) (gall (gint .u8)) := opens_slice Try.underlying22 (by kernel_rfl) (opens_int Try.underlying5)
theorem WirePuts_o1 : Opens Try.prog 25 k25 good25 := opens25
theorem WirePuts_run (W : World) (v0 : Value) (s0 : ∃ a len cap, v0 = .slice a len cap) (a0 : List Int) (g0 : gall (gint .u8) a0) (c0 : (Kd.slice 5 (Kd.int .u8)).K W a0 v0.cells.toList) (v : Value) (s : ∃ cs, v = .agg cs ∧ cs.size = Try.prog.cellsOf 25) (a : S25) (g : good25 a) (c : k25.K W a v.cells.toList) :
    Calls Try.prog 3 #[v0, v] W fun e w' => e = .returned (.bool true) ∧ Below W.heap.size W w' := by
  obtain ⟨_, _, _, rfl⟩ := s0
  obtain ⟨A0, c0x, hv0, hc0, hr0⟩ := c0
  injection hv0 with hv0
  rw [hv0]
  obtain ⟨cs, rfl, _⟩ := s
  obtain ⟨A2, c2, e, hl, hC⟩ := k25_open c
  obtain ⟨l⟩ := cs
  have e' : l = [.int .i64 a.f0, .int .u32 a.f1, .slice A2 a.f2.length c2] := by simpa [Value.cells] using e
  subst e'
  exact Puts_law A0 A2 c0x c2 a0 a.f2 a.f0 a.f1 W hr0 hc0 hC hl (u32r (show gint .u32 a.f1 from g.2.1)).1 (u32r (show gint .u32 a.f1 from g.2.1)).2 (fun x hx => u8r ((show gall (gint .u8) a.f2 from g.2.2) x hx))
end Go.Proofs.Ytmihibikhmldgaa.Run
