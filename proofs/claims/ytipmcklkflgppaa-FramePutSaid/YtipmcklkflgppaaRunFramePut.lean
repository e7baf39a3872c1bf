/- Proved: the law FramePut, called with any frame, returns true and changes nothing that was there (no condition). -/
import Derived.Test.YtipmcklkflgppaaPlainA
import Derived.Test.YtipmcklkflgppaaQx8
import Derived.Test.YtipmcklkflgppaaOpen
namespace Go.Proofs.Ytipmcklkflgppaa.Run
open Go.RowKit Go.Proofs.Ytipmcklkflgppaa.Q Go.Proofs.Ytipmcklkflgppaa.Open Go.Proofs.Ytipmcklkflgppaa.Plain Go.Proofs.YtipmcklkflgppaaW.PrintWords Go.Proofs.YtipmcklkflgppaaW.PrintLast

def good25 : S25 → Prop := giso (gpair (gint .u32) (gpair (gint .i64) (gall (gint .u8)))) (fun x : S25 => (x.f0, x.f1, x.f2))
theorem opens25 : Opens Try.prog 25 k25 good25 := by
  refine opens_iso (fun x : S25 => (x.f0, x.f1, x.f2)) (fun a => ⟨a.1, a.2.1, a.2.2⟩) (fun _ => rfl) (opens_struct Try.underlying25 (by kernel_rfl) ?_)
  exact at_cons rfl (by kernel_rfl) rfl (opens_int Try.underlying22) (at_cons rfl (by kernel_rfl) rfl (opens_int Try.underlying3) (at_last rfl (by kernel_rfl) (opens_slice Try.underlying23 (by kernel_rfl) (opens_int Try.underlying5))))
theorem FramePut_o0 : Opens Try.prog 25 k25 good25 := opens25
theorem u32r {x : Int} (h : (Lit.int .u32 x).wf = true) : 0 ≤ x ∧ x < 4294967296 := by
  simp [Lit.wf, IntKind.min, IntKind.max, IntKind.signed, IntKind.bits] at h
  omega
theorem FramePut_f (o c : Int) (b : List Int) (h0 : 0 ≤ o) (h1 : o < 4294967296) : compositorlaw02_FramePut.f 20 o c b = some true := by
  unfold compositorlaw02_FramePut.f
  by_cases hc : (b.length : Int) > 6000
  · rw [if_pos hc]; rfl
  rw [if_neg hc, Put_f o c b (by omega) _ (by omega), refPut_f o c b h0 h1 (by omega) _ (by omega)]
  simp only [Option.bind_some, if_true]
  rfl
theorem FramePut_run (W : World) (v : Value) (s : ∃ cs, v = .agg cs ∧ cs.size = Try.prog.cellsOf 25) (a : S25) (g : good25 a) (c : k25.K W a v.cells.toList) :
    Calls Try.prog 3 #[v] W fun e w' => e = .returned (.bool true) ∧ Below W.heap.size W w' := by
  obtain ⟨cs, rfl, _⟩ := s
  obtain ⟨A2, c2, e, hl, hC⟩ := k25_open c
  obtain ⟨l⟩ := cs
  have e' : l = [.int .u32 a.f0, .int .i64 a.f1, .slice A2 a.f2.length c2] := by simpa [Value.cells] using e
  subst e'
  exact compositorlaw02_FramePut.calls 20 a.f0 a.f1 A2 c2 a.f2 true W hC hl (FramePut_f _ _ _ (u32r (show gint .u32 a.f0 from g.1)).1 (u32r (show gint .u32 a.f0 from g.1)).2)
end Go.Proofs.Ytipmcklkflgppaa.Run
