/- Proved: the law ToplevelRuns, called with any arguments, returns true and changes nothing that was there (no condition). -/
import Derived.Test.YtckpgccbhaejgaaT29
import Derived.Test.YtckpgccbhaejgaaOpen
namespace Go.Proofs.Ytckpgccbhaejgaa.Run
open Go.RowKit Go.Proofs.Ytckpgccbhaejgaa.Q Go.Proofs.Ytckpgccbhaejgaa.Sl Go.Proofs.Ytckpgccbhaejgaa.Open Go.Proofs.YtckpgccbhaejgaaW.PrintWords Go.Proofs.YtckpgccbhaejgaaW.PrintLast Go.Proofs.YtckpgccbhaejgaaW.PrintMore 
set_option linter.unusedVariables false

def good34 (x : S34) : Prop := giso (gpair (gint .i64) (gpair (gint .i64) (gpair (gint .i64) (gint .i64)))) (fun x : S34 => (x.f0, x.f1, x.f2, x.f3)) x
theorem opens34 : Opens Try.prog 34 k34 good34 := opens_iso (fun x : S34 => (x.f0, x.f1, x.f2, x.f3)) (fun t => ⟨t.1, t.2.1, t.2.2.1, t.2.2.2⟩) (fun _ => rfl) (opens_struct Try.underlying34 (by kernel_rfl) (at_cons rfl (by kernel_rfl) rfl (opens_int Try.underlying3) (at_cons rfl (by kernel_rfl) rfl (opens_int Try.underlying3) (at_cons rfl (by kernel_rfl) rfl (opens_int Try.underlying3) (at_last rfl (by kernel_rfl) (opens_int Try.underlying3))))))
def good46 (x : S46) : Prop := giso (gpair (gint .i64) (gpair (gint .i64) (gpair (gint .i64) (gpair (gint .i64) (gpair gany (gpair good34 gstr)))))) (fun x : S46 => (x.f0, x.f1, x.f2, x.f3, x.f4, x.f5, x.f6)) x
theorem opens46 : Opens Try.prog 46 k46 good46 := opens_iso (fun x : S46 => (x.f0, x.f1, x.f2, x.f3, x.f4, x.f5, x.f6)) (fun t => ⟨t.1, t.2.1, t.2.2.1, t.2.2.2.1, t.2.2.2.2.1, t.2.2.2.2.2.1, t.2.2.2.2.2.2⟩) (fun _ => rfl) (opens_struct Try.underlying46 (by kernel_rfl) (at_cons rfl (by kernel_rfl) rfl (opens_int Try.underlying3) (at_cons rfl (by kernel_rfl) rfl (opens_int Try.underlying3) (at_cons rfl (by kernel_rfl) rfl (opens_int Try.underlying3) (at_cons rfl (by kernel_rfl) rfl (opens_int Try.underlying3) (at_cons rfl (by kernel_rfl) rfl (opens_bool Try.underlying4) (at_cons rfl (by kernel_rfl) rfl opens34 (at_last rfl (by kernel_rfl) (opens_string Try.underlying9)))))))))
theorem ToplevelRuns_o0 : Opens Try.prog 36 (Kd.slice 46 k46) (gall good46) := (opens_slice Try.underlying36 (by kernel_rfl) opens46)
theorem ToplevelRuns_run (W : World) (v0 : Value) (s0 : ∃ a len cap, v0 = .slice a len cap) (a0 : List (S46)) (g0 : (gall good46) a0) (c0 : (Kd.slice 46 k46).K W a0 v0.cells.toList) :
    Calls Try.prog 4 #[v0] W fun e w' => e = .returned (.bool true) ∧ Below W.heap.size W w' := by
  obtain ⟨_, _, _, rfl⟩ := s0
  obtain ⟨A0, c0x, hv0, hc0, hr0⟩ := c0
  injection hv0 with hv0
  rw [hv0]
  exact Runs_law _ _ _ W hr0 hc0
end Go.Proofs.Ytckpgccbhaejgaa.Run
