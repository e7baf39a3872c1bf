/- Proved: the law RepeatNil, called with any arguments, returns true and changes nothing that was there (no condition). -/
import Derived.Test.YtkpeeaekffclgaaNil
import Derived.Test.YtkpeeaekffclgaaOpen
namespace Go.Proofs.Ytkpeeaekffclgaa.Run
open Go.RowKit Go.Proofs.Ytkpeeaekffclgaa.Q Go.Proofs.Ytkpeeaekffclgaa.Open Go.Proofs.YtkpeeaekffclgaaW.PrintWords Go.Proofs.YtkpeeaekffclgaaW.PrintLast

set_option linter.unusedVariables false
def kOp3 : Kd (Int × Int × Int) := Kd.pair (Kd.int .i64) (Kd.pair (Kd.int .i64) (Kd.int .i64))
def goodOp3 : Int × Int × Int → Prop := gpair (gint .i64) (gpair (gint .i64) (gint .i64))
theorem RepeatNil_o0 : Opens Try.prog 33 kOp3 goodOp3 := by
  refine opens_struct Try.underlying33 (by kernel_rfl) ?_
  exact at_cons rfl (by kernel_rfl) rfl (opens_int Try.underlying3) (at_cons rfl (by kernel_rfl) rfl (opens_int Try.underlying3) (at_last rfl (by kernel_rfl) (opens_int Try.underlying3)))
theorem RepeatNil_run (W : World) (v0 : Value) (s0 : ∃ cs, v0 = .agg cs ∧ cs.size = Try.prog.cellsOf 33) (a0 : Int × Int × Int) (g0 : goodOp3 a0) (c0 : kOp3.K W a0 v0.cells.toList) :
    Calls Try.prog 8 #[v0] W fun e w' => e = .returned (.bool true) ∧ Below W.heap.size W w' := by
  obtain ⟨cs, rfl, _⟩ := s0
  have e : cs = #[.int .i64 a0.1, .int .i64 a0.2.1, .int .i64 a0.2.2] := by
    obtain ⟨c0, r0, e0, h0, d0, r1, e1, h1, h2⟩ := c0
    subst h0 h1 h2 e1
    obtain ⟨l⟩ := cs
    have : l = _ := e0
    subst this
    rfl
  subst e
  exact compositorlaw37_RepeatNil.calls _ _ _ W
end Go.Proofs.Ytkpeeaekffclgaa.Run
