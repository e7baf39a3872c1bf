/- Proved: the law RepeatRate, called with any arguments, returns true and changes nothing that was there (no condition). -/
import Derived.Test.YtkpeeaekffclgaaRate
import Derived.Test.YtkpeeaekffclgaaOpen
namespace Go.Proofs.Ytkpeeaekffclgaa.Run
open Go.RowKit Go.Proofs.Ytkpeeaekffclgaa.Q Go.Proofs.Ytkpeeaekffclgaa.Open Go.Proofs.Ytkpeeaekffclgaa.Plain Go.Proofs.YtkpeeaekffclgaaW.PrintWords Go.Proofs.YtkpeeaekffclgaaW.PrintLast

set_option linter.unusedVariables false
def kAsk3 : Kd (Int × Int × Int × Int) := Kd.pair (Kd.int .i64) (Kd.pair (Kd.int .i64) (Kd.pair (Kd.int .i64) (Kd.int .i64)))
def goodAsk3 : Int × Int × Int × Int → Prop := gpair (gint .i64) (gpair (gint .i64) (gpair (gint .i64) (gint .i64)))
theorem RepeatRate_o0 : Opens Try.prog 48 kAsk3 goodAsk3 := by
  refine opens_struct Try.underlying48 (by kernel_rfl) ?_
  exact at_cons rfl (by kernel_rfl) rfl (opens_int Try.underlying3) (at_cons rfl (by kernel_rfl) rfl (opens_int Try.underlying3) (at_cons rfl (by kernel_rfl) rfl (opens_int Try.underlying3) (at_last rfl (by kernel_rfl) (opens_int Try.underlying3))))
theorem RepeatRate_o1 : Opens Try.prog 3 (Kd.int .i64) (gint .i64) := opens_int Try.underlying3
theorem ask_cells3 {W : World} {a : Int × Int × Int × Int} {cs : Array Value} (c : kAsk3.K W a (Value.agg cs).cells.toList) : cs = #[.int .i64 a.1, .int .i64 a.2.1, .int .i64 a.2.2.1, .int .i64 a.2.2.2] := by
  obtain ⟨c0, r0, e0, h0, d0, r1, e1, h1, d1, d2, e2, h2, h3⟩ := c
  subst h0 h1 h2 h3 e2 e1
  obtain ⟨l⟩ := cs
  have : l = _ := e0
  subst this
  rfl
theorem RepeatRate_run (W : World) (v0 : Value) (s0 : ∃ cs, v0 = .agg cs ∧ cs.size = Try.prog.cellsOf 48) (a0 : Int × Int × Int × Int) (g0 : goodAsk3 a0) (c0 : kAsk3.K W a0 v0.cells.toList) (v1 : Value) (s1 : ∃ n, v1 = .int .i64 n) (a1 : Int) (g1 : gint .i64 a1) (c1 : (Kd.int .i64).K W a1 v1.cells.toList) :
    Calls Try.prog 6 #[v0, v1] W fun e w' => e = .returned (.bool true) ∧ Below W.heap.size W w' := by
  obtain ⟨cs, rfl, _⟩ := s0
  obtain ⟨n, rfl⟩ := s1
  have e1 : n = a1 := by have : [Value.int IntKind.i64 n] = [Value.int IntKind.i64 a1] := c1; injection this with h; injection h
  subst e1
  rw [ask_cells3 c0]
  exact RepeatRate.calls _ _ _ _ _ W
end Go.Proofs.Ytkpeeaekffclgaa.Run
