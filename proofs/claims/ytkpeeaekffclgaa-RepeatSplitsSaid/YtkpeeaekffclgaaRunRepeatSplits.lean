/- Proved: the law RepeatSplits, called with any arguments, returns true and changes nothing that was there (no condition). -/
import Derived.Test.YtkpeeaekffclgaaSp
import Derived.Test.YtkpeeaekffclgaaOpen
namespace Go.Proofs.Ytkpeeaekffclgaa.Run
open Go.RowKit Go.Proofs.Ytkpeeaekffclgaa.Q Go.Proofs.Ytkpeeaekffclgaa.Sl Go.Proofs.Ytkpeeaekffclgaa.Open Go.Proofs.YtkpeeaekffclgaaW.PrintWords Go.Proofs.YtkpeeaekffclgaaW.PrintLast Go.Proofs.YtkpeeaekffclgaaW.PrintMore Go.Proofs.Ytkpeeaekffclgaa.Plain
set_option linter.unusedVariables false

theorem in_u8 {n : Int} (h : gint .u8 n) : 0 ≤ n ∧ n < 256 := by
  have h2 : (Lit.int .u8 n).wf = true := h
  simp [Lit.wf, IntKind.min, IntKind.max, IntKind.bits, IntKind.signed] at h2
  omega
theorem in_u16 {n : Int} (h : gint .u16 n) : 0 ≤ n ∧ n < 65536 := by
  have h2 : (Lit.int .u16 n).wf = true := h
  simp [Lit.wf, IntKind.min, IntKind.max, IntKind.bits, IntKind.signed] at h2
  omega
theorem in_u32 {n : Int} (h : gint .u32 n) : 0 ≤ n ∧ n < 4294967296 := by
  have h2 : (Lit.int .u32 n).wf = true := h
  simp [Lit.wf, IntKind.min, IntKind.max, IntKind.bits, IntKind.signed] at h2
  omega
theorem in_i64 {n : Int} (h : gint .i64 n) : (-9223372036854775808) ≤ n ∧ n < 9223372036854775808 := by
  have h2 : (Lit.int .i64 n).wf = true := h
  simp [Lit.wf, IntKind.min, IntKind.max, IntKind.bits, IntKind.signed] at h2
  omega
theorem in_i32 {n : Int} (h : gint .i32 n) : (-2147483648) ≤ n ∧ n < 2147483648 := by
  have h2 : (Lit.int .i32 n).wf = true := h
  simp [Lit.wf, IntKind.min, IntKind.max, IntKind.bits, IntKind.signed] at h2
  omega
theorem int_cell {k : IntKind} {W : World} {n a : Int} (c : (Kd.int k).K W a (Value.int k n).cells.toList) : n = a := by
  have : [Value.int k n] = [Value.int k a] := c
  injection this with h
  injection h
theorem bool_cell {W : World} {n a : Bool} (c : Kd.bool.K W a (Value.bool n).cells.toList) : n = a := by
  have : [Value.bool n] = [Value.bool a] := c
  injection this with h
  injection h
theorem str_cell {W : World} {n a : ByteArray} (c : Kd.string.K W a (Value.string n).cells.toList) : n = a := by
  have : [Value.string n] = [Value.string a] := c
  injection this with h
  injection h
theorem RepeatSplits_o0 : Opens Try.prog 48 (Kd.pair (Kd.int .i64) (Kd.pair (Kd.int .i64) (Kd.pair (Kd.int .i64) (Kd.int .i64)))) (gpair (gint .i64) (gpair (gint .i64) (gpair (gint .i64) (gint .i64)))) := (opens_struct Try.underlying48 (by kernel_rfl) (at_cons rfl (by kernel_rfl) rfl (opens_int Try.underlying3) (at_cons rfl (by kernel_rfl) rfl (opens_int Try.underlying3) (at_cons rfl (by kernel_rfl) rfl (opens_int Try.underlying3) (at_last rfl (by kernel_rfl) (opens_int Try.underlying3))))))
theorem RepeatSplits_o1 : Opens Try.prog 55 (Kd.slice 3 (Kd.int .i64)) (gall (gint .i64)) := (opens_slice Try.underlying55 (by kernel_rfl) (opens_int Try.underlying3))
theorem struct0 {W : World} {a : Int × Int × Int × Int} {cs : Array Value} (c : (Kd.pair (Kd.int .i64) (Kd.pair (Kd.int .i64) (Kd.pair (Kd.int .i64) (Kd.int .i64)))).K W a (Value.agg cs).cells.toList) : cs = #[.int .i64 (a.1), .int .i64 (a.2.1), .int .i64 (a.2.2.1), .int .i64 (a.2.2.2)] := by
  obtain ⟨c1_, r1_, e1_, h1_, t1_⟩ := c
  replace h1_ := show _ = _ from h1_
  obtain ⟨c2_, r2_, e2_, h2_, t2_⟩ := t1_
  replace h2_ := show _ = _ from h2_
  obtain ⟨c3_, r3_, e3_, h3_, t3_⟩ := t2_
  replace h3_ := show _ = _ from h3_
  replace t3_ := show _ = _ from t3_
  have e0_ : cs.toList = _ := e1_
  apply Array.ext'
  rw [e0_]
  simp_all
theorem RepeatSplits_run (W : World) (v0 : Value) (s0 : ∃ cs, v0 = .agg cs ∧ cs.size = Try.prog.cellsOf 48) (a0 : Int × Int × Int × Int) (g0 : (gpair (gint .i64) (gpair (gint .i64) (gpair (gint .i64) (gint .i64)))) a0) (c0 : (Kd.pair (Kd.int .i64) (Kd.pair (Kd.int .i64) (Kd.pair (Kd.int .i64) (Kd.int .i64)))).K W a0 v0.cells.toList) (v1 : Value) (s1 : ∃ a len cap, v1 = .slice a len cap) (a1 : List (Int)) (g1 : (gall (gint .i64)) a1) (c1 : (Kd.slice 3 (Kd.int .i64)).K W a1 v1.cells.toList) :
    Calls Try.prog 5 #[v0, v1] W fun e w' => e = .returned (.bool true) ∧ Below W.heap.size W w' := by
  obtain ⟨cs0, rfl, _⟩ := s0
  have e0 : cs0 = #[.int .i64 (a0.1), .int .i64 (a0.2.1), .int .i64 (a0.2.2.1), .int .i64 (a0.2.2.2)] := struct0 c0
  subst e0
  obtain ⟨_, _, _, rfl⟩ := s1
  obtain ⟨A1, c1x, hv1, hc1, hr1⟩ := c1
  injection hv1 with hv1
  rw [hv1]
  exact RepeatSplits.calls _ _ _ _ _ _ _ W hr1 hc1
end Go.Proofs.Ytkpeeaekffclgaa.Run
