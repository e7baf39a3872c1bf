/- Proved: the law ToplevelNil, called with any arguments, returns true and changes nothing that was there (no condition). -/
import Derived.Test.YtckpgccbhaejgaaT24
import Derived.Test.YtckpgccbhaejgaaOpen
namespace Go.Proofs.Ytckpgccbhaejgaa.Run
open Go.RowKit Go.Proofs.Ytckpgccbhaejgaa.Q Go.Proofs.Ytckpgccbhaejgaa.Sl Go.Proofs.Ytckpgccbhaejgaa.Open Go.Proofs.YtckpgccbhaejgaaW.PrintWords Go.Proofs.YtckpgccbhaejgaaW.PrintLast Go.Proofs.YtckpgccbhaejgaaW.PrintMore 
set_option linter.unusedVariables false

theorem in_u8 {n : Int} (h : gint .u8 n) : 0 ≤ n ∧ n < 256 := by
  have h2 : (Lit.int .u8 n).wf = true := h
  simp [Lit.wf, IntKind.min, IntKind.max, IntKind.bits, IntKind.signed] at h2
  omega
theorem in_u16 {n : Int} (h : gint .u16 n) : 0 ≤ n ∧ n < 65536 := by
  have h2 : (Lit.int .u16 n).wf = true := h
  simp [Lit.wf, IntKind.min, IntKind.max, IntKind.bits, IntKind.signed] at h2
  omega
theorem in_u32 {n : Int} (h : gint .u32 n) : 0 ≤ n ∧ n < 4294967296 := by
  have h2 : (Lit.int .u32 n).wf = true := h
  simp [Lit.wf, IntKind.min, IntKind.max, IntKind.bits, IntKind.signed] at h2
  omega
theorem in_i64 {n : Int} (h : gint .i64 n) : (-9223372036854775808) ≤ n ∧ n < 9223372036854775808 := by
  have h2 : (Lit.int .i64 n).wf = true := h
  simp [Lit.wf, IntKind.min, IntKind.max, IntKind.bits, IntKind.signed] at h2
  omega
theorem in_i32 {n : Int} (h : gint .i32 n) : (-2147483648) ≤ n ∧ n < 2147483648 := by
  have h2 : (Lit.int .i32 n).wf = true := h
  simp [Lit.wf, IntKind.min, IntKind.max, IntKind.bits, IntKind.signed] at h2
  omega
theorem int_cell {k : IntKind} {W : World} {n a : Int} (c : (Kd.int k).K W a (Value.int k n).cells.toList) : n = a := by
  have : [Value.int k n] = [Value.int k a] := c
  injection this with h
  injection h
theorem bool_cell {W : World} {n a : Bool} (c : Kd.bool.K W a (Value.bool n).cells.toList) : n = a := by
  have : [Value.bool n] = [Value.bool a] := c
  injection this with h
  injection h
theorem str_cell {W : World} {n a : ByteArray} (c : Kd.string.K W a (Value.string n).cells.toList) : n = a := by
  have : [Value.string n] = [Value.string a] := c
  injection this with h
  injection h
theorem ToplevelNil_o0 : Opens Try.prog 46 (Kd.pair (Kd.int .i64) (Kd.pair (Kd.int .i64) (Kd.pair (Kd.int .i64) (Kd.pair (Kd.int .i64) (Kd.pair Kd.bool (Kd.pair (Kd.pair (Kd.int .i64) (Kd.pair (Kd.int .i64) (Kd.pair (Kd.int .i64) (Kd.int .i64)))) Kd.string)))))) (gpair (gint .i64) (gpair (gint .i64) (gpair (gint .i64) (gpair (gint .i64) (gpair gany (gpair (gpair (gint .i64) (gpair (gint .i64) (gpair (gint .i64) (gint .i64)))) gstr)))))) := (opens_struct Try.underlying46 (by kernel_rfl) (at_cons rfl (by kernel_rfl) rfl (opens_int Try.underlying3) (at_cons rfl (by kernel_rfl) rfl (opens_int Try.underlying3) (at_cons rfl (by kernel_rfl) rfl (opens_int Try.underlying3) (at_cons rfl (by kernel_rfl) rfl (opens_int Try.underlying3) (at_cons rfl (by kernel_rfl) rfl (opens_bool Try.underlying4) (at_cons rfl (by kernel_rfl) rfl (opens_struct Try.underlying34 (by kernel_rfl) (at_cons rfl (by kernel_rfl) rfl (opens_int Try.underlying3) (at_cons rfl (by kernel_rfl) rfl (opens_int Try.underlying3) (at_cons rfl (by kernel_rfl) rfl (opens_int Try.underlying3) (at_last rfl (by kernel_rfl) (opens_int Try.underlying3)))))) (at_last rfl (by kernel_rfl) (opens_string Try.underlying9)))))))))
theorem struct0 {W : World} {a : Int × Int × Int × Int × Bool × (Int × Int × Int × Int) × ByteArray} {cs : Array Value} (c : (Kd.pair (Kd.int .i64) (Kd.pair (Kd.int .i64) (Kd.pair (Kd.int .i64) (Kd.pair (Kd.int .i64) (Kd.pair Kd.bool (Kd.pair (Kd.pair (Kd.int .i64) (Kd.pair (Kd.int .i64) (Kd.pair (Kd.int .i64) (Kd.int .i64)))) Kd.string)))))).K W a (Value.agg cs).cells.toList) : cs = #[.int .i64 (a.1), .int .i64 (a.2.1), .int .i64 (a.2.2.1), .int .i64 (a.2.2.2.1), .bool (a.2.2.2.2.1), .int .i64 (a.2.2.2.2.2.1.1), .int .i64 (a.2.2.2.2.2.1.2.1), .int .i64 (a.2.2.2.2.2.1.2.2.1), .int .i64 (a.2.2.2.2.2.1.2.2.2), .string (a.2.2.2.2.2.2)] := by
  obtain ⟨c1_, r1_, e1_, h1_, t1_⟩ := c
  replace h1_ := show _ = _ from h1_
  obtain ⟨c2_, r2_, e2_, h2_, t2_⟩ := t1_
  replace h2_ := show _ = _ from h2_
  obtain ⟨c3_, r3_, e3_, h3_, t3_⟩ := t2_
  replace h3_ := show _ = _ from h3_
  obtain ⟨c4_, r4_, e4_, h4_, t4_⟩ := t3_
  replace h4_ := show _ = _ from h4_
  obtain ⟨c5_, r5_, e5_, h5_, t5_⟩ := t4_
  replace h5_ := show _ = _ from h5_
  obtain ⟨c6_, r6_, e6_, h6_, t6_⟩ := t5_
  obtain ⟨c7_, r7_, e7_, h7_, t7_⟩ := h6_
  replace h7_ := show _ = _ from h7_
  obtain ⟨c8_, r8_, e8_, h8_, t8_⟩ := t7_
  replace h8_ := show _ = _ from h8_
  obtain ⟨c9_, r9_, e9_, h9_, t9_⟩ := t8_
  replace h9_ := show _ = _ from h9_
  replace t9_ := show _ = _ from t9_
  replace t6_ := show _ = _ from t6_
  have e0_ : cs.toList = _ := e1_
  apply Array.ext'
  rw [e0_]
  simp_all
theorem ToplevelNil_run (W : World) (v0 : Value) (s0 : ∃ cs, v0 = .agg cs ∧ cs.size = Try.prog.cellsOf 46) (a0 : Int × Int × Int × Int × Bool × (Int × Int × Int × Int) × ByteArray) (g0 : (gpair (gint .i64) (gpair (gint .i64) (gpair (gint .i64) (gpair (gint .i64) (gpair gany (gpair (gpair (gint .i64) (gpair (gint .i64) (gpair (gint .i64) (gint .i64)))) gstr)))))) a0) (c0 : (Kd.pair (Kd.int .i64) (Kd.pair (Kd.int .i64) (Kd.pair (Kd.int .i64) (Kd.pair (Kd.int .i64) (Kd.pair Kd.bool (Kd.pair (Kd.pair (Kd.int .i64) (Kd.pair (Kd.int .i64) (Kd.pair (Kd.int .i64) (Kd.int .i64)))) Kd.string)))))).K W a0 v0.cells.toList) :
    Calls Try.prog 7 #[v0] W fun e w' => e = .returned (.bool true) ∧ Below W.heap.size W w' := by
  obtain ⟨cs0, rfl, _⟩ := s0
  have e0 : cs0 = #[.int .i64 (a0.1), .int .i64 (a0.2.1), .int .i64 (a0.2.2.1), .int .i64 (a0.2.2.2.1), .bool (a0.2.2.2.2.1), .int .i64 (a0.2.2.2.2.2.1.1), .int .i64 (a0.2.2.2.2.2.1.2.1), .int .i64 (a0.2.2.2.2.2.1.2.2.1), .int .i64 (a0.2.2.2.2.2.1.2.2.2), .string (a0.2.2.2.2.2.2)] := struct0 c0
  subst e0
  exact Nil_law ⟨a0.1, a0.2.1, a0.2.2.1, a0.2.2.2.1, a0.2.2.2.2.1, ⟨a0.2.2.2.2.2.1.1, a0.2.2.2.2.2.1.2.1, a0.2.2.2.2.2.1.2.2.1, a0.2.2.2.2.2.1.2.2.2⟩, a0.2.2.2.2.2.2⟩ W
end Go.Proofs.Ytckpgccbhaejgaa.Run
