/- Proved: the law PopupSlide, called with any arguments, returns true and changes nothing that was there (no condition). -/
import Derived.Test.YtinchgipfaefbaaDoorLSlide
import Derived.Test.YtinchgipfaefbaaDoorOpen
namespace Go.Proofs.YtinchgipfaefbaaDoor.Run
open Go.RowKit Go.Proofs.YtinchgipfaefbaaDoor.Q Go.Proofs.YtinchgipfaefbaaDoor.Sl Go.Proofs.YtinchgipfaefbaaDoor.Open Go.Proofs.YtinchgipfaefbaaDoorW.PrintWords Go.Proofs.YtinchgipfaefbaaDoorW.PrintLast Go.Proofs.YtinchgipfaefbaaDoorW.PrintMore 
set_option linter.unusedVariables false

theorem in_u8 {n : Int} (h : gint .u8 n) : 0 ≤ n ∧ n < 256 := by
  have h2 : (Lit.int .u8 n).wf = true := h
  simp [Lit.wf, IntKind.min, IntKind.max, IntKind.bits, IntKind.signed] at h2
  omega
theorem in_u16 {n : Int} (h : gint .u16 n) : 0 ≤ n ∧ n < 65536 := by
  have h2 : (Lit.int .u16 n).wf = true := h
  simp [Lit.wf, IntKind.min, IntKind.max, IntKind.bits, IntKind.signed] at h2
  omega
theorem in_u32 {n : Int} (h : gint .u32 n) : 0 ≤ n ∧ n < 4294967296 := by
  have h2 : (Lit.int .u32 n).wf = true := h
  simp [Lit.wf, IntKind.min, IntKind.max, IntKind.bits, IntKind.signed] at h2
  omega
theorem in_i64 {n : Int} (h : gint .i64 n) : (-9223372036854775808) ≤ n ∧ n < 9223372036854775808 := by
  have h2 : (Lit.int .i64 n).wf = true := h
  simp [Lit.wf, IntKind.min, IntKind.max, IntKind.bits, IntKind.signed] at h2
  omega
theorem in_i32 {n : Int} (h : gint .i32 n) : (-2147483648) ≤ n ∧ n < 2147483648 := by
  have h2 : (Lit.int .i32 n).wf = true := h
  simp [Lit.wf, IntKind.min, IntKind.max, IntKind.bits, IntKind.signed] at h2
  omega
theorem int_cell {k : IntKind} {W : World} {n a : Int} (c : (Kd.int k).K W a (Value.int k n).cells.toList) : n = a := by
  have : [Value.int k n] = [Value.int k a] := c
  injection this with h
  injection h
theorem bool_cell {W : World} {n a : Bool} (c : Kd.bool.K W a (Value.bool n).cells.toList) : n = a := by
  have : [Value.bool n] = [Value.bool a] := c
  injection this with h
  injection h
theorem str_cell {W : World} {n a : ByteArray} (c : Kd.string.K W a (Value.string n).cells.toList) : n = a := by
  have : [Value.string n] = [Value.string a] := c
  injection this with h
  injection h
theorem PopupSlide_o0 : Opens Tryd.prog 27 (Kd.pair (Kd.int .i64) (Kd.pair (Kd.int .i64) (Kd.pair (Kd.pair (Kd.int .i64) (Kd.pair (Kd.int .i64) (Kd.pair (Kd.int .i64) (Kd.int .i64)))) (Kd.pair (Kd.int .i64) (Kd.pair (Kd.int .i64) (Kd.pair (Kd.int .i64) (Kd.pair (Kd.int .i64) (Kd.int .i64)))))))) (gpair (gint .i64) (gpair (gint .i64) (gpair (gpair (gint .i64) (gpair (gint .i64) (gpair (gint .i64) (gint .i64)))) (gpair (gint .i64) (gpair (gint .i64) (gpair (gint .i64) (gpair (gint .i64) (gint .i64)))))))) := (opens_struct Tryd.underlying27 (by kernel_rfl) (at_cons rfl (by kernel_rfl) rfl (opens_int Tryd.underlying3) (at_cons rfl (by kernel_rfl) rfl (opens_int Tryd.underlying3) (at_cons rfl (by kernel_rfl) rfl (opens_struct Tryd.underlying23 (by kernel_rfl) (at_cons rfl (by kernel_rfl) rfl (opens_int Tryd.underlying3) (at_cons rfl (by kernel_rfl) rfl (opens_int Tryd.underlying3) (at_cons rfl (by kernel_rfl) rfl (opens_int Tryd.underlying3) (at_last rfl (by kernel_rfl) (opens_int Tryd.underlying3)))))) (at_cons rfl (by kernel_rfl) rfl (opens_int Tryd.underlying3) (at_cons rfl (by kernel_rfl) rfl (opens_int Tryd.underlying3) (at_cons rfl (by kernel_rfl) rfl (opens_int Tryd.underlying3) (at_last rfl (by kernel_rfl) (opens_struct Tryd.underlying25 (by kernel_rfl) (at_cons rfl (by kernel_rfl) rfl (opens_int Tryd.underlying3) (at_last rfl (by kernel_rfl) (opens_int Tryd.underlying3))))))))))))
theorem PopupSlide_o1 : Opens Tryd.prog 23 (Kd.pair (Kd.int .i64) (Kd.pair (Kd.int .i64) (Kd.pair (Kd.int .i64) (Kd.int .i64)))) (gpair (gint .i64) (gpair (gint .i64) (gpair (gint .i64) (gint .i64)))) := (opens_struct Tryd.underlying23 (by kernel_rfl) (at_cons rfl (by kernel_rfl) rfl (opens_int Tryd.underlying3) (at_cons rfl (by kernel_rfl) rfl (opens_int Tryd.underlying3) (at_cons rfl (by kernel_rfl) rfl (opens_int Tryd.underlying3) (at_last rfl (by kernel_rfl) (opens_int Tryd.underlying3))))))
theorem struct0 {W : World} {a : Int × Int × (Int × Int × Int × Int) × Int × Int × Int × (Int × Int)} {cs : Array Value} (c : (Kd.pair (Kd.int .i64) (Kd.pair (Kd.int .i64) (Kd.pair (Kd.pair (Kd.int .i64) (Kd.pair (Kd.int .i64) (Kd.pair (Kd.int .i64) (Kd.int .i64)))) (Kd.pair (Kd.int .i64) (Kd.pair (Kd.int .i64) (Kd.pair (Kd.int .i64) (Kd.pair (Kd.int .i64) (Kd.int .i64)))))))).K W a (Value.agg cs).cells.toList) : cs = #[.int .i64 (a.1), .int .i64 (a.2.1), .int .i64 (a.2.2.1.1), .int .i64 (a.2.2.1.2.1), .int .i64 (a.2.2.1.2.2.1), .int .i64 (a.2.2.1.2.2.2), .int .i64 (a.2.2.2.1), .int .i64 (a.2.2.2.2.1), .int .i64 (a.2.2.2.2.2.1), .int .i64 (a.2.2.2.2.2.2.1), .int .i64 (a.2.2.2.2.2.2.2)] := by
  obtain ⟨c1_, r1_, e1_, h1_, t1_⟩ := c
  replace h1_ := show _ = _ from h1_
  obtain ⟨c2_, r2_, e2_, h2_, t2_⟩ := t1_
  replace h2_ := show _ = _ from h2_
  obtain ⟨c3_, r3_, e3_, h3_, t3_⟩ := t2_
  obtain ⟨c4_, r4_, e4_, h4_, t4_⟩ := h3_
  replace h4_ := show _ = _ from h4_
  obtain ⟨c5_, r5_, e5_, h5_, t5_⟩ := t4_
  replace h5_ := show _ = _ from h5_
  obtain ⟨c6_, r6_, e6_, h6_, t6_⟩ := t5_
  replace h6_ := show _ = _ from h6_
  replace t6_ := show _ = _ from t6_
  obtain ⟨c7_, r7_, e7_, h7_, t7_⟩ := t3_
  replace h7_ := show _ = _ from h7_
  obtain ⟨c8_, r8_, e8_, h8_, t8_⟩ := t7_
  replace h8_ := show _ = _ from h8_
  obtain ⟨c9_, r9_, e9_, h9_, t9_⟩ := t8_
  replace h9_ := show _ = _ from h9_
  obtain ⟨c10_, r10_, e10_, h10_, t10_⟩ := t9_
  replace h10_ := show _ = _ from h10_
  replace t10_ := show _ = _ from t10_
  have e0_ : cs.toList = _ := e1_
  apply Array.ext'
  rw [e0_]
  simp_all
theorem struct1 {W : World} {a : Int × Int × Int × Int} {cs : Array Value} (c : (Kd.pair (Kd.int .i64) (Kd.pair (Kd.int .i64) (Kd.pair (Kd.int .i64) (Kd.int .i64)))).K W a (Value.agg cs).cells.toList) : cs = #[.int .i64 (a.1), .int .i64 (a.2.1), .int .i64 (a.2.2.1), .int .i64 (a.2.2.2)] := by
  obtain ⟨c1_, r1_, e1_, h1_, t1_⟩ := c
  replace h1_ := show _ = _ from h1_
  obtain ⟨c2_, r2_, e2_, h2_, t2_⟩ := t1_
  replace h2_ := show _ = _ from h2_
  obtain ⟨c3_, r3_, e3_, h3_, t3_⟩ := t2_
  replace h3_ := show _ = _ from h3_
  replace t3_ := show _ = _ from t3_
  have e0_ : cs.toList = _ := e1_
  apply Array.ext'
  rw [e0_]
  simp_all
theorem PopupSlide_run (W : World) (hT : Q.Tab W) (v0 : Value) (s0 : ∃ cs, v0 = .agg cs ∧ cs.size = Tryd.prog.cellsOf 27) (a0 : Int × Int × (Int × Int × Int × Int) × Int × Int × Int × (Int × Int)) (g0 : (gpair (gint .i64) (gpair (gint .i64) (gpair (gpair (gint .i64) (gpair (gint .i64) (gpair (gint .i64) (gint .i64)))) (gpair (gint .i64) (gpair (gint .i64) (gpair (gint .i64) (gpair (gint .i64) (gint .i64)))))))) a0) (c0 : (Kd.pair (Kd.int .i64) (Kd.pair (Kd.int .i64) (Kd.pair (Kd.pair (Kd.int .i64) (Kd.pair (Kd.int .i64) (Kd.pair (Kd.int .i64) (Kd.int .i64)))) (Kd.pair (Kd.int .i64) (Kd.pair (Kd.int .i64) (Kd.pair (Kd.int .i64) (Kd.pair (Kd.int .i64) (Kd.int .i64)))))))).K W a0 v0.cells.toList) (v1 : Value) (s1 : ∃ cs, v1 = .agg cs ∧ cs.size = Tryd.prog.cellsOf 23) (a1 : Int × Int × Int × Int) (g1 : (gpair (gint .i64) (gpair (gint .i64) (gpair (gint .i64) (gint .i64)))) a1) (c1 : (Kd.pair (Kd.int .i64) (Kd.pair (Kd.int .i64) (Kd.pair (Kd.int .i64) (Kd.int .i64)))).K W a1 v1.cells.toList) :
    Calls Tryd.prog 10 #[v0, v1] W fun e w' => e = .returned (.bool true) ∧ Below W.heap.size W w' := by
  obtain ⟨cs0, rfl, _⟩ := s0
  have e0 : cs0 = #[.int .i64 (a0.1), .int .i64 (a0.2.1), .int .i64 (a0.2.2.1.1), .int .i64 (a0.2.2.1.2.1), .int .i64 (a0.2.2.1.2.2.1), .int .i64 (a0.2.2.1.2.2.2), .int .i64 (a0.2.2.2.1), .int .i64 (a0.2.2.2.2.1), .int .i64 (a0.2.2.2.2.2.1), .int .i64 (a0.2.2.2.2.2.2.1), .int .i64 (a0.2.2.2.2.2.2.2)] := struct0 c0
  subst e0
  obtain ⟨cs1, rfl, _⟩ := s1
  have e1 : cs1 = #[.int .i64 (a1.1), .int .i64 (a1.2.1), .int .i64 (a1.2.2.1), .int .i64 (a1.2.2.2)] := struct1 c1
  subst e1
  exact Q.Slide_law W hT ⟨a0.1, a0.2.1, a0.2.2.1.1, a0.2.2.1.2.1, a0.2.2.1.2.2.1, a0.2.2.1.2.2.2, a0.2.2.2.1, a0.2.2.2.2.1, a0.2.2.2.2.2.1, a0.2.2.2.2.2.2.1, a0.2.2.2.2.2.2.2⟩ a1.1 a1.2.1 a1.2.2.1 a1.2.2.2
end Go.Proofs.YtinchgipfaefbaaDoor.Run
