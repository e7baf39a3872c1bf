/- Proved: the law PopupFlip, called with any arguments, returns true and changes nothing that was there (no condition). -/
import Derived.Test.YtinchgipfaefbaaDoorLFlip
import Derived.Test.YtinchgipfaefbaaDoorOpen
namespace Go.Proofs.YtinchgipfaefbaaDoor.Run
open Go.RowKit Go.Proofs.YtinchgipfaefbaaDoor.Q Go.Proofs.YtinchgipfaefbaaDoor.Sl Go.Proofs.YtinchgipfaefbaaDoor.Open Go.Proofs.YtinchgipfaefbaaDoorW.PrintWords Go.Proofs.YtinchgipfaefbaaDoorW.PrintLast Go.Proofs.YtinchgipfaefbaaDoorW.PrintMore 
set_option linter.unusedVariables false

theorem in_u8 {n : Int} (h : gint .u8 n) : 0 ≤ n ∧ n < 256 := by
  have h2 : (Lit.int .u8 n).wf = true := h
  simp [Lit.wf, IntKind.min, IntKind.max, IntKind.bits, IntKind.signed] at h2
  omega
theorem in_u16 {n : Int} (h : gint .u16 n) : 0 ≤ n ∧ n < 65536 := by
  have h2 : (Lit.int .u16 n).wf = true := h
  simp [Lit.wf, IntKind.min, IntKind.max, IntKind.bits, IntKind.signed] at h2
  omega
theorem in_u32 {n : Int} (h : gint .u32 n) : 0 ≤ n ∧ n < 4294967296 := by
  have h2 : (Lit.int .u32 n).wf = true := h
  simp [Lit.wf, IntKind.min, IntKind.max, IntKind.bits, IntKind.signed] at h2
  omega
theorem in_i64 {n : Int} (h : gint .i64 n) : (-9223372036854775808) ≤ n ∧ n < 9223372036854775808 := by
  have h2 : (Lit.int .i64 n).wf = true := h
  simp [Lit.wf, IntKind.min, IntKind.max, IntKind.bits, IntKind.signed] at h2
  omega
theorem in_i32 {n : Int} (h : gint .i32 n) : (-2147483648) ≤ n ∧ n < 2147483648 := by
  have h2 : (Lit.int .i32 n).wf = true := h
  simp [Lit.wf, IntKind.min, IntKind.max, IntKind.bits, IntKind.signed] at h2
  omega
theorem int_cell {k : IntKind} {W : World} {n a : Int} (c : (Kd.int k).K W a (Value.int k n).cells.toList) : n = a := by
  have : [Value.int k n] = [Value.int k a] := c
  injection this with h
  injection h
theorem bool_cell {W : World} {n a : Bool} (c : Kd.bool.K W a (Value.bool n).cells.toList) : n = a := by
  have : [Value.bool n] = [Value.bool a] := c
  injection this with h
  injection h
theorem str_cell {W : World} {n a : ByteArray} (c : Kd.string.K W a (Value.string n).cells.toList) : n = a := by
  have : [Value.string n] = [Value.string a] := c
  injection this with h
  injection h
theorem PopupFlip_o0 : Opens Tryd.prog 3 (Kd.int .i64) (gint .i64) := (opens_int Tryd.underlying3)
theorem PopupFlip_o1 : Opens Tryd.prog 4 Kd.bool gany := (opens_bool Tryd.underlying4)
theorem PopupFlip_run (W : World) (hT : Q.Tab W) (v0 : Value) (s0 : ∃ n, v0 = .int .i64 n) (a0 : Int) (g0 : (gint .i64) a0) (c0 : (Kd.int .i64).K W a0 v0.cells.toList) (v1 : Value) (s1 : ∃ b, v1 = .bool b) (a1 : Bool) (g1 : gany a1) (c1 : Kd.bool.K W a1 v1.cells.toList) :
    Calls Tryd.prog 4 #[v0, v1] W fun e w' => e = .returned (.bool true) ∧ Below W.heap.size W w' := by
  obtain ⟨n0, rfl⟩ := s0
  obtain rfl := int_cell c0
  obtain ⟨n1, rfl⟩ := s1
  obtain rfl := bool_cell c1
  exact Q.Flip_law W hT _ _
end Go.Proofs.YtinchgipfaefbaaDoor.Run
