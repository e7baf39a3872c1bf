/- Proved: the law IdentLimit, called with any arguments, returns true and changes nothing that was there (no condition). -/
import Derived.Test.YtegkkomlpgappaaL2
import Derived.Test.YtegkkomlpgappaaOpen
namespace Go.Proofs.Ytegkkomlpgappaa.Run
open Go.RowKit Go.Proofs.Ytegkkomlpgappaa.Q Go.Proofs.Ytegkkomlpgappaa.Sl Go.Proofs.Ytegkkomlpgappaa.Open Go.Proofs.YtegkkomlpgappaaW.PrintWords Go.Proofs.YtegkkomlpgappaaW.PrintLast Go.Proofs.YtegkkomlpgappaaW.PrintMore 
set_option linter.unusedVariables false

theorem in_u8 {n : Int} (h : gint .u8 n) : 0 ≤ n ∧ n < 256 := by
  have h2 : (Lit.int .u8 n).wf = true := h
  simp [Lit.wf, IntKind.min, IntKind.max, IntKind.bits, IntKind.signed] at h2
  omega
theorem in_u16 {n : Int} (h : gint .u16 n) : 0 ≤ n ∧ n < 65536 := by
  have h2 : (Lit.int .u16 n).wf = true := h
  simp [Lit.wf, IntKind.min, IntKind.max, IntKind.bits, IntKind.signed] at h2
  omega
theorem in_u32 {n : Int} (h : gint .u32 n) : 0 ≤ n ∧ n < 4294967296 := by
  have h2 : (Lit.int .u32 n).wf = true := h
  simp [Lit.wf, IntKind.min, IntKind.max, IntKind.bits, IntKind.signed] at h2
  omega
theorem in_i64 {n : Int} (h : gint .i64 n) : (-9223372036854775808) ≤ n ∧ n < 9223372036854775808 := by
  have h2 : (Lit.int .i64 n).wf = true := h
  simp [Lit.wf, IntKind.min, IntKind.max, IntKind.bits, IntKind.signed] at h2
  omega
theorem in_i32 {n : Int} (h : gint .i32 n) : (-2147483648) ≤ n ∧ n < 2147483648 := by
  have h2 : (Lit.int .i32 n).wf = true := h
  simp [Lit.wf, IntKind.min, IntKind.max, IntKind.bits, IntKind.signed] at h2
  omega
theorem int_cell {k : IntKind} {W : World} {n a : Int} (c : (Kd.int k).K W a (Value.int k n).cells.toList) : n = a := by
  have : [Value.int k n] = [Value.int k a] := c
  injection this with h
  injection h
theorem bool_cell {W : World} {n a : Bool} (c : Kd.bool.K W a (Value.bool n).cells.toList) : n = a := by
  have : [Value.bool n] = [Value.bool a] := c
  injection this with h
  injection h
theorem str_cell {W : World} {n a : ByteArray} (c : Kd.string.K W a (Value.string n).cells.toList) : n = a := by
  have : [Value.string n] = [Value.string a] := c
  injection this with h
  injection h
theorem IdentLimit_o0 : Opens Try.prog 4 Kd.bool gany := (opens_bool Try.underlying4)
theorem IdentLimit_o1 : Opens Try.prog 5 (Kd.int .u8) (gint .u8) := (opens_int Try.underlying5)
theorem IdentLimit_run (W : World) (v0 : Value) (s0 : ∃ b, v0 = .bool b) (a0 : Bool) (g0 : gany a0) (c0 : Kd.bool.K W a0 v0.cells.toList) (v1 : Value) (s1 : ∃ n, v1 = .int .u8 n) (a1 : Int) (g1 : (gint .u8) a1) (c1 : (Kd.int .u8).K W a1 v1.cells.toList) :
    Calls Try.prog 3 #[v0, v1] W fun e w' => e = .returned (.bool true) ∧ Below W.heap.size W w' := by
  obtain ⟨n0, rfl⟩ := s0
  obtain rfl := bool_cell c0
  obtain ⟨n1, rfl⟩ := s1
  obtain rfl := int_cell c1
  exact Limit_law _ _ W (in_u8 g1).1 (in_u8 g1).2
end Go.Proofs.Ytegkkomlpgappaa.Run
