/- Proved: the law QuotaSplit, called with any arguments, returns true and changes nothing that was there (no condition). -/
import Derived.Test.YtlfediaeaaodpaaE5
import Derived.Test.YtlfediaeaaodpaaOpen
namespace Go.Proofs.Ytlfediaeaaodpaa.Run
open Go.RowKit Go.Proofs.Ytlfediaeaaodpaa.Q Go.Proofs.Ytlfediaeaaodpaa.Sl Go.Proofs.Ytlfediaeaaodpaa.Open Go.Proofs.YtlfediaeaaodpaaW.PrintWords Go.Proofs.YtlfediaeaaodpaaW.PrintLast Go.Proofs.YtlfediaeaaodpaaW.PrintMore 
set_option linter.unusedVariables false

theorem in_u8 {n : Int} (h : gint .u8 n) : 0 ≤ n ∧ n < 256 := by
  have h2 : (Lit.int .u8 n).wf = true := h
  simp [Lit.wf, IntKind.min, IntKind.max, IntKind.bits, IntKind.signed] at h2
  omega
theorem in_u16 {n : Int} (h : gint .u16 n) : 0 ≤ n ∧ n < 65536 := by
  have h2 : (Lit.int .u16 n).wf = true := h
  simp [Lit.wf, IntKind.min, IntKind.max, IntKind.bits, IntKind.signed] at h2
  omega
theorem in_u32 {n : Int} (h : gint .u32 n) : 0 ≤ n ∧ n < 4294967296 := by
  have h2 : (Lit.int .u32 n).wf = true := h
  simp [Lit.wf, IntKind.min, IntKind.max, IntKind.bits, IntKind.signed] at h2
  omega
theorem in_i64 {n : Int} (h : gint .i64 n) : (-9223372036854775808) ≤ n ∧ n < 9223372036854775808 := by
  have h2 : (Lit.int .i64 n).wf = true := h
  simp [Lit.wf, IntKind.min, IntKind.max, IntKind.bits, IntKind.signed] at h2
  omega
theorem in_i32 {n : Int} (h : gint .i32 n) : (-2147483648) ≤ n ∧ n < 2147483648 := by
  have h2 : (Lit.int .i32 n).wf = true := h
  simp [Lit.wf, IntKind.min, IntKind.max, IntKind.bits, IntKind.signed] at h2
  omega
theorem int_cell {k : IntKind} {W : World} {n a : Int} (c : (Kd.int k).K W a (Value.int k n).cells.toList) : n = a := by
  have : [Value.int k n] = [Value.int k a] := c
  injection this with h
  injection h
theorem bool_cell {W : World} {n a : Bool} (c : Kd.bool.K W a (Value.bool n).cells.toList) : n = a := by
  have : [Value.bool n] = [Value.bool a] := c
  injection this with h
  injection h
theorem str_cell {W : World} {n a : ByteArray} (c : Kd.string.K W a (Value.string n).cells.toList) : n = a := by
  have : [Value.string n] = [Value.string a] := c
  injection this with h
  injection h
theorem QuotaSplit_o0 : Opens Try.prog 3 (Kd.int .i64) (gint .i64) := (opens_int Try.underlying3)
theorem QuotaSplit_o1 : Opens Try.prog 5 (Kd.int .u8) (gint .u8) := (opens_int Try.underlying5)
theorem QuotaSplit_o2 : Opens Try.prog 5 (Kd.int .u8) (gint .u8) := (opens_int Try.underlying5)
theorem QuotaSplit_run (W : World) (v0 : Value) (s0 : ∃ n, v0 = .int .i64 n) (a0 : Int) (g0 : (gint .i64) a0) (c0 : (Kd.int .i64).K W a0 v0.cells.toList) (v1 : Value) (s1 : ∃ n, v1 = .int .u8 n) (a1 : Int) (g1 : (gint .u8) a1) (c1 : (Kd.int .u8).K W a1 v1.cells.toList) (v2 : Value) (s2 : ∃ n, v2 = .int .u8 n) (a2 : Int) (g2 : (gint .u8) a2) (c2 : (Kd.int .u8).K W a2 v2.cells.toList) :
    Calls Try.prog 5 #[v0, v1, v2] W fun e w' => e = .returned (.bool true) ∧ Below W.heap.size W w' := by
  obtain ⟨n0, rfl⟩ := s0
  obtain rfl := int_cell c0
  obtain ⟨n1, rfl⟩ := s1
  obtain rfl := int_cell c1
  obtain ⟨n2, rfl⟩ := s2
  obtain rfl := int_cell c2
  exact Split_calls _ _ _ W (in_i64 g0).1 (in_i64 g0).2 (in_u8 g1).1 (in_u8 g1).2 (in_u8 g2).1 (in_u8 g2).2
end Go.Proofs.Ytlfediaeaaodpaa.Run
