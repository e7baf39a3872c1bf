/- Proved: the law QuotaNil, called with any arguments, returns true and changes nothing that was there (no condition). -/
import Derived.Test.YtlfediaeaaodpaaE10
import Derived.Test.YtlfediaeaaodpaaOpen
namespace Go.Proofs.Ytlfediaeaaodpaa.Run
open Go.RowKit Go.Proofs.Ytlfediaeaaodpaa.Q Go.Proofs.Ytlfediaeaaodpaa.Sl Go.Proofs.Ytlfediaeaaodpaa.Open Go.Proofs.YtlfediaeaaodpaaW.PrintWords Go.Proofs.YtlfediaeaaodpaaW.PrintLast Go.Proofs.YtlfediaeaaodpaaW.PrintMore 
set_option linter.unusedVariables false

theorem in_u8 {n : Int} (h : gint .u8 n) : 0 ≤ n ∧ n < 256 := by
  have h2 : (Lit.int .u8 n).wf = true := h
  simp [Lit.wf, IntKind.min, IntKind.max, IntKind.bits, IntKind.signed] at h2
  omega
theorem in_u16 {n : Int} (h : gint .u16 n) : 0 ≤ n ∧ n < 65536 := by
  have h2 : (Lit.int .u16 n).wf = true := h
  simp [Lit.wf, IntKind.min, IntKind.max, IntKind.bits, IntKind.signed] at h2
  omega
theorem in_u32 {n : Int} (h : gint .u32 n) : 0 ≤ n ∧ n < 4294967296 := by
  have h2 : (Lit.int .u32 n).wf = true := h
  simp [Lit.wf, IntKind.min, IntKind.max, IntKind.bits, IntKind.signed] at h2
  omega
theorem in_i64 {n : Int} (h : gint .i64 n) : (-9223372036854775808) ≤ n ∧ n < 9223372036854775808 := by
  have h2 : (Lit.int .i64 n).wf = true := h
  simp [Lit.wf, IntKind.min, IntKind.max, IntKind.bits, IntKind.signed] at h2
  omega
theorem in_i32 {n : Int} (h : gint .i32 n) : (-2147483648) ≤ n ∧ n < 2147483648 := by
  have h2 : (Lit.int .i32 n).wf = true := h
  simp [Lit.wf, IntKind.min, IntKind.max, IntKind.bits, IntKind.signed] at h2
  omega
theorem int_cell {k : IntKind} {W : World} {n a : Int} (c : (Kd.int k).K W a (Value.int k n).cells.toList) : n = a := by
  have : [Value.int k n] = [Value.int k a] := c
  injection this with h
  injection h
theorem bool_cell {W : World} {n a : Bool} (c : Kd.bool.K W a (Value.bool n).cells.toList) : n = a := by
  have : [Value.bool n] = [Value.bool a] := c
  injection this with h
  injection h
theorem str_cell {W : World} {n a : ByteArray} (c : Kd.string.K W a (Value.string n).cells.toList) : n = a := by
  have : [Value.string n] = [Value.string a] := c
  injection this with h
  injection h
theorem QuotaNil_o0 : Opens Try.prog 3 (Kd.int .i64) (gint .i64) := (opens_int Try.underlying3)
theorem QuotaNil_o1 : Opens Try.prog 3 (Kd.int .i64) (gint .i64) := (opens_int Try.underlying3)
theorem QuotaNil_o2 : Opens Try.prog 58 (Kd.arr 2 (Kd.int .i64) (by decide)) (gall (gint .i64)) := (opens_array Try.underlying58 (by kernel_rfl) (by kernel_rfl) (by decide) (opens_int Try.underlying3))
theorem okWide_array {P : Program} {w : World} {r : Reach} {base : Nat} {t e : TypeId} {n : Nat} {v : Value} (ht : P.underlying t = some (.array n e)) (h : Value.okWide P w r base t v) : ∃ cs, v = .agg cs ∧ cs.size = P.cellsOf t := by
  simp only [Value.okWide, ht] at h
  obtain ⟨cs, h1, h2, _⟩ := h
  exact ⟨cs, h1, h2⟩
theorem two {α : Type} : ∀ {l : List α}, l.length = 2 → ∃ x y, l = [x, y]
  | [x, y], _ => ⟨x, y, rfl⟩
theorem arr2_cells {k : IntKind} {W : World} {a : List Int} {cs : Array Value} {hs : 0 < (Kd.int k).sz} (c : (Kd.arr 2 (Kd.int k) hs).K W a (Value.agg cs).cells.toList) : ∃ x y, a = [x, y] ∧ cs = #[.int k x, .int k y] := by
  have hl : a.length = 2 := c.1
  have h0 := Kd.arr_get c (0 : Int) 0 (by omega) (by omega)
  have h1 := Kd.arr_get c (0 : Int) 1 (by omega) (by omega)
  have hc : cs.toList.length = 2 := (Kd.arr 2 (Kd.int k) hs).K_len c
  obtain ⟨x, y, rfl⟩ := two hl
  obtain ⟨u, v, hcs⟩ := two hc
  refine ⟨x, y, rfl, ?_⟩
  have g0 : (((cs.toList).drop (0 * 1)).take 1) = [.int k x] := h0
  have g1 : (((cs.toList).drop (1 * 1)).take 1) = [.int k y] := h1
  rw [hcs] at g0 g1
  simp at g0 g1
  apply Array.ext'
  rw [hcs, g0, g1]
theorem QuotaNil_run (W : World) (v0 : Value) (s0 : ∃ n, v0 = .int .i64 n) (a0 : Int) (g0 : (gint .i64) a0) (c0 : (Kd.int .i64).K W a0 v0.cells.toList) (v1 : Value) (s1 : ∃ n, v1 = .int .i64 n) (a1 : Int) (g1 : (gint .i64) a1) (c1 : (Kd.int .i64).K W a1 v1.cells.toList) (v2 : Value) (s2 : ∃ cs, v2 = .agg cs ∧ cs.size = Try.prog.cellsOf 58) (a2 : List (Int)) (g2 : (gall (gint .i64)) a2) (c2 : (Kd.arr 2 (Kd.int .i64) (by decide)).K W a2 v2.cells.toList) :
    Calls Try.prog 10 #[v0, v1, v2] W fun e w' => e = .returned (.bool true) ∧ Below W.heap.size W w' := by
  obtain ⟨n0, rfl⟩ := s0
  obtain rfl := int_cell c0
  obtain ⟨n1, rfl⟩ := s1
  obtain rfl := int_cell c1
  obtain ⟨cs2, rfl, _⟩ := s2
  obtain ⟨x2_0, x2_1, rfl, rfl⟩ := arr2_cells c2
  exact Nil_calls _ _ _ _ W
end Go.Proofs.Ytlfediaeaaodpaa.Run
