/- Proved: the law QuotaIndependent, called with any arguments, returns true and changes nothing that was there (no condition). -/
import Derived.Test.YtlfediaeaaodpaaE9
import Derived.Test.YtlfediaeaaodpaaOpen
namespace Go.Proofs.Ytlfediaeaaodpaa.Run
open Go.RowKit Go.Proofs.Ytlfediaeaaodpaa.Q Go.Proofs.Ytlfediaeaaodpaa.Sl Go.Proofs.Ytlfediaeaaodpaa.Open Go.Proofs.YtlfediaeaaodpaaW.PrintWords Go.Proofs.YtlfediaeaaodpaaW.PrintLast Go.Proofs.YtlfediaeaaodpaaW.PrintMore 
set_option linter.unusedVariables false

theorem in_u8 {n : Int} (h : gint .u8 n) : 0 ≤ n ∧ n < 256 := by
  have h2 : (Lit.int .u8 n).wf = true := h
  simp [Lit.wf, IntKind.min, IntKind.max, IntKind.bits, IntKind.signed] at h2
  omega
theorem in_u16 {n : Int} (h : gint .u16 n) : 0 ≤ n ∧ n < 65536 := by
  have h2 : (Lit.int .u16 n).wf = true := h
  simp [Lit.wf, IntKind.min, IntKind.max, IntKind.bits, IntKind.signed] at h2
  omega
theorem in_u32 {n : Int} (h : gint .u32 n) : 0 ≤ n ∧ n < 4294967296 := by
  have h2 : (Lit.int .u32 n).wf = true := h
  simp [Lit.wf, IntKind.min, IntKind.max, IntKind.bits, IntKind.signed] at h2
  omega
theorem in_i64 {n : Int} (h : gint .i64 n) : (-9223372036854775808) ≤ n ∧ n < 9223372036854775808 := by
  have h2 : (Lit.int .i64 n).wf = true := h
  simp [Lit.wf, IntKind.min, IntKind.max, IntKind.bits, IntKind.signed] at h2
  omega
theorem in_i32 {n : Int} (h : gint .i32 n) : (-2147483648) ≤ n ∧ n < 2147483648 := by
  have h2 : (Lit.int .i32 n).wf = true := h
  simp [Lit.wf, IntKind.min, IntKind.max, IntKind.bits, IntKind.signed] at h2
  omega
theorem int_cell {k : IntKind} {W : World} {n a : Int} (c : (Kd.int k).K W a (Value.int k n).cells.toList) : n = a := by
  have : [Value.int k n] = [Value.int k a] := c
  injection this with h
  injection h
theorem bool_cell {W : World} {n a : Bool} (c : Kd.bool.K W a (Value.bool n).cells.toList) : n = a := by
  have : [Value.bool n] = [Value.bool a] := c
  injection this with h
  injection h
theorem str_cell {W : World} {n a : ByteArray} (c : Kd.string.K W a (Value.string n).cells.toList) : n = a := by
  have : [Value.string n] = [Value.string a] := c
  injection this with h
  injection h
def good49 (x : S49) : Prop := giso (gpair (gint .i64) (gpair (gint .i64) gany)) (fun x : S49 => (x.f0, x.f1, x.f2)) x
theorem opens49 : Opens Try.prog 49 k49 good49 := opens_iso (fun x : S49 => (x.f0, x.f1, x.f2)) (fun t => ⟨t.1, t.2.1, t.2.2⟩) (fun _ => rfl) (opens_struct Try.underlying49 (by kernel_rfl) (at_cons rfl (by kernel_rfl) rfl (opens_int Try.underlying3) (at_cons rfl (by kernel_rfl) rfl (opens_int Try.underlying3) (at_last rfl (by kernel_rfl) (opens_bool Try.underlying4)))))
theorem QuotaIndependent_o0 : Opens Try.prog 3 (Kd.int .i64) (gint .i64) := (opens_int Try.underlying3)
theorem QuotaIndependent_o1 : Opens Try.prog 42 (Kd.slice 49 k49) (gall good49) := (opens_slice Try.underlying42 (by kernel_rfl) opens49)
theorem QuotaIndependent_run (W : World) (v0 : Value) (s0 : ∃ n, v0 = .int .i64 n) (a0 : Int) (g0 : (gint .i64) a0) (c0 : (Kd.int .i64).K W a0 v0.cells.toList) (v1 : Value) (s1 : ∃ a len cap, v1 = .slice a len cap) (a1 : List (S49)) (g1 : (gall good49) a1) (c1 : (Kd.slice 49 k49).K W a1 v1.cells.toList) :
    Calls Try.prog 9 #[v0, v1] W fun e w' => e = .returned (.bool true) ∧ Below W.heap.size W w' := by
  obtain ⟨n0, rfl⟩ := s0
  obtain rfl := int_cell c0
  obtain ⟨_, _, _, rfl⟩ := s1
  obtain ⟨A1, c1x, hv1, hc1, hr1⟩ := c1
  injection hv1 with hv1
  rw [hv1]
  exact Indep_calls _ _ _ _ W hr1 (by have := (in_i64 g0).2; omega)
end Go.Proofs.Ytlfediaeaaodpaa.Run
