/- Proved: the law QuotaBucket, called with any arguments, returns true and changes nothing that was there (no condition). -/
import Derived.Test.YtlfediaeaaodpaaE3
import Derived.Test.YtlfediaeaaodpaaOpen
namespace Go.Proofs.Ytlfediaeaaodpaa.Run
open Go.RowKit Go.Proofs.Ytlfediaeaaodpaa.Q Go.Proofs.Ytlfediaeaaodpaa.Sl Go.Proofs.Ytlfediaeaaodpaa.Open Go.Proofs.YtlfediaeaaodpaaW.PrintWords Go.Proofs.YtlfediaeaaodpaaW.PrintLast Go.Proofs.YtlfediaeaaodpaaW.PrintMore 
set_option linter.unusedVariables false

theorem in_u8 {n : Int} (h : gint .u8 n) : 0 ≤ n ∧ n < 256 := by
  have h2 : (Lit.int .u8 n).wf = true := h
  simp [Lit.wf, IntKind.min, IntKind.max, IntKind.bits, IntKind.signed] at h2
  omega
theorem in_u16 {n : Int} (h : gint .u16 n) : 0 ≤ n ∧ n < 65536 := by
  have h2 : (Lit.int .u16 n).wf = true := h
  simp [Lit.wf, IntKind.min, IntKind.max, IntKind.bits, IntKind.signed] at h2
  omega
theorem in_u32 {n : Int} (h : gint .u32 n) : 0 ≤ n ∧ n < 4294967296 := by
  have h2 : (Lit.int .u32 n).wf = true := h
  simp [Lit.wf, IntKind.min, IntKind.max, IntKind.bits, IntKind.signed] at h2
  omega
theorem in_i64 {n : Int} (h : gint .i64 n) : (-9223372036854775808) ≤ n ∧ n < 9223372036854775808 := by
  have h2 : (Lit.int .i64 n).wf = true := h
  simp [Lit.wf, IntKind.min, IntKind.max, IntKind.bits, IntKind.signed] at h2
  omega
theorem in_i32 {n : Int} (h : gint .i32 n) : (-2147483648) ≤ n ∧ n < 2147483648 := by
  have h2 : (Lit.int .i32 n).wf = true := h
  simp [Lit.wf, IntKind.min, IntKind.max, IntKind.bits, IntKind.signed] at h2
  omega
theorem int_cell {k : IntKind} {W : World} {n a : Int} (c : (Kd.int k).K W a (Value.int k n).cells.toList) : n = a := by
  have : [Value.int k n] = [Value.int k a] := c
  injection this with h
  injection h
theorem bool_cell {W : World} {n a : Bool} (c : Kd.bool.K W a (Value.bool n).cells.toList) : n = a := by
  have : [Value.bool n] = [Value.bool a] := c
  injection this with h
  injection h
theorem str_cell {W : World} {n a : ByteArray} (c : Kd.string.K W a (Value.string n).cells.toList) : n = a := by
  have : [Value.string n] = [Value.string a] := c
  injection this with h
  injection h
def good30 (x : S30) : Prop := giso (gpair (gint .i64) (gpair (gint .i64) gany)) (fun x : S30 => (x.f0, x.f1, x.f2)) x
theorem opens30 : Opens Try.prog 30 k30 good30 := opens_iso (fun x : S30 => (x.f0, x.f1, x.f2)) (fun t => ⟨t.1, t.2.1, t.2.2⟩) (fun _ => rfl) (opens_struct Try.underlying30 (by kernel_rfl) (at_cons rfl (by kernel_rfl) rfl (opens_int Try.underlying3) (at_cons rfl (by kernel_rfl) rfl (opens_int Try.underlying3) (at_last rfl (by kernel_rfl) (opens_bool Try.underlying4)))))
theorem QuotaBucket_o0 : Opens Try.prog 3 (Kd.int .i64) (gint .i64) := (opens_int Try.underlying3)
theorem QuotaBucket_o1 : Opens Try.prog 3 (Kd.int .i64) (gint .i64) := (opens_int Try.underlying3)
theorem QuotaBucket_o2 : Opens Try.prog 22 (Kd.slice 30 k30) (gall good30) := (opens_slice Try.underlying22 (by kernel_rfl) opens30)
theorem QuotaBucket_run (W : World) (v0 : Value) (s0 : ∃ n, v0 = .int .i64 n) (a0 : Int) (g0 : (gint .i64) a0) (c0 : (Kd.int .i64).K W a0 v0.cells.toList) (v1 : Value) (s1 : ∃ n, v1 = .int .i64 n) (a1 : Int) (g1 : (gint .i64) a1) (c1 : (Kd.int .i64).K W a1 v1.cells.toList) (v2 : Value) (s2 : ∃ a len cap, v2 = .slice a len cap) (a2 : List (S30)) (g2 : (gall good30) a2) (c2 : (Kd.slice 30 k30).K W a2 v2.cells.toList) :
    Calls Try.prog 3 #[v0, v1, v2] W fun e w' => e = .returned (.bool true) ∧ Below W.heap.size W w' := by
  obtain ⟨n0, rfl⟩ := s0
  obtain rfl := int_cell c0
  obtain ⟨n1, rfl⟩ := s1
  obtain rfl := int_cell c1
  obtain ⟨_, _, _, rfl⟩ := s2
  obtain ⟨A2, c2x, hv2, hc2, hr2⟩ := c2
  injection hv2 with hv2
  rw [hv2]
  exact Bucket_calls _ _ _ _ _ W hr2 (fun x hx => in_i64 (g2 x hx).1)
end Go.Proofs.Ytlfediaeaaodpaa.Run
