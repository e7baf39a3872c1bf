/- Proved: the law IdentSteps, called with any arguments, returns true and changes nothing that was there (no condition). -/
import Derived.Test.YtegkkomlpgappaaI6
import Derived.Test.YtegkkomlpgappaaOpen
namespace Go.Proofs.Ytegkkomlpgappaa.Run
open Go.RowKit Go.Proofs.Ytegkkomlpgappaa.Q Go.Proofs.Ytegkkomlpgappaa.Sl Go.Proofs.Ytegkkomlpgappaa.Open Go.Proofs.YtegkkomlpgappaaW.PrintWords Go.Proofs.YtegkkomlpgappaaW.PrintLast Go.Proofs.YtegkkomlpgappaaW.PrintMore 
set_option linter.unusedVariables false

theorem in_u8 {n : Int} (h : gint .u8 n) : 0 ≤ n ∧ n < 256 := by
  have h2 : (Lit.int .u8 n).wf = true := h
  simp [Lit.wf, IntKind.min, IntKind.max, IntKind.bits, IntKind.signed] at h2
  omega
theorem in_u16 {n : Int} (h : gint .u16 n) : 0 ≤ n ∧ n < 65536 := by
  have h2 : (Lit.int .u16 n).wf = true := h
  simp [Lit.wf, IntKind.min, IntKind.max, IntKind.bits, IntKind.signed] at h2
  omega
theorem in_u32 {n : Int} (h : gint .u32 n) : 0 ≤ n ∧ n < 4294967296 := by
  have h2 : (Lit.int .u32 n).wf = true := h
  simp [Lit.wf, IntKind.min, IntKind.max, IntKind.bits, IntKind.signed] at h2
  omega
theorem in_i64 {n : Int} (h : gint .i64 n) : (-9223372036854775808) ≤ n ∧ n < 9223372036854775808 := by
  have h2 : (Lit.int .i64 n).wf = true := h
  simp [Lit.wf, IntKind.min, IntKind.max, IntKind.bits, IntKind.signed] at h2
  omega
theorem in_i32 {n : Int} (h : gint .i32 n) : (-2147483648) ≤ n ∧ n < 2147483648 := by
  have h2 : (Lit.int .i32 n).wf = true := h
  simp [Lit.wf, IntKind.min, IntKind.max, IntKind.bits, IntKind.signed] at h2
  omega
theorem int_cell {k : IntKind} {W : World} {n a : Int} (c : (Kd.int k).K W a (Value.int k n).cells.toList) : n = a := by
  have : [Value.int k n] = [Value.int k a] := c
  injection this with h
  injection h
theorem bool_cell {W : World} {n a : Bool} (c : Kd.bool.K W a (Value.bool n).cells.toList) : n = a := by
  have : [Value.bool n] = [Value.bool a] := c
  injection this with h
  injection h
theorem str_cell {W : World} {n a : ByteArray} (c : Kd.string.K W a (Value.string n).cells.toList) : n = a := by
  have : [Value.string n] = [Value.string a] := c
  injection this with h
  injection h
def good39 (x : S39) : Prop := giso (gpair (gint .i64) (gint .u32)) (fun x : S39 => (x.f0, x.f1)) x
theorem opens39 : Opens Try.prog 39 k39 good39 := opens_iso (fun x : S39 => (x.f0, x.f1)) (fun t => ⟨t.1, t.2⟩) (fun _ => rfl) (opens_struct Try.underlying39 (by kernel_rfl) (at_cons rfl (by kernel_rfl) rfl (opens_int Try.underlying3) (at_last rfl (by kernel_rfl) (opens_int Try.underlying24))))
theorem IdentSteps_o0 : Opens Try.prog 4 Kd.bool gany := (opens_bool Try.underlying4)
theorem IdentSteps_o1 : Opens Try.prog 32 (Kd.slice 39 k39) (gall good39) := (opens_slice Try.underlying32 (by kernel_rfl) opens39)
theorem IdentSteps_o2 : Opens Try.prog 24 (Kd.int .u32) (gint .u32) := (opens_int Try.underlying24)
theorem IdentSteps_run (W : World) (v0 : Value) (s0 : ∃ b, v0 = .bool b) (a0 : Bool) (g0 : gany a0) (c0 : Kd.bool.K W a0 v0.cells.toList) (v1 : Value) (s1 : ∃ a len cap, v1 = .slice a len cap) (a1 : List (S39)) (g1 : (gall good39) a1) (c1 : (Kd.slice 39 k39).K W a1 v1.cells.toList) (v2 : Value) (s2 : ∃ n, v2 = .int .u32 n) (a2 : Int) (g2 : (gint .u32) a2) (c2 : (Kd.int .u32).K W a2 v2.cells.toList) :
    Calls Try.prog 4 #[v0, v1, v2] W fun e w' => e = .returned (.bool true) ∧ Below W.heap.size W w' := by
  obtain ⟨n0, rfl⟩ := s0
  obtain rfl := bool_cell c0
  obtain ⟨_, _, _, rfl⟩ := s1
  obtain ⟨A1, c1x, hv1, hc1, hr1⟩ := c1
  injection hv1 with hv1
  rw [hv1]
  obtain ⟨n2, rfl⟩ := s2
  obtain rfl := int_cell c2
  exact Steps_law _ _ _ _ _ W hr1 hc1 (fun x hx => in_u32 (g1 x hx).2) (in_u32 g2).1 (in_u32 g2).2
end Go.Proofs.Ytegkkomlpgappaa.Run
