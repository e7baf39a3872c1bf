/- Proved: the law ToplevelLimits, called with any arguments, returns true and changes nothing that was there (no condition). -/
import Derived.Test.YtckpgccbhaejgaaT22
import Derived.Test.YtckpgccbhaejgaaOpen
namespace Go.Proofs.Ytckpgccbhaejgaa.Run
open Go.RowKit Go.Proofs.Ytckpgccbhaejgaa.Q Go.Proofs.Ytckpgccbhaejgaa.Sl Go.Proofs.Ytckpgccbhaejgaa.Open Go.Proofs.YtckpgccbhaejgaaW.PrintWords Go.Proofs.YtckpgccbhaejgaaW.PrintLast Go.Proofs.YtckpgccbhaejgaaW.PrintMore 
set_option linter.unusedVariables false

theorem in_u8 {n : Int} (h : gint .u8 n) : 0 ≤ n ∧ n < 256 := by
  have h2 : (Lit.int .u8 n).wf = true := h
  simp [Lit.wf, IntKind.min, IntKind.max, IntKind.bits, IntKind.signed] at h2
  omega
theorem in_u16 {n : Int} (h : gint .u16 n) : 0 ≤ n ∧ n < 65536 := by
  have h2 : (Lit.int .u16 n).wf = true := h
  simp [Lit.wf, IntKind.min, IntKind.max, IntKind.bits, IntKind.signed] at h2
  omega
theorem in_u32 {n : Int} (h : gint .u32 n) : 0 ≤ n ∧ n < 4294967296 := by
  have h2 : (Lit.int .u32 n).wf = true := h
  simp [Lit.wf, IntKind.min, IntKind.max, IntKind.bits, IntKind.signed] at h2
  omega
theorem in_i64 {n : Int} (h : gint .i64 n) : (-9223372036854775808) ≤ n ∧ n < 9223372036854775808 := by
  have h2 : (Lit.int .i64 n).wf = true := h
  simp [Lit.wf, IntKind.min, IntKind.max, IntKind.bits, IntKind.signed] at h2
  omega
theorem in_i32 {n : Int} (h : gint .i32 n) : (-2147483648) ≤ n ∧ n < 2147483648 := by
  have h2 : (Lit.int .i32 n).wf = true := h
  simp [Lit.wf, IntKind.min, IntKind.max, IntKind.bits, IntKind.signed] at h2
  omega
theorem int_cell {k : IntKind} {W : World} {n a : Int} (c : (Kd.int k).K W a (Value.int k n).cells.toList) : n = a := by
  have : [Value.int k n] = [Value.int k a] := c
  injection this with h
  injection h
theorem bool_cell {W : World} {n a : Bool} (c : Kd.bool.K W a (Value.bool n).cells.toList) : n = a := by
  have : [Value.bool n] = [Value.bool a] := c
  injection this with h
  injection h
theorem str_cell {W : World} {n a : ByteArray} (c : Kd.string.K W a (Value.string n).cells.toList) : n = a := by
  have : [Value.string n] = [Value.string a] := c
  injection this with h
  injection h
def good34 (x : S34) : Prop := giso (gpair (gint .i64) (gpair (gint .i64) (gpair (gint .i64) (gint .i64)))) (fun x : S34 => (x.f0, x.f1, x.f2, x.f3)) x
theorem opens34 : Opens Try.prog 34 k34 good34 := opens_iso (fun x : S34 => (x.f0, x.f1, x.f2, x.f3)) (fun t => ⟨t.1, t.2.1, t.2.2.1, t.2.2.2⟩) (fun _ => rfl) (opens_struct Try.underlying34 (by kernel_rfl) (at_cons rfl (by kernel_rfl) rfl (opens_int Try.underlying3) (at_cons rfl (by kernel_rfl) rfl (opens_int Try.underlying3) (at_cons rfl (by kernel_rfl) rfl (opens_int Try.underlying3) (at_last rfl (by kernel_rfl) (opens_int Try.underlying3))))))
def good46 (x : S46) : Prop := giso (gpair (gint .i64) (gpair (gint .i64) (gpair (gint .i64) (gpair (gint .i64) (gpair gany (gpair good34 gstr)))))) (fun x : S46 => (x.f0, x.f1, x.f2, x.f3, x.f4, x.f5, x.f6)) x
theorem opens46 : Opens Try.prog 46 k46 good46 := opens_iso (fun x : S46 => (x.f0, x.f1, x.f2, x.f3, x.f4, x.f5, x.f6)) (fun t => ⟨t.1, t.2.1, t.2.2.1, t.2.2.2.1, t.2.2.2.2.1, t.2.2.2.2.2.1, t.2.2.2.2.2.2⟩) (fun _ => rfl) (opens_struct Try.underlying46 (by kernel_rfl) (at_cons rfl (by kernel_rfl) rfl (opens_int Try.underlying3) (at_cons rfl (by kernel_rfl) rfl (opens_int Try.underlying3) (at_cons rfl (by kernel_rfl) rfl (opens_int Try.underlying3) (at_cons rfl (by kernel_rfl) rfl (opens_int Try.underlying3) (at_cons rfl (by kernel_rfl) rfl (opens_bool Try.underlying4) (at_cons rfl (by kernel_rfl) rfl opens34 (at_last rfl (by kernel_rfl) (opens_string Try.underlying9)))))))))
theorem ToplevelLimits_o0 : Opens Try.prog 36 (Kd.slice 46 k46) (gall good46) := (opens_slice Try.underlying36 (by kernel_rfl) opens46)
theorem ToplevelLimits_run (W : World) (v0 : Value) (s0 : ∃ a len cap, v0 = .slice a len cap) (a0 : List (S46)) (g0 : (gall good46) a0) (c0 : (Kd.slice 46 k46).K W a0 v0.cells.toList) :
    Calls Try.prog 5 #[v0] W fun e w' => e = .returned (.bool true) ∧ Below W.heap.size W w' := by
  obtain ⟨_, _, _, rfl⟩ := s0
  obtain ⟨A0, c0x, hv0, hc0, hr0⟩ := c0
  injection hv0 with hv0
  rw [hv0]
  exact Limits_law _ _ _ W hr0 hc0
end Go.Proofs.Ytckpgccbhaejgaa.Run
