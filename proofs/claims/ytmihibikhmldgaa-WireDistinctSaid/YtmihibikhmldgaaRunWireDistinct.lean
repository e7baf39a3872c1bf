/- Proved: the law WireDistinct, called with any arguments, returns true and changes nothing that was there (no condition). -/
import Derived.Test.YtmihibikhmldgaaDst
import Derived.Test.YtmihibikhmldgaaOpen
namespace Go.Proofs.Ytmihibikhmldgaa.Run
open Go.RowKit Go.Proofs.Ytmihibikhmldgaa.Q Go.Proofs.Ytmihibikhmldgaa.Sl Go.Proofs.Ytmihibikhmldgaa.Open Go.Proofs.YtmihibikhmldgaaW.PrintWords Go.Proofs.YtmihibikhmldgaaW.PrintLast Go.Proofs.YtmihibikhmldgaaW.PrintMore 
set_option linter.unusedVariables false

theorem in_u8 {n : Int} (h : gint .u8 n) : 0 ≤ n ∧ n < 256 := by
  have h2 : (Lit.int .u8 n).wf = true := h
  simp [Lit.wf, IntKind.min, IntKind.max, IntKind.bits, IntKind.signed] at h2
  omega
theorem in_u16 {n : Int} (h : gint .u16 n) : 0 ≤ n ∧ n < 65536 := by
  have h2 : (Lit.int .u16 n).wf = true := h
  simp [Lit.wf, IntKind.min, IntKind.max, IntKind.bits, IntKind.signed] at h2
  omega
theorem in_u32 {n : Int} (h : gint .u32 n) : 0 ≤ n ∧ n < 4294967296 := by
  have h2 : (Lit.int .u32 n).wf = true := h
  simp [Lit.wf, IntKind.min, IntKind.max, IntKind.bits, IntKind.signed] at h2
  omega
theorem in_i64 {n : Int} (h : gint .i64 n) : (-9223372036854775808) ≤ n ∧ n < 9223372036854775808 := by
  have h2 : (Lit.int .i64 n).wf = true := h
  simp [Lit.wf, IntKind.min, IntKind.max, IntKind.bits, IntKind.signed] at h2
  omega
theorem in_i32 {n : Int} (h : gint .i32 n) : (-2147483648) ≤ n ∧ n < 2147483648 := by
  have h2 : (Lit.int .i32 n).wf = true := h
  simp [Lit.wf, IntKind.min, IntKind.max, IntKind.bits, IntKind.signed] at h2
  omega
theorem int_cell {k : IntKind} {W : World} {n a : Int} (c : (Kd.int k).K W a (Value.int k n).cells.toList) : n = a := by
  have : [Value.int k n] = [Value.int k a] := c
  injection this with h
  injection h
theorem bool_cell {W : World} {n a : Bool} (c : Kd.bool.K W a (Value.bool n).cells.toList) : n = a := by
  have : [Value.bool n] = [Value.bool a] := c
  injection this with h
  injection h
theorem str_cell {W : World} {n a : ByteArray} (c : Kd.string.K W a (Value.string n).cells.toList) : n = a := by
  have : [Value.string n] = [Value.string a] := c
  injection this with h
  injection h
def good25 (x : S25) : Prop := giso (gpair (gint .i64) (gpair (gint .u32) (gall (gint .u8)))) (fun x : S25 => (x.f0, x.f1, x.f2)) x
theorem opens25 : Opens Try.prog 25 k25 good25 := opens_iso (fun x : S25 => (x.f0, x.f1, x.f2)) (fun t => ⟨t.1, t.2.1, t.2.2⟩) (fun _ => rfl) (opens_struct Try.underlying25 (by kernel_rfl) (at_cons rfl (by kernel_rfl) rfl (opens_int Try.underlying3) (at_cons rfl (by kernel_rfl) rfl (opens_int Try.underlying23) (at_last rfl (by kernel_rfl) (opens_slice Try.underlying22 (by kernel_rfl) (opens_int Try.underlying5))))))
theorem WireDistinct_o0 : Opens Try.prog 27 (Kd.slice 25 k25) (gall good25) := (opens_slice Try.underlying27 (by kernel_rfl) opens25)
theorem WireDistinct_o1 : Opens Try.prog 27 (Kd.slice 25 k25) (gall good25) := (opens_slice Try.underlying27 (by kernel_rfl) opens25)
theorem WireDistinct_run (W : World) (v0 : Value) (s0 : ∃ a len cap, v0 = .slice a len cap) (a0 : List (S25)) (g0 : (gall good25) a0) (c0 : (Kd.slice 25 k25).K W a0 v0.cells.toList) (v1 : Value) (s1 : ∃ a len cap, v1 = .slice a len cap) (a1 : List (S25)) (g1 : (gall good25) a1) (c1 : (Kd.slice 25 k25).K W a1 v1.cells.toList) :
    Calls Try.prog 4 #[v0, v1] W fun e w' => e = .returned (.bool true) ∧ Below W.heap.size W w' := by
  obtain ⟨_, _, _, rfl⟩ := s0
  obtain ⟨A0, c0x, hv0, hc0, hr0⟩ := c0
  injection hv0 with hv0
  rw [hv0]
  obtain ⟨_, _, _, rfl⟩ := s1
  obtain ⟨A1, c1x, hv1, hc1, hr1⟩ := c1
  injection hv1 with hv1
  rw [hv1]
  exact Distinct_law _ _ _ _ _ _ W hr0 hc0 hr1 hc1 (fun x hx => ⟨in_u32 (g0 x hx).2.1, fun y hy => in_u8 ((g0 x hx).2.2 y hy)⟩) (fun x hx => ⟨in_u32 (g1 x hx).2.1, fun y hy => in_u8 ((g1 x hx).2.2 y hy)⟩)
end Go.Proofs.Ytmihibikhmldgaa.Run
