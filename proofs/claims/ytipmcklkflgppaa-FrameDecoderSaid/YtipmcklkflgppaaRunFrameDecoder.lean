/- Proved: the law FrameDecoder, called with any arguments, returns true and changes nothing that was there (no condition). -/
import Derived.Test.YtipmcklkflgppaaDc
import Derived.Test.YtipmcklkflgppaaOpenW
namespace Go.Proofs.Ytipmcklkflgppaa.Run
open Go.RowKit Go.Proofs.Ytipmcklkflgppaa.Q Go.Proofs.Ytipmcklkflgppaa.Sl Go.Proofs.Ytipmcklkflgppaa.Open Go.Proofs.YtipmcklkflgppaaW.PrintWords Go.Proofs.YtipmcklkflgppaaW.PrintLast Go.Proofs.YtipmcklkflgppaaW.PrintMore Go.Proofs.Ytipmcklkflgppaa.Plain
set_option linter.unusedVariables false

theorem in_u8 {n : Int} (h : gint .u8 n) : 0 ≤ n ∧ n < 256 := by
  have h2 : (Lit.int .u8 n).wf = true := h
  simp [Lit.wf, IntKind.min, IntKind.max, IntKind.bits, IntKind.signed] at h2
  omega
theorem in_u16 {n : Int} (h : gint .u16 n) : 0 ≤ n ∧ n < 65536 := by
  have h2 : (Lit.int .u16 n).wf = true := h
  simp [Lit.wf, IntKind.min, IntKind.max, IntKind.bits, IntKind.signed] at h2
  omega
theorem in_u32 {n : Int} (h : gint .u32 n) : 0 ≤ n ∧ n < 4294967296 := by
  have h2 : (Lit.int .u32 n).wf = true := h
  simp [Lit.wf, IntKind.min, IntKind.max, IntKind.bits, IntKind.signed] at h2
  omega
theorem in_i64 {n : Int} (h : gint .i64 n) : (-9223372036854775808) ≤ n ∧ n < 9223372036854775808 := by
  have h2 : (Lit.int .i64 n).wf = true := h
  simp [Lit.wf, IntKind.min, IntKind.max, IntKind.bits, IntKind.signed] at h2
  omega
theorem in_i32 {n : Int} (h : gint .i32 n) : (-2147483648) ≤ n ∧ n < 2147483648 := by
  have h2 : (Lit.int .i32 n).wf = true := h
  simp [Lit.wf, IntKind.min, IntKind.max, IntKind.bits, IntKind.signed] at h2
  omega
theorem int_cell {k : IntKind} {W : World} {n a : Int} (c : (Kd.int k).K W a (Value.int k n).cells.toList) : n = a := by
  have : [Value.int k n] = [Value.int k a] := c
  injection this with h
  injection h
theorem bool_cell {W : World} {n a : Bool} (c : Kd.bool.K W a (Value.bool n).cells.toList) : n = a := by
  have : [Value.bool n] = [Value.bool a] := c
  injection this with h
  injection h
theorem str_cell {W : World} {n a : ByteArray} (c : Kd.string.K W a (Value.string n).cells.toList) : n = a := by
  have : [Value.string n] = [Value.string a] := c
  injection this with h
  injection h
theorem FrameDecoder_o0 : OpensW Try.prog 46 (Kd.slice 23 (Kd.slice 5 (Kd.int .u8))) (gallW Try.prog 23 (gallW Try.prog 5 (gint .u8))) := (opensW_slice Try.underlying46 (by kernel_rfl) (opensW_slice Try.underlying23 (by kernel_rfl) (opensW_of (opens_int Try.underlying5))))
theorem FrameDecoder_run (W : World) (v0 : Value) (s0 : ∃ a len cap, v0 = .slice a len cap) (a0 : List (List (Int))) (g0 : (gallW Try.prog 23 (gallW Try.prog 5 (gint .u8))) a0) (c0 : (Kd.slice 23 (Kd.slice 5 (Kd.int .u8))).K W a0 v0.cells.toList) :
    Calls Try.prog 8 #[v0] W fun e w' => e = .returned (.bool true) ∧ Below W.heap.size W w' := by
  obtain ⟨_, _, _, rfl⟩ := s0
  obtain ⟨A0, c0x, hv0, hc0, hr0⟩ := c0
  injection hv0 with hv0
  rw [hv0]
  have hb : Try.prog.bytesOf 5 = 1 := by kernel_rfl
  exact Decoder_calls _ _ _ W hr0 (fun x hx => ⟨fun y hy => in_u8 ((g0.1 x hx).1 y hy), by have h2 := (g0.1 x hx).2; rw [hb, Nat.mul_one] at h2; exact h2⟩)
end Go.Proofs.Ytipmcklkflgppaa.Run
