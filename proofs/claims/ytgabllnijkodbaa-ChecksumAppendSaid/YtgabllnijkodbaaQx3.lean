-- Written by wip/myprint.py out of the translation; not trusted: Lean checks it.
import Derived.Test.YtgabllnijkodbaaQx0
namespace Go.Proofs.Ytgabllnijkodbaa.Q
open Go.Proofs.Ytgabllnijkodbaa.Hand
open Go.RowKit Go.Proofs.YtgabllnijkodbaaW.PrintWords Go.Proofs.YtgabllnijkodbaaW.PrintLast Go.Proofs.YtgabllnijkodbaaW.PrintMore
attribute [local go_sem] max2_int min2_int max_two min_two max_three min_three max_four min_four   -- for this text's walks alone
attribute [local go_sem] sg_u32 sg_u8 sg_u16 sg_u64
set_option linter.unusedVariables false
set_option linter.unusedSimpArgs false

/-! ### checksum_parts: function 30 -/
def checksum_parts.f (a0 : Int) : Option (Int × Int) := some (Int.tmod (Go.bits .and .u32 a0 65535) 65521, Int.tmod (a0 / 65536) 65521)
set_option maxHeartbeats 8000000 in
set_option maxRecDepth 100000 in
theorem checksum_parts.calls (a0 : Int) (r1 : Int) (r2 : Int) (w : World) (h : checksum_parts.f a0 = some (r1, r2)) :
    Calls Try.prog 30 #[.int .u32 a0] w fun e w' => e = .returned (.tuple #[.int .u32 r1, .int .u32 r2]) ∧ Drawn0 w w' := by
  have H : (some (Int.tmod (Go.bits .and .u32 a0 65535) 65521, Int.tmod (a0 / 65536) 65521)) = some (r1, r2) := h
  clear h
  simp only [Option.some.injEq, Prod.mk.injEq] at H
  obtain ⟨rfl, rfl⟩ := H
  go_enter Try.func30, Try.ntmps30
  go_wp2
  go_ret2
  exact ⟨by first | rfl | (simp; done) | (simp [*]; done), by repeat (first | exact Drawn0.refl _ | apply Drawn0.step)⟩

end Go.Proofs.Ytgabllnijkodbaa.Q
