-- Written by wip/myprint.py out of the translation; not trusted: Lean checks it.
import Derived.Test.YtgabllnijkodbaaQx0
namespace Go.Proofs.Ytgabllnijkodbaa.Q
open Go.Proofs.Ytgabllnijkodbaa.Hand
open Go.RowKit Go.Proofs.YtgabllnijkodbaaW.PrintWords Go.Proofs.YtgabllnijkodbaaW.PrintLast Go.Proofs.YtgabllnijkodbaaW.PrintMore
attribute [local go_sem] max2_int min2_int max_two min_two max_three min_three max_four min_four   -- for this text's walks alone
attribute [local go_sem] sg_u32 sg_u8 sg_u16 sg_u64
set_option linter.unusedVariables false
set_option linter.unusedSimpArgs false

/-! ### compositorref03_CombineAdler32: function 28 -/
def compositorref03_CombineAdler32.f (a0 : Int) (a1 : Int) (a2 : Int) : Option (Int) := if a2 < 0 then (some ((IntKind.u64.wrap ((IntKind.u64.wrap ((Int.tmod (IntKind.u64.wrap (((((Int.tdiv a0 65536) % 4294967296) % 65521) + (((Int.tdiv a1 65536) % 4294967296) % 65521)) + (IntKind.u64.wrap (((0 : Int) % 65521) * (IntKind.u64.wrap ((IntKind.u64.wrap (Int.tmod (Int.tmod a0 65536) 65521)) + 65520)))))) 65521) * 65536)) + (Int.tmod (IntKind.u64.wrap ((IntKind.u64.wrap ((IntKind.u64.wrap (Int.tmod (Int.tmod a0 65536) 65521)) + (IntKind.u64.wrap (Int.tmod (Int.tmod a1 65536) 65521)))) + 65520)) 65521))) % 4294967296)) else (some ((IntKind.u64.wrap ((IntKind.u64.wrap ((Int.tmod (IntKind.u64.wrap (((((Int.tdiv a0 65536) % 4294967296) % 65521) + (((Int.tdiv a1 65536) % 4294967296) % 65521)) + (IntKind.u64.wrap ((Int.tmod (IntKind.u64.wrap (a2)) 65521) * (IntKind.u64.wrap ((IntKind.u64.wrap (Int.tmod (Int.tmod a0 65536) 65521)) + 65520)))))) 65521) * 65536)) + (Int.tmod (IntKind.u64.wrap ((IntKind.u64.wrap ((IntKind.u64.wrap (Int.tmod (Int.tmod a0 65536) 65521)) + (IntKind.u64.wrap (Int.tmod (Int.tmod a1 65536) 65521)))) + 65520)) 65521))) % 4294967296))
set_option maxHeartbeats 8000000 in
set_option maxRecDepth 100000 in
theorem compositorref03_CombineAdler32.calls (a0 : Int) (a1 : Int) (a2 : Int) (r : Int) (w : World) (h : compositorref03_CombineAdler32.f a0 a1 a2 = some r) :
    Calls Try.prog 28 #[.int .u32 a0, .int .u32 a1, .int .i64 a2] w fun e w' => e = .returned (.int .u32 r) ∧ Drawn0 w w' := by
  have H : (if a2 < 0 then (some ((IntKind.u64.wrap ((IntKind.u64.wrap ((Int.tmod (IntKind.u64.wrap (((((Int.tdiv a0 65536) % 4294967296) % 65521) + (((Int.tdiv a1 65536) % 4294967296) % 65521)) + (IntKind.u64.wrap (((0 : Int) % 65521) * (IntKind.u64.wrap ((IntKind.u64.wrap (Int.tmod (Int.tmod a0 65536) 65521)) + 65520)))))) 65521) * 65536)) + (Int.tmod (IntKind.u64.wrap ((IntKind.u64.wrap ((IntKind.u64.wrap (Int.tmod (Int.tmod a0 65536) 65521)) + (IntKind.u64.wrap (Int.tmod (Int.tmod a1 65536) 65521)))) + 65520)) 65521))) % 4294967296)) else (some ((IntKind.u64.wrap ((IntKind.u64.wrap ((Int.tmod (IntKind.u64.wrap (((((Int.tdiv a0 65536) % 4294967296) % 65521) + (((Int.tdiv a1 65536) % 4294967296) % 65521)) + (IntKind.u64.wrap ((Int.tmod (IntKind.u64.wrap (a2)) 65521) * (IntKind.u64.wrap ((IntKind.u64.wrap (Int.tmod (Int.tmod a0 65536) 65521)) + 65520)))))) 65521) * 65536)) + (Int.tmod (IntKind.u64.wrap ((IntKind.u64.wrap ((IntKind.u64.wrap (Int.tmod (Int.tmod a0 65536) 65521)) + (IntKind.u64.wrap (Int.tmod (Int.tmod a1 65536) 65521)))) + 65520)) 65521))) % 4294967296))) = some r := h
  clear h
  by_cases c4 : a2 < 0
  · rw [if_pos c4] at H
    have c4b0 : decide (a2 < 0) = true := decide_eq_true c4
    clear c4
    obtain rfl := Option.some.inj H
    go_enter Try.func28, Try.ntmps28
    go_wp2
    go_ret
    exact ⟨by first | rfl | (simp; done) | (simp [*]; done) | exact ret_i (by rw [comb28 _ _ (by omega) (by omega)]), by repeat (first | exact Drawn0.refl _ | apply Drawn0.step)⟩
  · rw [if_neg c4] at H
    have c4b0 : decide (a2 < 0) = false := decide_eq_false c4
    clear c4
    obtain rfl := Option.some.inj H
    go_enter Try.func28, Try.ntmps28
    go_wp2
    go_ret
    exact ⟨by first | rfl | (simp; done) | (simp [*]; done), by repeat (first | exact Drawn0.refl _ | apply Drawn0.step)⟩

end Go.Proofs.Ytgabllnijkodbaa.Q
