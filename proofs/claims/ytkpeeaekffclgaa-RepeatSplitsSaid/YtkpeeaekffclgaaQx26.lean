-- Written by wip/myprint.py out of the translation; not trusted: Lean checks it.
import Derived.Test.YtkpeeaekffclgaaQx0
import Derived.Test.YtkpeeaekffclgaaQx2
import Derived.Test.YtkpeeaekffclgaaQx4
import Derived.Test.YtkpeeaekffclgaaQx5
import Derived.Test.YtkpeeaekffclgaaQx6
import Derived.Test.YtkpeeaekffclgaaQx7
namespace Go.Proofs.Ytkpeeaekffclgaa.Q
open Go.Proofs.Ytkpeeaekffclgaa.Hand
open Go.RowKit Go.Proofs.YtkpeeaekffclgaaW.PrintWords Go.Proofs.YtkpeeaekffclgaaW.PrintLast Go.Proofs.YtkpeeaekffclgaaW.PrintMore
attribute [local go_sem] max2_int min2_int max_two min_two max_three min_three max_four min_four   -- for this text's walks alone
attribute [local go_sem] sg_u32 sg_u8 sg_u16 sg_u64
set_option linter.unusedVariables false
set_option linter.unusedSimpArgs false

/-! ### compositorlaw37_pressed: function 24 -/
def okAsk (r d c n : Int) : Prop := 1 ≤ r ∧ r ≤ 1000 ∧ 1 ≤ d ∧ d ≤ 10000 ∧ 0 ≤ c ∧ c < 256 ∧ 0 ≤ n ∧ n ≤ 549755813888
instance (r d c n : Int) : Decidable (okAsk r d c n) := by unfold okAsk; infer_instance
/-- The timer whose key was pressed. -/
def compositorlaw37_pressed.f (r d c n : Int) : Option (Int × Int × Int × Int × Int × Int × Bool) := if okAsk r d c n then some (r, d, n, c + 1, n, 0, true) else none
set_option maxRecDepth 100000 in
theorem compositorlaw37_pressed.calls (a0 a1 a2 a3 : Int) (r1 r2 r3 r4 r5 r6 : Int) (r7 : Bool) (w0 w : World) (hB : Below w0.heap.size w0 w) (h : compositorlaw37_pressed.f a0 a1 a2 a3 = some (r1, r2, r3, r4, r5, r6, r7)) :
    Calls Try.prog 24 #[.int .i64 a0, .int .i64 a1, .int .i64 a2, .int .i64 a3] w fun e w' => ∃ g_ : Nat, e = .returned (.tuple #[.pointer (some ⟨g_, 0, none⟩), .bool r7]) ∧ IsS59 w0 w' g_ r1 r2 r3 r4 r5 r6 ∧ Below w0.heap.size w0 w' ∧ Below w.heap.size w w' := by
  unfold compositorlaw37_pressed.f at h
  by_cases hk : okAsk a0 a1 a2 a3
  case neg => rw [if_neg hk] at h; exact absurd h (by simp)
  rw [if_pos hk] at h
  simp only [Option.some.injEq, Prod.mk.injEq] at h
  obtain ⟨rfl, rfl, rfl, rfl, rfl, rfl, rfl⟩ := h
  unfold okAsk at hk
  have HK := Aside0.mk hk
  have HB := Aside0.mk hB
  have b1 : decide (a0 < 1) = false := decide_eq_false (by omega)
  have b2 : decide (1000 < a0) = false := decide_eq_false (by omega)
  have b3 : decide (a1 < 1) = false := decide_eq_false (by omega)
  have b4 : decide (10000 < a1) = false := decide_eq_false (by omega)
  have b5 : decide (a2 < 0) = false := decide_eq_false (by omega)
  have b6 : decide (256 ≤ a2) = false := decide_eq_false (by omega)
  have b7 : decide (a3 < 0) = false := decide_eq_false (by omega)
  have b8 : decide (549755813888 < a3) = false := decide_eq_false (by omega)
  have hn : repeat_New.f a0 a1 = some (a0, a1, 0, 0, 0, 0, 0) := by unfold repeat_New.f; rw [if_pos (by unfold okNew; omega)]
  have hp : repeat_Timer_Press.f a0 a1 0 0 0 0 a2 a3 = some (0, a0, a1, a3, a2 + 1, a3, 0) := by
    have hm : mx 0 (mn a3 1099511627776) = a3 := by unfold mx mn; split <;> split <;> omega
    have hd : 0 < a1 := by omega
    have h1 : ¬ a2 < 0 := by omega
    have h2 : ¬ 256 ≤ a2 := by omega
    have hw : wrap64 (a2 + 1) = a2 + 1 := by unfold wrap64; omega
    simp [repeat_Timer_Press.f, repeat_Timer_check.f, repeat_Timer_usable.f, repeat_Timer_set.f, hm, hd, h1, h2, hw]
  have HN := Aside0.mk hn
  have HP := Aside0.mk hp
  clear hk hB hn hp
  go_enter Try.func24, Try.ntmps24
  go_wp2_with (first
    | (go_at_call 9; refine Calls.mono (repeat_New.calls a0 a1 _ _ _ _ _ _ _ w _ (Below.refl _ _) HN.out) ?_; rintro e w1 ⟨g1, rfl, hi, hb, hb2⟩; have HI1 := Aside0.mk hi; have HB1 := Aside0.mk hb; clear hi hb hb2)
    | (go_at_call 13; refine Calls.mono (repeat_Timer_Press.calls g1 a0 a1 0 0 0 0 a2 a3 _ _ _ _ _ _ _ w _ HI1.out HB1.out HP.out) ?_; rintro e w2 ⟨rfl, hi, hb, hk⟩; have HI2 := Aside0.mk hi; have HB2 := Aside0.mk hb; clear hi hb hk))
  go_ret2
  exact ⟨g1, rfl, ⟨HI2.out.1, by have := HI2.out.2; have := HB.out.size; omega⟩, below_then HB.out HB.out.size HB2.out, HB2.out⟩

end Go.Proofs.Ytkpeeaekffclgaa.Q
