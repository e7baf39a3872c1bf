import Derived.Test.YtkpeeaekffclgaaQx13
import Derived.Test.YtkpeeaekffclgaaQx25
import Derived.Test.YtkpeeaekffclgaaQx26
import Derived.Test.YtkpeeaekffclgaaQx11
/- Plain facts on the timer. -/
namespace Go.Proofs.Ytkpeeaekffclgaa.Plain
open Go.RowKit Go.Proofs.Ytkpeeaekffclgaa.Q Go.Proofs.Ytkpeeaekffclgaa.Hand Go.Proofs.YtkpeeaekffclgaaW.PrintWords Go.Proofs.YtkpeeaekffclgaaW.PrintLast

set_option linter.unusedVariables false
theorem wr (x : Int) (h : -9223372036854775808 ≤ x) (h2 : x < 9223372036854775808) : wrap64 x = x := by unfold wrap64; omega
theorem ex_f : compositorlaw37_exampleHolds.f 40 = some true := by kernel_rfl
theorem ex_any (k : Nat) (h : 40 ≤ k) : compositorlaw37_exampleHolds.f k = some true := by
  obtain ⟨m, rfl⟩ : ∃ m, k = 40 + m := ⟨k - 40, by omega⟩
  clear h
  induction m with
  | zero => exact ex_f
  | succ m ih => exact compositorlaw37_exampleHolds.mono _ _ ih
theorem valid_f (r d c n : Int) : compositorlaw37_valid.f r d c n = some (decide (okAsk r d c n)) := by
  have no : ∀ h : ¬ okAsk r d c n, some false = some (decide (okAsk r d c n)) := fun h => by rw [decide_eq_false h]
  unfold compositorlaw37_valid.f
  by_cases h1 : r ≥ 1
  case neg => rw [if_neg h1]; exact no (by unfold okAsk; omega)
  rw [if_pos h1]
  by_cases h2 : r ≤ 1000
  case neg => rw [if_neg h2]; exact no (by unfold okAsk; omega)
  rw [if_pos h2]
  by_cases h3 : d ≥ 1
  case neg => rw [if_neg h3]; exact no (by unfold okAsk; omega)
  rw [if_pos h3]
  by_cases h4 : d ≤ 10000
  case neg => rw [if_neg h4]; exact no (by unfold okAsk; omega)
  rw [if_pos h4]
  by_cases h5 : c ≥ 0
  case neg => rw [if_neg h5]; exact no (by unfold okAsk; omega)
  rw [if_pos h5]
  by_cases h6 : c < 256
  case neg => rw [if_neg h6]; exact no (by unfold okAsk; omega)
  rw [if_pos h6]
  by_cases h7 : n ≥ 0
  case neg => rw [if_neg h7]; exact no (by unfold okAsk; omega)
  rw [if_pos h7]
  by_cases h8 : n ≤ 549755813888
  · rw [decide_eq_true h8, decide_eq_true (show okAsk r d c n by unfold okAsk; omega)]
  · rw [decide_eq_false h8]; exact no (by unfold okAsk; omega)
theorem pressed_f (r d c n : Int) (h : okAsk r d c n) : compositorlaw37_pressed.f r d c n = some (r, d, n, c + 1, n, 0, true) := if_pos h
/-- The number of repetitions due up to span milliseconds behind the delay. -/
def count (r s : Int) : Int := ((s + 1) * r + 999) / 1000
theorem due_eq (r d n i : Int) (hr : 1 ≤ r) (hr2 : r ≤ 1000) (hd : 1 ≤ d) (hd2 : d ≤ 10000) (hn : 0 ≤ n) (hn2 : n ≤ 1099511627776) (hi : 0 ≤ i) (hi2 : i ≤ 1000000000000) : dueI r d n i = n + d + 1000 * i / r := by
  have h1 : 0 ≤ 1000 * i / r := Int.ediv_nonneg (by omega) (by omega)
  have h2 : 1000 * i / r ≤ 1000 * i := Int.ediv_le_self _ (by omega)
  unfold dueI
  rw [wr (1000 * i) (by omega) (by omega), Int.tdiv_eq_ediv_of_nonneg (by omega), wr (n + d) (by omega) (by omega), wr (1000 * i / r) (by omega) (by omega), wr _ (by omega) (by omega)]
theorem after_eq (r d p s : Int) (hr : 1 ≤ r) (hr2 : r ≤ 1000) (hd : 1 ≤ d) (hd2 : d ≤ 10000) (hp : 0 ≤ p) (hp2 : p ≤ 1099511627776) (hs : 0 ≤ s) (hs2 : s ≤ 1099511627776) : afterI r d p (p + d + s) = count r s := by
  have h1 : 0 ≤ (s + 1) * r := Int.mul_nonneg (by omega) (by omega)
  have h2 : (s + 1) * r ≤ (s + 1) * 1000 := Int.mul_le_mul_of_nonneg_left hr2 (by omega)
  unfold afterI count
  rw [wr (p + d + s - p) (by omega) (by omega), show p + d + s - p = d + s by omega, wr (d + s - d) (by omega) (by omega), show d + s - d = s by omega, wr (s + 1) (by omega) (by omega)]
  generalize hX : (s + 1) * r = X at h1 h2 ⊢
  rw [wr X (by omega) (by omega), wr (X + 1000) (by omega) (by omega), wr (X + 1000 - 1) (by omega) (by omega), show X + 1000 - 1 = X + 999 by omega, Int.tdiv_eq_ediv_of_nonneg (by omega), wr _ (by omega) (by omega)]
theorem count_due (r s : Int) (hr : 1 ≤ r) (hs : 0 ≤ s) : s < 1000 * count r s / r := by
  have h : s + 1 ≤ 1000 * count r s / r := by
    rw [Int.le_ediv_iff_mul_le (by omega)]
    unfold count
    generalize (s + 1) * r = X
    omega
  omega
theorem evs_get (r d p a n : Int) (m : Nat) (i : Nat) (h : i < m) (z : S53) : (evs r d p a n m).getD i z = evAt r d p a n i := by
  simp [evs, List.getD_eq_getElem?_getD, h]
theorem next_f (r d c a p n : Int) (hr : 1 ≤ r) (hd : 1 ≤ d) (ha : a ≠ 0) : repeat_Timer_NextAt.f r d c a p n = some (dueI r d p n, true, r, d, c, a, p, n) := by
  have h0 : 0 < d := by omega
  have h1 : r ≠ 0 := by omega
  simp [repeat_Timer_NextAt.f, repeat_Timer_usable.f, repeat_Timer_due.f, h0, h1, ha, dueI]
end Go.Proofs.Ytkpeeaekffclgaa.Plain
