import Derived.Test.YtkpeeaekffclgaaPlainA
import Derived.Test.YtkpeeaekffclgaaQx9
/- What Advance answers, in plain numbers. -/
namespace Go.Proofs.Ytkpeeaekffclgaa.Plain
open Go.RowKit Go.Proofs.Ytkpeeaekffclgaa.Q Go.Proofs.Ytkpeeaekffclgaa.Hand Go.Proofs.YtkpeeaekffclgaaW.PrintWords Go.Proofs.YtkpeeaekffclgaaW.PrintLast
set_option linter.unusedVariables false
theorem count_nonneg (r s : Int) (hr : 1 ≤ r) (hs : 0 ≤ s) : 0 ≤ count r s := by
  have h1 : 0 ≤ (s + 1) * r := Int.mul_nonneg (by omega) (by omega)
  unfold count
  generalize (s + 1) * r = X at h1 ⊢
  omega
theorem count_le (r s : Int) (hr : 1 ≤ r) (hr2 : r ≤ 1000) (hs : 0 ≤ s) : count r s ≤ s + 1 := by
  have h2 : (s + 1) * r ≤ (s + 1) * 1000 := Int.mul_le_mul_of_nonneg_left hr2 (by omega)
  unfold count
  generalize (s + 1) * r = X at h2 ⊢
  omega
/-- Repetition i is due by s milliseconds behind the delay just if it is among those counted. -/
theorem due_count (r s i : Int) (hr : 1 ≤ r) : (1000 * i / r ≤ s) ↔ i < count r s := by
  have h : (s < 1000 * i / r) ↔ ¬ (i < count r s) := by
    have h0 : s + 1 ≤ 1000 * i / r ↔ (s + 1) * r ≤ 1000 * i := Int.le_ediv_iff_mul_le (by omega)
    unfold count
    generalize hX : (s + 1) * r = X at h0 ⊢
    constructor
    · intro h; have := h0.1 (by omega); omega
    · intro h; have := h0.2 (by omega); omega
  omega
/-- How many come out of one call. -/
def outN (r s i : Int) : Int := if count r s ≤ i then 0 else if 256 < count r s - i then 256 else count r s - i
def nextI (r s i : Int) : Int := if count r s ≤ i then i else count r s
theorem advance_f (r d c a p i s : Int) (hr : 1 ≤ r) (hr2 : r ≤ 1000) (hd : 1 ≤ d) (hd2 : d ≤ 10000) (hp : 0 ≤ p) (hp2 : p ≤ 549755813888) (hs : 0 ≤ s) (hs2 : s ≤ 10000000) (hi : 0 ≤ i) (hi2 : i ≤ 10000001) (ha : a ≠ 0) (hc : c ≤ p + d + s) :
    repeat_Timer_Advance.f r d c a p i (p + d + s) = some (evs r d p a i (outN r s i).toNat, r, d, p + d + s, a, p, nextI r s i) := by
  have hmx : mx c (mn (p + d + s) 1099511627776) = p + d + s := by unfold mx mn; split <;> split <;> omega
  have hdu := due_eq r d p i hr hr2 hd hd2 hp (by omega) hi (by omega)
  have hdc := due_count r s i hr
  have h0 := count_nonneg r s hr hs
  have h1 := count_le r s hr hr2 hs
  unfold repeat_Timer_Advance.f outN nextI
  rw [if_pos (by omega), if_neg ha, if_neg (by omega), hmx, hdu]
  by_cases hq : count r s ≤ i
  · rw [if_pos (by omega), if_pos hq, if_pos hq]
    rfl
  · rw [if_neg (by omega), if_pos (by omega), if_neg hq, if_neg hq, after_eq r d p s hr hr2 hd hd2 hp (by omega) hs (by omega), wr _ (by omega) (by omega)]
    rfl
theorem count_mono (r s t : Int) (hr : 1 ≤ r) (h : s ≤ t) : count r s ≤ count r t := by
  have h1 : (s + 1) * r ≤ (t + 1) * r := Int.mul_le_mul_of_nonneg_right (by omega) (by omega)
  unfold count
  generalize (s + 1) * r = X at h1 ⊢
  generalize (t + 1) * r = Y at h1 ⊢
  omega
theorem count_step (r s k : Int) (hr : 1 ≤ r) (hr2 : r ≤ 1000) (hk : 0 ≤ k) : count r (s + k) ≤ count r s + k + 1 := by
  have h1 : (s + k + 1) * r = (s + 1) * r + k * r := by rw [← Int.add_mul]; congr 1; omega
  have h2 : k * r ≤ k * 1000 := Int.mul_le_mul_of_nonneg_left hr2 hk
  unfold count
  rw [h1]
  generalize (s + 1) * r = X
  generalize k * r = Y at h2 ⊢
  omega
theorem count_second (r s : Int) : count r (s + 1000) = count r s + r := by
  have h1 : (s + 1000 + 1) * r = (s + 1) * r + 1000 * r := by rw [← Int.add_mul]; congr 1; omega
  unfold count
  rw [h1]
  generalize (s + 1) * r = X
  omega
theorem nextI_count (r s t : Int) (hr : 1 ≤ r) (h : s ≤ t) : nextI r t (count r s) = count r t := by
  have := count_mono r s t hr h
  unfold nextI
  split <;> omega
theorem nextI_zero (r s : Int) (hr : 1 ≤ r) (hs : 0 ≤ s) : nextI r s 0 = count r s := by
  have := count_nonneg r s hr hs
  unfold nextI
  split <;> omega
theorem outN_count (r s t : Int) (hr : 1 ≤ r) (h : s ≤ t) : outN r t (count r s) = if 256 < count r t - count r s then 256 else count r t - count r s := by
  have := count_mono r s t hr h
  unfold outN
  split
  · rw [if_neg (by omega)]; omega
  · rfl
end Go.Proofs.Ytkpeeaekffclgaa.Plain
