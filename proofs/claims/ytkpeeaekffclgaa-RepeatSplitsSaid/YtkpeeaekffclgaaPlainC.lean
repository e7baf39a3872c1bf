import Derived.Test.YtkpeeaekffclgaaPlainB
import Derived.Test.YtkpeeaekffclgaaQx21
/- Sums of steps, and what Advance answers at any time behind the press. -/
namespace Go.Proofs.Ytkpeeaekffclgaa.Plain
open Go.RowKit Go.Proofs.Ytkpeeaekffclgaa.Q Go.Proofs.Ytkpeeaekffclgaa.Hand Go.Proofs.YtkpeeaekffclgaaW.PrintWords Go.Proofs.YtkpeeaekffclgaaW.PrintLast
set_option linter.unusedVariables false
/-- How many are due m milliseconds behind the press. -/
def dueN (r d m : Int) : Int := if m < d then 0 else count r (m - d)
theorem dueN_nonneg (r d m : Int) (hr : 1 ≤ r) : 0 ≤ dueN r d m := by
  unfold dueN
  split
  · omega
  · exact count_nonneg r _ hr (by omega)
theorem dueN_mono (r d m k : Int) (hr : 1 ≤ r) (h : m ≤ k) : dueN r d m ≤ dueN r d k := by
  have h0 := dueN_nonneg r d k hr
  by_cases c : m < d
  · have : dueN r d m = 0 := if_pos c
    omega
  · rw [show dueN r d m = count r (m - d) from if_neg c, show dueN r d k = count r (k - d) from if_neg (by omega)]
    exact count_mono r _ _ hr (by omega)
theorem dueN_le (r d m : Int) (hr : 1 ≤ r) (hd : 1 ≤ d) (hm : 0 ≤ m) (h : m * r ≤ 250000) : dueN r d m ≤ 251 := by
  unfold dueN
  split
  · omega
  · have h1 : (m - d + 1) * r ≤ m * r := Int.mul_le_mul_of_nonneg_right (by omega) (by omega)
    unfold count
    generalize (m - d + 1) * r = X at h1 ⊢
    omega
theorem advance_g (r d c a p m m0 : Int) (hr : 1 ≤ r) (hr2 : r ≤ 1000) (hd : 1 ≤ d) (hd2 : d ≤ 10000) (hp : 0 ≤ p) (hp2 : p ≤ 549755813888) (h0 : 0 ≤ m0) (hm : m0 ≤ m) (hm2 : m ≤ 1000000) (hq : m * r ≤ 250000) (ha : a ≠ 0) (hc : c ≤ p + m) :
    repeat_Timer_Advance.f r d c a p (dueN r d m0) (p + m) = some (evs r d p a (dueN r d m0) (dueN r d m - dueN r d m0).toNat, r, d, p + m, a, p, dueN r d m) := by
  have q0 := dueN_nonneg r d m0 hr
  have q1 := dueN_mono r d m0 m hr hm
  have q2 := dueN_le r d m hr hd (by omega) hq
  by_cases cm : m < d
  · have e0 : dueN r d m0 = 0 := if_pos (by omega)
    have e1 : dueN r d m = 0 := if_pos cm
    rw [e0, e1]
    have hmx : mx c (mn (p + m) 1099511627776) = p + m := by unfold mx mn; split <;> split <;> omega
    have hdu : dueI r d p 0 = p + d := by
      rw [due_eq r d p 0 hr hr2 hd hd2 hp (by omega) (by omega) (by omega)]
      simp
    unfold repeat_Timer_Advance.f
    rw [if_pos (by omega), if_neg ha, if_neg (by omega), hmx, hdu, if_pos (by omega)]
    rfl
  · have e1 : dueN r d m = count r (m - d) := if_neg cm
    have := advance_f r d c a p (dueN r d m0) (m - d) hr hr2 hd hd2 hp hp2 (by omega) (by omega) q0 (by omega) ha (by omega)
    rw [show p + d + (m - d) = p + m by omega] at this
    rw [this]
    have ho : outN r (m - d) (dueN r d m0) = dueN r d m - dueN r d m0 := by
      unfold outN
      rw [e1] at q1 q2 ⊢
      split
      · omega
      · rw [if_neg (by omega)]
    have hn : nextI r (m - d) (dueN r d m0) = dueN r d m := by
      unfold nextI
      rw [e1] at q1 ⊢
      split <;> omega
    rw [ho, hn]
theorem evs_join (r d p a : Int) (i m : Nat) (n : Int) (hn : n = (i : Int)) : evs r d p a 0 i ++ evs r d p a n m = evs r d p a 0 (i + m) := by
  subst hn
  unfold evs
  rw [List.range_add, List.map_append, List.map_map]
  congr 1
  refine List.map_congr_left fun k _ => ?_
  simp only [evAt, Function.comp]
  congr 2
  omega
theorem same_f (l : List S53) (hl : l.length ≤ 1000000) (k : Nat) (hk : l.length < k) : compositorlaw37_same.f k l l = some true := by
  have key : ∀ (e : Nat) (i : Int) (k : Nat), 0 ≤ i → i + e = l.length → e < k → compositorlaw37_same.l0 k l l i = some true := by
    intro e
    induction e with
    | zero =>
      intro i k h0 he hk
      obtain ⟨k, rfl⟩ : ∃ q, k = q + 1 := ⟨k - 1, by omega⟩
      simp only [compositorlaw37_same.l0]
      rw [if_neg (by omega)]
    | succ e ih =>
      intro i k h0 he hk
      obtain ⟨k, rfl⟩ : ∃ q, k = q + 1 := ⟨k - 1, by omega⟩
      simp only [compositorlaw37_same.l0]
      rw [if_pos (by omega), if_pos h0, if_pos (by omega), if_neg (by simp), wr (i + 1) (by omega) (by omega)]
      exact ih (i + 1) k (by omega) (by omega) (by omega)
  unfold compositorlaw37_same.f
  rw [if_pos rfl]
  exact key l.length 0 k (Int.le_refl _) (by omega) hk
/-- The sum of the first k steps. -/
def sumN (l : List Int) : Nat → Int
  | 0 => 0
  | k + 1 => sumN l k + rd l k
end Go.Proofs.Ytkpeeaekffclgaa.Plain
