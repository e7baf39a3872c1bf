/- Proved: for all arguments the law RepeatTimes answers true (no condition). -/
import Derived.Test.YtkpeeaekffclgaaPlainA
import Derived.Test.YtkpeeaekffclgaaQx27
namespace Go.Proofs.Ytkpeeaekffclgaa.Pure
open Go.RowKit Go.Proofs.Ytkpeeaekffclgaa.Q Go.Proofs.Ytkpeeaekffclgaa.Hand Go.Proofs.Ytkpeeaekffclgaa.Plain Go.Proofs.YtkpeeaekffclgaaW.PrintWords Go.Proofs.YtkpeeaekffclgaaW.PrintLast

set_option linter.unusedVariables false
theorem times_l (r d c n s : Int) (hk : okAsk r d c n) (hs : 0 ≤ s) (hs2 : s ≤ 12000) (hq : s * r ≤ 250000) (clk : Int) (m : Nat) (hm : (m : Int) = count r s) : ∀ (e : Nat) (i : Int) (k : Nat), 0 ≤ i → i + e = m → e + 50 ≤ k →
    compositorlaw37_RepeatTimes.l0 k s (evs r d n (c + 1) 0 m) i r d c n r d clk (c + 1) n (count r s) = some true := by
  unfold okAsk at hk
  have hc : count r s ≤ 1000 := by
    unfold count
    have : (s + 1) * r = s * r + r := by rw [Int.add_mul, Int.one_mul]
    omega
  have h1 : wrap64 (wrap64 (n + d) + s) = n + d + s := by rw [wr (n + d) (by omega) (by omega), wr _ (by omega) (by omega)]
  intro e
  induction e with
  | zero =>
    intro i k h0 he hk2
    obtain ⟨k, rfl⟩ : ∃ q, k = q + 1 := ⟨k - 1, by omega⟩
    simp only [compositorlaw37_RepeatTimes.l0]
    rw [if_neg (by rw [evs_len]; omega), next_f r d clk (c + 1) n (count r s) (by omega) (by omega) (by omega), Option.bind_some]
    have hd := due_eq r d n (count r s) (by omega) (by omega) (by omega) (by omega) (by omega) (by omega) (by omega) (by omega)
    have hcd := count_due r s (by omega) hs
    simp only [h1, if_true]
    rw [if_pos (by rw [hd]; omega), if_neg (by omega), evs_len, hm]
    have hx : wrap64 (wrap64 (n + d) + wrap64 (Int.tdiv (wrap64 (1000 * count r s)) r)) = dueI r d n (count r s) := rfl
    rw [hx, if_pos rfl, ex_any k (by omega)]
    rfl
  | succ e ih =>
    intro i k h0 he hk2
    obtain ⟨k, rfl⟩ : ∃ q, k = q + 1 := ⟨k - 1, by omega⟩
    simp only [compositorlaw37_RepeatTimes.l0]
    rw [if_pos (by rw [evs_len]; omega), if_pos h0, if_neg (by omega)]
    have hg : rd_T53 (evs r d n (c + 1) 0 m) i = evAt r d n (c + 1) 0 i.toNat := evs_get _ _ _ _ _ _ _ (by omega) _
    have hi : (0 : Int) + (i.toNat : Int) = i := by omega
    have hw : wrap64 (c + 1 - 1) = c := by rw [wr _ (by omega) (by omega)]; omega
    rw [hg]
    simp only [evAt, hi, hw]
    have hx : wrap64 (wrap64 (n + d) + wrap64 (Int.tdiv (wrap64 (1000 * i)) r)) = dueI r d n i := rfl
    rw [hx, wr (i + 1) (by omega) (by omega), if_neg (by simp)]
    exact ih (i + 1) k (by omega) (by omega) (by omega)
theorem times_j (r d c n s : Int) : compositorlaw37_RepeatTimes.j0 400 s true r d c n = some true := by
  simp only [compositorlaw37_RepeatTimes.j0, if_true]
  rw [ex_any 399 (by omega)]
  rfl
theorem RepeatTimes (r d c n s : Int) : ∃ k, compositorlaw37_RepeatTimes.f k r d c n s = some true := by
  refine ⟨400, ?_⟩
  unfold compositorlaw37_RepeatTimes.f
  rw [valid_f, Option.bind_some]
  by_cases hk : okAsk r d c n
  case neg => rw [decide_eq_false hk, if_neg (by simp)]; exact times_j r d c n s
  rw [decide_eq_true hk, if_pos rfl]
  by_cases h1 : s < 0
  · rw [if_pos h1]; exact times_j r d c n s
  rw [if_neg h1]
  by_cases h2 : s > 12000
  · rw [if_pos h2]; exact times_j r d c n s
  rw [if_neg h2]
  have hk' := hk
  unfold okAsk at hk'
  have h3 : s * r ≤ s * 1000 := Int.mul_le_mul_of_nonneg_left (by omega) (by omega)
  have h4 : 0 ≤ s * r := Int.mul_nonneg (by omega) (by omega)
  rw [wr (s * r) (by omega) (by omega)]
  by_cases h5 : s * r > 250000
  · rw [decide_eq_true h5]; exact times_j r d c n s
  rw [decide_eq_false h5]
  simp only [compositorlaw37_RepeatTimes.j0]
  rw [if_neg (by simp), pressed_f r d c n hk, Option.bind_some]
  simp only [if_true]
  have hn : wrap64 (wrap64 (n + d) + s) = n + d + s := by rw [wr (n + d) (by omega) (by omega), wr _ (by omega) (by omega)]
  rw [hn]
  have hmx : mx n (mn (n + d + s) 1099511627776) = n + d + s := by unfold mx mn; split <;> split <;> omega
  have hdu : dueI r d n 0 = n + d := by
    rw [due_eq r d n 0 (by omega) (by omega) (by omega) (by omega) (by omega) (by omega) (by omega) (by omega)]
    simp
  have hc : count r s ≤ 256 ∧ 0 ≤ count r s := by
    unfold count
    have : (s + 1) * r = s * r + r := by rw [Int.add_mul, Int.one_mul]
    omega
  have hm : mn (wrap64 (count r s - 0)) 256 = count r s := by
    rw [wr _ (by omega) (by omega)]
    unfold mn
    split <;> omega
  have ha : repeat_Timer_Advance.f r d n (c + 1) n 0 (n + d + s) = some (evs r d n (c + 1) 0 (count r s).toNat, r, d, n + d + s, c + 1, n, count r s) := by
    unfold repeat_Timer_Advance.f
    rw [if_pos (by omega), if_neg (by omega), if_neg (by omega), hmx, hdu, if_neg (by omega), if_pos (by omega), after_eq r d n s (by omega) (by omega) (by omega) (by omega) (by omega) (by omega) (by omega) (by omega), hm]
  rw [ha, Option.bind_some]
  exact times_l r d c n s hk (by omega) (by omega) (by omega) (n + d + s) (count r s).toNat (by omega) (count r s).toNat 0 399 (by omega) (by omega) (by omega)
end Go.Proofs.Ytkpeeaekffclgaa.Pure
