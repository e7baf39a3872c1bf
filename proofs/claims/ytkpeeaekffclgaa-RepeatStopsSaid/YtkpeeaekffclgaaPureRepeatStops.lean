/- Proved: for all arguments the law RepeatStops answers true (no condition). -/
import Derived.Test.YtkpeeaekffclgaaPlainA
import Derived.Test.YtkpeeaekffclgaaQx30
namespace Go.Proofs.Ytkpeeaekffclgaa.Pure
open Go.RowKit Go.Proofs.Ytkpeeaekffclgaa.Q Go.Proofs.Ytkpeeaekffclgaa.Hand Go.Proofs.Ytkpeeaekffclgaa.Plain Go.Proofs.YtkpeeaekffclgaaW.PrintWords Go.Proofs.YtkpeeaekffclgaaW.PrintLast
set_option linter.unusedVariables false
theorem release_f (r d c a p n x t : Int) (hd : 1 ≤ d) (h0 : 0 ≤ x) (h1 : x < 256) : repeat_Timer_Release.f r d c a p n x t = some (0, r, d, mx c (mn t 1099511627776), if a = x + 1 then 0 else a, p, n) := by
  have e0 : 0 < d := by omega
  have e1 : ¬ x < 0 := by omega
  have e2 : ¬ 256 ≤ x := by omega
  have hw : wrap64 (x + 1) = x + 1 := wr _ (by omega) (by omega)
  by_cases h : a = x + 1
  · simp [repeat_Timer_Release.f, repeat_Timer_check.f, repeat_Timer_usable.f, repeat_Timer_set.f, e0, e1, e2, hw, h]
  · simp [repeat_Timer_Release.f, repeat_Timer_check.f, repeat_Timer_usable.f, repeat_Timer_set.f, e0, e1, e2, hw, h]
theorem press_f (r d c a p n x t : Int) (hd : 1 ≤ d) (h0 : 0 ≤ x) (h1 : x < 256) : repeat_Timer_Press.f r d c a p n x t = some (0, r, d, mx c (mn t 1099511627776), x + 1, mx c (mn t 1099511627776), 0) := by
  have e0 : 0 < d := by omega
  have e1 : ¬ x < 0 := by omega
  have e2 : ¬ 256 ≤ x := by omega
  have hw : wrap64 (x + 1) = x + 1 := wr _ (by omega) (by omega)
  simp [repeat_Timer_Press.f, repeat_Timer_check.f, repeat_Timer_usable.f, repeat_Timer_set.f, e0, e1, e2, hw]
theorem active_f (r d c a p n : Int) (hd : 1 ≤ d) (h0 : 0 ≤ a) (h1 : a < 1000) : repeat_Timer_Active.f r d c a p n = some (a - 1, r, d, c, a, p, n) := by
  have e0 : 0 < d := by omega
  have hw : wrap64 (a - 1) = a - 1 := wr _ (by omega) (by omega)
  simp [repeat_Timer_Active.f, repeat_Timer_usable.f, e0, hw]
theorem next_f0 (r d c p n : Int) (hd : 1 ≤ d) : repeat_Timer_NextAt.f r d c 0 p n = some (0, false, r, d, c, 0, p, n) := by
  have e0 : 0 < d := by omega
  simp [repeat_Timer_NextAt.f, repeat_Timer_usable.f, e0]
theorem advance_f0 (r d c p n t : Int) (hd : 1 ≤ d) : repeat_Timer_Advance.f r d c 0 p n t = some ([], r, d, mx c (mn t 1099511627776), 0, p, n) := by
  unfold repeat_Timer_Advance.f
  rw [if_pos (by omega), if_pos rfl]
theorem stops_j (r d c n x l : Int) : compositorlaw37_RepeatStops.j0 400 x l true r d c n = some true := by
  simp only [compositorlaw37_RepeatStops.j0, if_true]
  rw [ex_any 399 (by omega)]
  rfl
theorem RepeatStops (r d c n x l : Int) : ∃ k, compositorlaw37_RepeatStops.f k r d c n x l = some true := by
  refine ⟨400, ?_⟩
  unfold compositorlaw37_RepeatStops.f
  rw [valid_f, Option.bind_some]
  by_cases hk : okAsk r d c n
  case neg => rw [decide_eq_false hk, if_neg (by simp)]; exact stops_j r d c n x l
  rw [decide_eq_true hk, if_pos rfl]
  by_cases h1 : x < 0
  · rw [if_pos h1]; exact stops_j r d c n x l
  rw [if_neg h1]
  by_cases h2 : x ≥ 256
  · rw [if_pos h2]; exact stops_j r d c n x l
  rw [if_neg h2]
  by_cases h3 : l < 0
  · rw [if_pos h3]; exact stops_j r d c n x l
  rw [if_neg h3]
  by_cases h4 : l > 20000
  · rw [decide_eq_true h4]; exact stops_j r d c n x l
  rw [decide_eq_false h4]
  have hk' := hk
  unfold okAsk at hk'
  simp only [compositorlaw37_RepeatStops.j0]
  rw [if_neg (by simp), pressed_f r d c n hk, Option.bind_some]
  simp only [if_true]
  have hnl : wrap64 (n + l) = n + l := wr _ (by omega) (by omega)
  have hmx : mx n (mn (n + l) 1099511627776) = n + l := by unfold mx mn; split <;> split <;> omega
  rw [hnl, release_f r d n (c + 1) n 0 x (n + l) (by omega) (by omega) (by omega), Option.bind_some, hmx]
  simp only [compositorlaw37_RepeatStops.j1, show ((0 : Int) != 0) = false from rfl]
  rw [if_neg (by simp)]
  by_cases hx : x = c
  · rw [if_pos (show c + 1 = x + 1 by omega), next_f0 r d (n + l) n 0 (by omega), Option.bind_some]
    simp only []
    rw [if_pos hx, if_neg (by simp), if_pos trivial, active_f r d (n + l) 0 n 0 (by omega) (by omega) (by omega), Option.bind_some]
    simp only []
    rw [if_pos (by omega), advance_f0 r d (n + l) n 0 _ (by omega), Option.bind_some]
    simp only []
    rw [if_pos (by rfl), ex_any 398 (by omega)]
    rfl
  · have hdu : dueI r d n 0 = n + d := by
      rw [due_eq r d n 0 (by omega) (by omega) (by omega) (by omega) (by omega) (by omega) (by omega) (by omega)]
      simp
    have hdu2 : dueI r d (n + l) 0 = n + l + d := by
      rw [due_eq r d (n + l) 0 (by omega) (by omega) (by omega) (by omega) (by omega) (by omega) (by omega) (by omega)]
      simp
    have hmx2 : mx (n + l) (mn n 1099511627776) = n + l := by unfold mx mn; split <;> split <;> omega
    rw [if_neg (show ¬ c + 1 = x + 1 by omega), next_f r d (n + l) (c + 1) n 0 (by omega) (by omega) (by omega), Option.bind_some]
    simp only [hdu]
    rw [if_neg hx, if_pos trivial, active_f r d (n + l) (c + 1) n 0 (by omega) (by omega) (by omega), Option.bind_some]
    simp only []
    rw [if_pos (by omega), wr (n + d) (by omega) (by omega), if_pos rfl, press_f r d (n + l) (c + 1) n 0 x n (by omega) (by omega) (by omega), Option.bind_some, hmx2]
    simp only [compositorlaw37_RepeatStops.j2, show ((0 : Int) != 0) = false from rfl]
    rw [if_neg (by simp), next_f r d (n + l) (x + 1) (n + l) 0 (by omega) (by omega) (by omega), Option.bind_some]
    simp only [hdu2, hnl]
    rw [if_pos trivial, wr (n + l + d) (by omega) (by omega), if_pos rfl, active_f r d (n + l) (x + 1) (n + l) 0 (by omega) (by omega) (by omega), Option.bind_some]
    simp only []
    rw [if_pos (by omega), ex_any 397 (by omega)]
    rfl
end Go.Proofs.Ytkpeeaekffclgaa.Pure
