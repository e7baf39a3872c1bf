import Derived.Test.YtlfediaeaaodpaaP15b
namespace Go.Proofs.Ytlfediaeaaodpaa.Q
open Go.RowKit Go.Proofs.YtlfediaeaaodpaaW.PrintWords Go.Proofs.YtlfediaeaaodpaaW.PrintLast Go.Proofs.YtlfediaeaaodpaaW.PrintMore Go.Proofs.Ytlfediaeaaodpaa.Sl Go.Proofs.Ytlfediaeaaodpaa.Hand 
attribute [local go_sem] max2_int min2_int max_two min_two max_three min_three max_four min_four 
set_option linter.unusedVariables false
set_option linter.unusedSimpArgs false

set_option maxHeartbeats 8000000 in
set_option maxRecDepth 100000 in
theorem Cons_calls (lim : Int) (A : Option Addr) (c : Nat) (l : List S49) (w : World) (hr : Kd.C k49 w A l.length l) :
    Calls Try.prog 8 #[.int .i64 lim, .slice A l.length c] w fun e w' => e = .returned (.bool true) ∧ Below w.heap.size w w' := by
  have HR := Aside0.mk hr
  have hm := hr.2.1
  have HS := Aside0.mk (sl_start w)
  clear hr
  by_cases hl : 300 < l.length ∨ lim < 0 ∨ 1099511627776 < lim
  · rcases (show 300 < l.length ∨ (¬ 300 < l.length ∧ lim < 0) ∨ (¬ 300 < l.length ∧ 0 ≤ lim ∧ 1099511627776 < lim) by omega) with d | ⟨d1, d⟩ | ⟨d1, d2, d⟩
    · have c1 : decide (300 < (l.length : Int)) = true := decide_eq_true (by omega)
      clear hl
      go_enter Try.func8, Try.ntmps8
      go_wp2_with (first
    | (go_at_call 11; refine (ex_calls w _ _ (by repeat (with_reducible first | exact HS.out | apply sl_drewN | apply sl_drew | apply sl_alloc))).mono ?_; rintro e w1 ⟨rfl, hs⟩; (try simp only [World.size_alloc] at hs); replace HS := Aside0.mk hs; clear hs))
      go_ret
      exact ⟨rfl, sl_below0 HS.out⟩
    all_goals
      have c1 : decide (300 < (l.length : Int)) = false := decide_eq_false (by omega)
      clear hl d1
      go_enter Try.func8, Try.ntmps8
      go_wp2_with (first
    | (go_at_call 11; refine (ex_calls w _ _ (by repeat (with_reducible first | exact HS.out | apply sl_drewN | apply sl_drew | apply sl_alloc))).mono ?_; rintro e w1 ⟨rfl, hs⟩; (try simp only [World.size_alloc] at hs); replace HS := Aside0.mk hs; clear hs))
      go_ret
      exact ⟨rfl, sl_below0 HS.out⟩
  have c1 : decide (300 < (l.length : Int)) = false := decide_eq_false (by omega)
  have l0 : 0 ≤ lim := by omega
  have l1 : lim ≤ 1099511627776 := by omega
  have HQ0 := Aside0.mk (show newQ [lim] = [⟨0, lim⟩] by
    show [(⟨0, mx lim 0⟩ : S58)] = _
    unfold mx
    rw [if_neg (by omega)])
  clear hl
  go_enter Try.func8, Try.ntmps8
  go_wp2_with (first
    | (go_at_call 18; refine (QNew_sl _ _ [lim] (by repeat (with_reducible first | exact HS.out | apply sl_drewN | apply sl_drew | apply sl_alloc)) (lit_i [lim] _ rfl (by show 1 ≤ maxLen; decide)) (by show 1 ≤ 1000; decide)).mono ?_; rintro e w1 ⟨gq, rfl, hs⟩; (try simp only [World.size_alloc] at hs); replace HS := Aside0.mk hs; clear hs)
    | (go_at_call 12; refine (New_sl _ _ (by repeat (with_reducible first | exact HS.out | apply sl_drewN | apply sl_drew | apply sl_alloc)) newok).mono ?_; rintro e w1 ⟨gb, rfl, hs⟩; (try simp only [World.size_alloc] at hs); replace HS := Aside0.mk hs; clear hs)
    | (go_at_call 26; refine (Use_h (by repeat (with_reducible first | exact HS.out | apply sl_drewN | apply sl_drew | apply sl_alloc)) 0 _ _ (by rfl) (by repeat (with_reducible first | exact HQ.out | exact HQ2.out | apply useS_ok | apply relS_ok))).mono ?_; rintro e w1 ⟨rfl, hs⟩; (try simp only [World.size_alloc] at hs); replace HS := Aside0.mk hs; clear hs)
    | (go_at_call 25; refine (Rel_h (by repeat (with_reducible first | exact HS.out | apply sl_drewN | apply sl_drew | apply sl_alloc)) 0 _ _ (by rfl) (by repeat (with_reducible first | exact HQ.out | exact HQ2.out | apply useS_ok | apply relS_ok))).mono ?_; rintro e w1 ⟨rfl, hs⟩; (try simp only [World.size_alloc] at hs); replace HS := Aside0.mk hs; clear hs)
    | (go_at_call 23; refine (Used_h (by repeat (with_reducible first | exact HS.out | apply sl_drewN | apply sl_drew | apply sl_alloc)) 0 _ (by rfl)).mono ?_; rintro e w1 ⟨rfl, rfl⟩)
    | (go_at_call 17; refine (Take_h (by repeat (with_reducible first | exact HS.out | apply sl_drewN | apply sl_drew | apply sl_alloc)) 1 _ _ (by rfl) (by repeat (with_reducible first | exact HB.out | exact HB2.out | refine takS_ok ?_ (by first | assumption | omega) (by first | assumption | omega) | refine advB_ok ?_ (by first | assumption | omega) (by first | assumption | omega))) (by first | assumption | omega) (by first | assumption | omega)).mono ?_; rintro e w1 ⟨rfl, hs⟩; (try simp only [World.size_alloc] at hs); replace HS := Aside0.mk hs; clear hs)
    | (go_at_call 15; refine (Level_h (by repeat (with_reducible first | exact HS.out | apply sl_drewN | apply sl_drew | apply sl_alloc)) 1 _ (by rfl) (by repeat (with_reducible first | exact HB.out | exact HB2.out | refine takS_ok ?_ (by first | assumption | omega) (by first | assumption | omega) | refine advB_ok ?_ (by first | assumption | omega) (by first | assumption | omega))) (by first | assumption | omega) (by first | assumption | omega)).mono ?_; rintro e w1 ⟨rfl, hs⟩; (try simp only [World.size_alloc] at hs); replace HS := Aside0.mk hs; clear hs))
  have HSS : Aside0 (SL w w1 [quotaR gq [⟨0, lim⟩]]) := by
    have := HS.out
    rw [HQ0.out] at this
    exact ⟨this⟩
  clear HS HQ0
  go_loopg [6, 7] l.length (fun kq v6 v7 wr => ∃ (i : Nat) (s : Int), v6 = .int .i64 s ∧ v7 = .int .i64 (i : Int) ∧ Aside0 (i + kq = l.length) ∧ Aside0 (0 ≤ s ∧ s ≤ lim) ∧ Aside0 (SL w wr [quotaR gq [⟨s, lim⟩]]))
  case atStart => exact ⟨0, 0, rfl, rfl, ⟨by omega⟩, ⟨by omega, l0⟩, HSS⟩
  case round =>
    clear HSS
    obtain ⟨i, s, rfl, rfl, HI, HN, HS⟩ := hrel
    have hi := HI.out
    by_cases hlt : i < l.length
    · have b2 : decide (i < l.length) = true := decide_eq_true hlt
      obtain ⟨kq, rfl⟩ : ∃ m, gk = m + 1 := ⟨gk - 1, by omega⟩
      obtain ⟨ad, rfl, hx⟩ := atB_T49 HR.out (i : Int) (by omega) (by omega)
      generalize rd_T49 l (i : Int) = x at hx
      have hx' : ∀ w', Below w.heap.size w w' → w'.cell? ⟨(ad.add (i * 3)).block, (ad.add (i * 3)).off + 1, none⟩ = some (.int .i64 x.f1) ∧ w'.cell? ⟨(ad.add (i * 3)).block, (ad.add (i * 3)).off + 2, none⟩ = some (.bool x.f2) := fun w' hb => (hx w' hb).2
      obtain ⟨x1, x2⟩ := hx' _ (sl_below0 HS.out)
      have p1 : (0 : Int) ≤ (i : Int) := by omega
      have p2 : (i : Int) < (l.length : Int) := by omega
      obtain ⟨s0, s1⟩ := HN.out
      clear hx hx' hlt hi
      by_cases hp : 0 ≤ x.f1 ∧ x.f1 ≤ 1099511627776
      · obtain ⟨q1, q2⟩ := hp
        have HQ := Aside0.mk (show Qok [(⟨s, lim⟩ : S58)] from ⟨by show 1 ≤ 1000; decide, fun y hy => by
          obtain rfl : y = ⟨s, lim⟩ := by simpa using hy
          exact ⟨s0, s1, by show lim ≤ 9223372036854775807; omega⟩⟩)
        cases hb : x.f2
        · rw [hb] at x2
          obtain ⟨e1, e2⟩ := use1 (s := s) (lim := lim) q1
          by_cases hd : x.f1 ≤ lim - s
          · have b5 : decide (x.f1 ≤ lim - s) = true := decide_eq_true hd
            rw [if_neg (by omega)] at e1 e2
            have u1 := used1 (s := s + x.f1) (lim := lim)
            have HE := Aside0.mk e2
            clear hb
            go_wp2_with (first
    | (go_at_call 26; refine (Use_h (by repeat (with_reducible first | exact HS.out | apply sl_drewN | apply sl_drew | apply sl_alloc)) 0 _ _ (by rfl) (by repeat (with_reducible first | exact HQ.out | exact HQ2.out | apply useS_ok | apply relS_ok))).mono ?_; rintro e w1 ⟨rfl, hs⟩; (try simp only [World.size_alloc] at hs); replace HS := Aside0.mk hs; clear hs)
    | (go_at_call 25; refine (Rel_h (by repeat (with_reducible first | exact HS.out | apply sl_drewN | apply sl_drew | apply sl_alloc)) 0 _ _ (by rfl) (by repeat (with_reducible first | exact HQ.out | exact HQ2.out | apply useS_ok | apply relS_ok))).mono ?_; rintro e w1 ⟨rfl, hs⟩; (try simp only [World.size_alloc] at hs); replace HS := Aside0.mk hs; clear hs)
    | (go_at_call 23; refine (Used_h (by repeat (with_reducible first | exact HS.out | apply sl_drewN | apply sl_drew | apply sl_alloc)) 0 _ (by rfl)).mono ?_; rintro e w1 ⟨rfl, rfl⟩))
            go_roundg kq
            case measure => omega
            case rel =>
              have hs := HS.out
              rw [HE.out] at hs
              exact ⟨i + 1, s + x.f1, rfl, rfl, ⟨by have := HI.out; omega⟩, ⟨by omega, by omega⟩, ⟨hs⟩⟩
          · have b5 : decide (x.f1 ≤ lim - s) = false := decide_eq_false hd
            rw [if_pos (by omega)] at e1 e2
            have u1 := used1 (s := s) (lim := lim)
            have HE := Aside0.mk e2
            clear hb
            go_wp2_with (first
    | (go_at_call 26; refine (Use_h (by repeat (with_reducible first | exact HS.out | apply sl_drewN | apply sl_drew | apply sl_alloc)) 0 _ _ (by rfl) (by repeat (with_reducible first | exact HQ.out | exact HQ2.out | apply useS_ok | apply relS_ok))).mono ?_; rintro e w1 ⟨rfl, hs⟩; (try simp only [World.size_alloc] at hs); replace HS := Aside0.mk hs; clear hs)
    | (go_at_call 25; refine (Rel_h (by repeat (with_reducible first | exact HS.out | apply sl_drewN | apply sl_drew | apply sl_alloc)) 0 _ _ (by rfl) (by repeat (with_reducible first | exact HQ.out | exact HQ2.out | apply useS_ok | apply relS_ok))).mono ?_; rintro e w1 ⟨rfl, hs⟩; (try simp only [World.size_alloc] at hs); replace HS := Aside0.mk hs; clear hs)
    | (go_at_call 23; refine (Used_h (by repeat (with_reducible first | exact HS.out | apply sl_drewN | apply sl_drew | apply sl_alloc)) 0 _ (by rfl)).mono ?_; rintro e w1 ⟨rfl, rfl⟩))
            go_roundg kq
            case measure => omega
            case rel =>
              have hs := HS.out
              rw [HE.out] at hs
              exact ⟨i + 1, s, rfl, rfl, ⟨by have := HI.out; omega⟩, HN, ⟨hs⟩⟩
        · rw [hb] at x2
          obtain ⟨e1, e2⟩ := rel1 (s := s) (lim := lim) q1
          by_cases hd : x.f1 ≤ s
          · have b5 : decide (x.f1 ≤ s) = true := decide_eq_true hd
            rw [if_neg (by omega)] at e1 e2
            have u1 := used1 (s := s - x.f1) (lim := lim)
            have HE := Aside0.mk e2
            clear hb
            go_wp2_with (first
    | (go_at_call 26; refine (Use_h (by repeat (with_reducible first | exact HS.out | apply sl_drewN | apply sl_drew | apply sl_alloc)) 0 _ _ (by rfl) (by repeat (with_reducible first | exact HQ.out | exact HQ2.out | apply useS_ok | apply relS_ok))).mono ?_; rintro e w1 ⟨rfl, hs⟩; (try simp only [World.size_alloc] at hs); replace HS := Aside0.mk hs; clear hs)
    | (go_at_call 25; refine (Rel_h (by repeat (with_reducible first | exact HS.out | apply sl_drewN | apply sl_drew | apply sl_alloc)) 0 _ _ (by rfl) (by repeat (with_reducible first | exact HQ.out | exact HQ2.out | apply useS_ok | apply relS_ok))).mono ?_; rintro e w1 ⟨rfl, hs⟩; (try simp only [World.size_alloc] at hs); replace HS := Aside0.mk hs; clear hs)
    | (go_at_call 23; refine (Used_h (by repeat (with_reducible first | exact HS.out | apply sl_drewN | apply sl_drew | apply sl_alloc)) 0 _ (by rfl)).mono ?_; rintro e w1 ⟨rfl, rfl⟩))
            go_roundg kq
            case measure => omega
            case rel =>
              have hs := HS.out
              rw [HE.out] at hs
              exact ⟨i + 1, s - x.f1, rfl, rfl, ⟨by have := HI.out; omega⟩, ⟨by omega, by omega⟩, ⟨hs⟩⟩
          · have b5 : decide (x.f1 ≤ s) = false := decide_eq_false hd
            rw [if_pos (by omega)] at e1 e2
            have u1 := used1 (s := s) (lim := lim)
            have HE := Aside0.mk e2
            clear hb
            go_wp2_with (first
    | (go_at_call 26; refine (Use_h (by repeat (with_reducible first | exact HS.out | apply sl_drewN | apply sl_drew | apply sl_alloc)) 0 _ _ (by rfl) (by repeat (with_reducible first | exact HQ.out | exact HQ2.out | apply useS_ok | apply relS_ok))).mono ?_; rintro e w1 ⟨rfl, hs⟩; (try simp only [World.size_alloc] at hs); replace HS := Aside0.mk hs; clear hs)
    | (go_at_call 25; refine (Rel_h (by repeat (with_reducible first | exact HS.out | apply sl_drewN | apply sl_drew | apply sl_alloc)) 0 _ _ (by rfl) (by repeat (with_reducible first | exact HQ.out | exact HQ2.out | apply useS_ok | apply relS_ok))).mono ?_; rintro e w1 ⟨rfl, hs⟩; (try simp only [World.size_alloc] at hs); replace HS := Aside0.mk hs; clear hs)
    | (go_at_call 23; refine (Used_h (by repeat (with_reducible first | exact HS.out | apply sl_drewN | apply sl_drew | apply sl_alloc)) 0 _ (by rfl)).mono ?_; rintro e w1 ⟨rfl, rfl⟩))
            go_roundg kq
            case measure => omega
            case rel =>
              have hs := HS.out
              rw [HE.out] at hs
              exact ⟨i + 1, s, rfl, rfl, ⟨by have := HI.out; omega⟩, HN, ⟨hs⟩⟩
      · rcases (show x.f1 < 0 ∨ (0 ≤ x.f1 ∧ 1099511627776 < x.f1) by omega) with d | ⟨d1, d⟩
        all_goals
          clear hp
          go_wp2
          go_roundg kq
          case measure => omega
          case rel => exact ⟨i + 1, s, rfl, rfl, ⟨by have := HI.out; omega⟩, HN, HS⟩
    · have b2 : decide (i < l.length) = false := decide_eq_false hlt
      clear hlt hi
      go_wp2_with (first
    | (go_at_call 11; refine (ex_calls w _ _ (by repeat (with_reducible first | exact HS.out | apply sl_drewN | apply sl_drew | apply sl_alloc))).mono ?_; rintro e w1 ⟨rfl, hs⟩; (try simp only [World.size_alloc] at hs); replace HS := Aside0.mk hs; clear hs))
      go_ret
      exact ⟨rfl, sl_below0 HS.out⟩
end Go.Proofs.Ytlfediaeaaodpaa.Q
