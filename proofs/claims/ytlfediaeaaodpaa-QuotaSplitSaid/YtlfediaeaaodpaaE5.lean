import Derived.Test.YtlfediaeaaodpaaQu7
namespace Go.Proofs.Ytlfediaeaaodpaa.Q
open Go.RowKit Go.Proofs.YtlfediaeaaodpaaW.PrintWords Go.Proofs.YtlfediaeaaodpaaW.PrintLast Go.Proofs.YtlfediaeaaodpaaW.PrintMore Go.Proofs.Ytlfediaeaaodpaa.Sl Go.Proofs.Ytlfediaeaaodpaa.Hand 
attribute [local go_sem] max2_int min2_int max_two min_two max_three min_three max_four min_four 
set_option linter.unusedVariables false
set_option linter.unusedSimpArgs false

set_option maxHeartbeats 4000000 in
set_option maxRecDepth 100000 in
theorem Split_calls (t x y : Int) (w : World) (h0 : -9223372036854775808 ≤ t) (h1 : t < 9223372036854775808) (x0 : 0 ≤ x) (x1 : x < 256) (y0 : 0 ≤ y) (y1 : y < 256) :
    Calls Try.prog 5 #[.int .i64 t, .int .u8 x, .int .u8 y] w fun e w' => e = .returned (.bool true) ∧ Below w.heap.size w w' := by
  have HS := Aside0.mk (sl_start w)
  have newok : NewOk 7 300 := by unfold NewOk; omega
  have HB := Aside0.mk (newB_ok newok)
  have hadv : advB (newB 7 300) t = ⟨7, 300, 300000, true, t⟩ := rfl
  have k2 : takE (newB 7 300) t x = true := decide_eq_true (by rw [hadv]; show 0 ≤ x ∧ x * 1000 ≤ 300000; omega)
  obtain ⟨B1, sB⟩ : ∃ b, takS (newB 7 300) t x = b := ⟨_, rfl⟩
  have hB1 : B1 = ⟨7, 300, 300000 - x * 1000, true, t⟩ := by
    rw [← sB]
    unfold takS
    rw [hadv, if_pos (by show 0 ≤ x ∧ x * 1000 ≤ 300000; omega)]
  have hadv2 : advB B1 t = B1 := by rw [hB1]; unfold advB; simp
  by_cases hc : x + y ≤ 300
  · have k1 : takE (newB 7 300) t (x + y) = true := decide_eq_true (by rw [hadv]; show 0 ≤ x + y ∧ (x + y) * 1000 ≤ 300000; omega)
    obtain ⟨A1, sA⟩ : ∃ b, takS (newB 7 300) t (x + y) = b := ⟨_, rfl⟩
    have hA1 : A1 = ⟨7, 300, 300000 - (x + y) * 1000, true, t⟩ := by
      rw [← sA]
      unfold takS
      rw [hadv, if_pos (by show 0 ≤ x + y ∧ (x + y) * 1000 ≤ 300000; omega)]
    have k3 : takE B1 t y = true := decide_eq_true (by rw [hadv2, hB1]; show 0 ≤ y ∧ y * 1000 ≤ 300000 - x * 1000; omega)
    obtain ⟨B2, sB2⟩ : ∃ b, takS B1 t y = b := ⟨_, rfl⟩
    have hB2 : B2 = ⟨7, 300, 300000 - x * 1000 - y * 1000, true, t⟩ := by
      rw [← sB2]
      unfold takS
      rw [hadv2, hB1, if_pos (by show 0 ≤ y ∧ y * 1000 ≤ 300000 - x * 1000; omega)]
    have l1 : levE A1 t = 300 - x - y := by
      unfold levE
      rw [hA1]
      unfold advB
      simp
      omega
    have l2 : levE B2 t = 300 - x - y := by
      unfold levE
      rw [hB2]
      unfold advB
      simp
      omega
    clear hadv hB1 hadv2 hA1 hB2
    go_enter Try.func5, Try.ntmps5
    go_wp2_with (first
    | (go_at_call 12; refine (New_sl _ _ (by repeat (with_reducible first | exact HS.out | apply sl_drewN | apply sl_drew | apply sl_alloc)) newok).mono ?_; rintro e w1 ⟨gb, rfl, hs⟩; (try simp only [World.size_alloc] at hs); replace HS := Aside0.mk hs; clear hs)
    | (go_at_call 26; refine (Use_h (by repeat (with_reducible first | exact HS.out | apply sl_drewN | apply sl_drew | apply sl_alloc)) 0 _ _ (by rfl) (by repeat (with_reducible first | exact HQ.out | exact HQ2.out | apply useS_ok | apply relS_ok))).mono ?_; rintro e w1 ⟨rfl, hs⟩; (try simp only [World.size_alloc] at hs); replace HS := Aside0.mk hs; clear hs)
    | (go_at_call 25; refine (Rel_h (by repeat (with_reducible first | exact HS.out | apply sl_drewN | apply sl_drew | apply sl_alloc)) 0 _ _ (by rfl) (by repeat (with_reducible first | exact HQ.out | exact HQ2.out | apply useS_ok | apply relS_ok))).mono ?_; rintro e w1 ⟨rfl, hs⟩; (try simp only [World.size_alloc] at hs); replace HS := Aside0.mk hs; clear hs)
    | (go_at_call 23; refine (Used_h (by repeat (with_reducible first | exact HS.out | apply sl_drewN | apply sl_drew | apply sl_alloc)) 0 _ (by rfl)).mono ?_; rintro e w1 ⟨rfl, rfl⟩)
    | (go_at_call 17; (first | (refine (Take_h (by repeat (with_reducible first | exact HS.out | apply sl_drewN | apply sl_drew | apply sl_alloc)) 0 _ _ (by rfl) (by repeat (with_reducible first | exact HB.out | exact HB2.out | refine takS_ok ?_ (by first | assumption | omega) (by first | assumption | omega) | refine advB_ok ?_ (by first | assumption | omega) (by first | assumption | omega))) (by first | assumption | omega) (by first | assumption | omega)).mono ?_) | (refine (Take_h (by repeat (with_reducible first | exact HS.out | apply sl_drewN | apply sl_drew | apply sl_alloc)) 1 _ _ (by rfl) (by repeat (with_reducible first | exact HB.out | exact HB2.out | refine takS_ok ?_ (by first | assumption | omega) (by first | assumption | omega) | refine advB_ok ?_ (by first | assumption | omega) (by first | assumption | omega))) (by first | assumption | omega) (by first | assumption | omega)).mono ?_)); rintro e w1 ⟨rfl, hs⟩; (try simp only [World.size_alloc] at hs); replace HS := Aside0.mk hs; clear hs)
    | (go_at_call 15; (first | (refine (Level_h (by repeat (with_reducible first | exact HS.out | apply sl_drewN | apply sl_drew | apply sl_alloc)) 0 _ (by rfl) (by repeat (with_reducible first | exact HB.out | exact HB2.out | refine takS_ok ?_ (by first | assumption | omega) (by first | assumption | omega) | refine advB_ok ?_ (by first | assumption | omega) (by first | assumption | omega))) (by first | assumption | omega) (by first | assumption | omega)).mono ?_) | (refine (Level_h (by repeat (with_reducible first | exact HS.out | apply sl_drewN | apply sl_drew | apply sl_alloc)) 1 _ (by rfl) (by repeat (with_reducible first | exact HB.out | exact HB2.out | refine takS_ok ?_ (by first | assumption | omega) (by first | assumption | omega) | refine advB_ok ?_ (by first | assumption | omega) (by first | assumption | omega))) (by first | assumption | omega) (by first | assumption | omega)).mono ?_)); rintro e w1 ⟨rfl, hs⟩; (try simp only [World.size_alloc] at hs); replace HS := Aside0.mk hs; clear hs)
    | (go_at_call 11; refine (ex_calls w _ _ (by repeat (with_reducible first | exact HS.out | apply sl_drewN | apply sl_drew | apply sl_alloc))).mono ?_; rintro e w1 ⟨rfl, hs⟩; (try simp only [World.size_alloc] at hs); replace HS := Aside0.mk hs; clear hs))
    go_ret
    exact ⟨rfl, sl_below0 HS.out⟩
  · have k1 : takE (newB 7 300) t (x + y) = false := decide_eq_false (by rw [hadv]; show ¬ (0 ≤ x + y ∧ (x + y) * 1000 ≤ 300000); omega)
    have k3 : takE B1 t y = false := decide_eq_false (by rw [hadv2, hB1]; show ¬ (0 ≤ y ∧ y * 1000 ≤ 300000 - x * 1000); omega)
    clear hadv hB1 hadv2
    go_enter Try.func5, Try.ntmps5
    go_wp2_with (first
    | (go_at_call 12; refine (New_sl _ _ (by repeat (with_reducible first | exact HS.out | apply sl_drewN | apply sl_drew | apply sl_alloc)) newok).mono ?_; rintro e w1 ⟨gb, rfl, hs⟩; (try simp only [World.size_alloc] at hs); replace HS := Aside0.mk hs; clear hs)
    | (go_at_call 26; refine (Use_h (by repeat (with_reducible first | exact HS.out | apply sl_drewN | apply sl_drew | apply sl_alloc)) 0 _ _ (by rfl) (by repeat (with_reducible first | exact HQ.out | exact HQ2.out | apply useS_ok | apply relS_ok))).mono ?_; rintro e w1 ⟨rfl, hs⟩; (try simp only [World.size_alloc] at hs); replace HS := Aside0.mk hs; clear hs)
    | (go_at_call 25; refine (Rel_h (by repeat (with_reducible first | exact HS.out | apply sl_drewN | apply sl_drew | apply sl_alloc)) 0 _ _ (by rfl) (by repeat (with_reducible first | exact HQ.out | exact HQ2.out | apply useS_ok | apply relS_ok))).mono ?_; rintro e w1 ⟨rfl, hs⟩; (try simp only [World.size_alloc] at hs); replace HS := Aside0.mk hs; clear hs)
    | (go_at_call 23; refine (Used_h (by repeat (with_reducible first | exact HS.out | apply sl_drewN | apply sl_drew | apply sl_alloc)) 0 _ (by rfl)).mono ?_; rintro e w1 ⟨rfl, rfl⟩)
    | (go_at_call 17; (first | (refine (Take_h (by repeat (with_reducible first | exact HS.out | apply sl_drewN | apply sl_drew | apply sl_alloc)) 0 _ _ (by rfl) (by repeat (with_reducible first | exact HB.out | exact HB2.out | refine takS_ok ?_ (by first | assumption | omega) (by first | assumption | omega) | refine advB_ok ?_ (by first | assumption | omega) (by first | assumption | omega))) (by first | assumption | omega) (by first | assumption | omega)).mono ?_) | (refine (Take_h (by repeat (with_reducible first | exact HS.out | apply sl_drewN | apply sl_drew | apply sl_alloc)) 1 _ _ (by rfl) (by repeat (with_reducible first | exact HB.out | exact HB2.out | refine takS_ok ?_ (by first | assumption | omega) (by first | assumption | omega) | refine advB_ok ?_ (by first | assumption | omega) (by first | assumption | omega))) (by first | assumption | omega) (by first | assumption | omega)).mono ?_)); rintro e w1 ⟨rfl, hs⟩; (try simp only [World.size_alloc] at hs); replace HS := Aside0.mk hs; clear hs)
    | (go_at_call 15; (first | (refine (Level_h (by repeat (with_reducible first | exact HS.out | apply sl_drewN | apply sl_drew | apply sl_alloc)) 0 _ (by rfl) (by repeat (with_reducible first | exact HB.out | exact HB2.out | refine takS_ok ?_ (by first | assumption | omega) (by first | assumption | omega) | refine advB_ok ?_ (by first | assumption | omega) (by first | assumption | omega))) (by first | assumption | omega) (by first | assumption | omega)).mono ?_) | (refine (Level_h (by repeat (with_reducible first | exact HS.out | apply sl_drewN | apply sl_drew | apply sl_alloc)) 1 _ (by rfl) (by repeat (with_reducible first | exact HB.out | exact HB2.out | refine takS_ok ?_ (by first | assumption | omega) (by first | assumption | omega) | refine advB_ok ?_ (by first | assumption | omega) (by first | assumption | omega))) (by first | assumption | omega) (by first | assumption | omega)).mono ?_)); rintro e w1 ⟨rfl, hs⟩; (try simp only [World.size_alloc] at hs); replace HS := Aside0.mk hs; clear hs)
    | (go_at_call 11; refine (ex_calls w _ _ (by repeat (with_reducible first | exact HS.out | apply sl_drewN | apply sl_drew | apply sl_alloc))).mono ?_; rintro e w1 ⟨rfl, hs⟩; (try simp only [World.size_alloc] at hs); replace HS := Aside0.mk hs; clear hs))
    go_ret
    exact ⟨rfl, sl_below0 HS.out⟩
end Go.Proofs.Ytlfediaeaaodpaa.Q
