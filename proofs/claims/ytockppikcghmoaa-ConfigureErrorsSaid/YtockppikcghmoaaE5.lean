import Derived.Test.YtockppikcghmoaaP20
namespace Go.Proofs.Ytockppikcghmoaa.Q
open Go.RowKit Go.Proofs.YtockppikcghmoaaW.PrintWords Go.Proofs.YtockppikcghmoaaW.PrintLast Go.Proofs.YtockppikcghmoaaW.PrintMore Go.Proofs.Ytockppikcghmoaa.Sl Go.Proofs.Ytockppikcghmoaa.Hand 
attribute [local go_sem] max2_int min2_int max_two min_two max_three min_three max_four min_four 
set_option linter.unusedVariables false
set_option linter.unusedSimpArgs false

set_option maxHeartbeats 8000000 in
set_option maxRecDepth 100000 in
theorem Errors_calls (s a b : Int) (w : World) (hs0 : 0 ≤ s) (hs1 : s < 4294967296) :
    Calls Try.prog 5 #[.int .u32 s, .int .i64 a, .int .i64 b] w fun e w' => e = .returned (.bool true) ∧ Below w.heap.size w w' := by
  have HS := Aside0.mk (sl_start w)
  by_cases hf : 0 ≤ a ∧ a ≤ 16384 ∧ 0 ≤ b ∧ b ≤ 16384
  · have e1 : sendE q0 s a b = 0 := sendE_fits (by show (-1 : Int) < 0; decide) (by show 0 < 64; decide) hf
    obtain ⟨q1, s1⟩ : ∃ q, sendS q0 s a b 3 = q := ⟨_, rfl⟩
    have hq : q1 = ⟨[⟨s, a, b, 3⟩], z40, false, false⟩ := by rw [← s1, sendS_ok e1]; rfl
    have f1 : findI q1.wait s = 0 := by rw [hq]; simp [findI_one]
    have e2 : sendE q1 s a b = 7 := sendE_dup (by rw [f1]; omega)
    have s2 : sendS q1 s a b 3 = q1 := sendS_no (by rw [e2]; omega)
    have l1 : (q1.wait.length : Int) = 1 := by rw [hq]; rfl
    have ff : ∀ t, t ≠ s → ackE q1 t = 13 ∧ ackS q1 t = q1 := fun t ht => by
      have : findI q1.wait t = -1 := by rw [hq, findI_one, if_neg (fun h => ht h.symm)]
      unfold ackE ackS
      rw [if_pos (by omega), if_pos (by omega)]
      exact ⟨rfl, rfl⟩
    have e3 := (ff ((s + 1) % 4294967296) (by omega)).1
    have s3 := (ff ((s + 1) % 4294967296) (by omega)).2
    have e4 : ackE q1 s = 0 := by unfold ackE; rw [if_neg (by omega)]
    obtain ⟨q2, s4⟩ : ∃ q, ackS q1 s = q := ⟨_, rfl⟩
    have hq2 : q2 = ⟨[], ⟨s, a, b, 3⟩, true, false⟩ := by rw [← s4]; unfold ackS; rw [if_neg (by omega), f1, hq]; rfl
    have g2 : ∀ t, findI q2.wait t = -1 := fun t => by rw [hq2]; rfl
    have e5 : ackE q2 s = 13 := by unfold ackE; rw [if_pos (by rw [g2]; omega)]
    have s5 : ackS q2 s = q2 := by unfold ackS; rw [if_pos (by rw [g2]; omega)]
    have e6 : sendE q2 s 0 0 = 0 := sendE_fits (by rw [g2]; omega) (by rw [hq2]; show 0 < 64; decide) (by omega)
    obtain ⟨h1, h2, h3, h4⟩ := hf
    clear hq hq2 g2 ff f1
    go_enter Try.func5, Try.ntmps5
    go_wp2_with (first
    | (go_at_call 10; refine (New_calls w _ _ (by repeat (with_reducible first | exact HS.out | apply sl_drewN | apply sl_drew | apply sl_box | apply sl_alloc))).mono ?_; rintro e w1 ⟨g, rfl, hs⟩; replace HS := Aside0.mk hs; clear hs)
    | (go_at_call 12; refine (Send_sl 0 _ _ _ _ rfl (by repeat (with_reducible first | exact HS.out | apply sl_drewN | apply sl_drew | apply sl_box | apply sl_alloc))).mono ?_; rintro e w1 ⟨rfl, hs⟩; replace HS := Aside0.mk hs; clear hs)
    | (go_at_call 14; refine (Ack_sl 0 _ rfl (by repeat (with_reducible first | exact HS.out | apply sl_drewN | apply sl_drew | apply sl_box | apply sl_alloc))).mono ?_; rintro e w1 ⟨rfl, hs⟩; replace HS := Aside0.mk hs; clear hs)
    | (go_at_call 16; refine (Apply_sl 0 rfl (by repeat (with_reducible first | exact HS.out | apply sl_drewN | apply sl_drew | apply sl_box | apply sl_alloc))).mono ?_; rintro e w1 ⟨rfl, hs⟩; unfold rcfg; replace HS := Aside0.mk hs; clear hs)
    | (go_at_call 18; refine (Acked_sl 0 rfl (by repeat (with_reducible first | exact HS.out | apply sl_drewN | apply sl_drew | apply sl_box | apply sl_alloc))).mono ?_; rintro e w1 ⟨rfl, hs⟩; unfold rcfg; replace HS := Aside0.mk hs; clear hs)
    | (go_at_call 20; refine (Waiting_sl 0 rfl (by repeat (with_reducible first | exact HS.out | apply sl_drewN | apply sl_drew | apply sl_box | apply sl_alloc))).mono ?_; rintro e w1 ⟨rfl, rfl⟩)
    | (go_at_call 22; refine (Configured_sl 0 rfl (by repeat (with_reducible first | exact HS.out | apply sl_drewN | apply sl_drew | apply sl_box | apply sl_alloc))).mono ?_; rintro e w1 ⟨rfl, rfl⟩)
    | (go_at_call 9; refine (ex_calls w _ _ (by repeat (with_reducible first | exact HS.out | apply sl_drewN | apply sl_drew | apply sl_box | apply sl_alloc))).mono ?_; rintro e w1 ⟨rfl, hs⟩; replace HS := Aside0.mk hs; clear hs))
    go_ret
    exact ⟨rfl, sl_below0 HS.out⟩
  · have e1 : sendE q0 s a b = 6 := sendE_range (by show (-1 : Int) < 0; decide) hf
    have s0 : sendS q0 s a b 3 = q0 := sendS_no (by rw [e1]; omega)
    have l0 : (q0.wait.length : Int) = 0 := rfl
    have e0 : sendE q0 s 1 1 = 0 := sendE_fits (by show (-1 : Int) < 0; decide) (by show 0 < 64; decide) (by omega)
    obtain ⟨q1, s1⟩ : ∃ q, sendS q0 s 1 1 0 = q := ⟨_, rfl⟩
    have hq : q1 = ⟨[⟨s, 1, 1, 0⟩], z40, false, false⟩ := by rw [← s1, sendS_ok e0]; rfl
    have f1 : findI q1.wait s = 0 := by rw [hq]; simp [findI_one]
    have e2 : sendE q1 s a b = 7 := sendE_dup (by rw [f1]; omega)
    have s2 : sendS q1 s a b 3 = q1 := sendS_no (by rw [e2]; omega)
    have l1 : (q1.wait.length : Int) = 1 := by rw [hq]; rfl
    have ff : ∀ t, t ≠ s → ackE q1 t = 13 ∧ ackS q1 t = q1 := fun t ht => by
      have : findI q1.wait t = -1 := by rw [hq, findI_one, if_neg (fun h => ht h.symm)]
      unfold ackE ackS
      rw [if_pos (by omega), if_pos (by omega)]
      exact ⟨rfl, rfl⟩
    have e3 := (ff ((s + 1) % 4294967296) (by omega)).1
    have s3 := (ff ((s + 1) % 4294967296) (by omega)).2
    have e4 : ackE q1 s = 0 := by unfold ackE; rw [if_neg (by omega)]
    obtain ⟨q2, s4⟩ : ∃ q, ackS q1 s = q := ⟨_, rfl⟩
    have hq2 : q2 = ⟨[], ⟨s, 1, 1, 0⟩, true, false⟩ := by rw [← s4]; unfold ackS; rw [if_neg (by omega), f1, hq]; rfl
    have g2 : ∀ t, findI q2.wait t = -1 := fun t => by rw [hq2]; rfl
    have e5 : ackE q2 s = 13 := by unfold ackE; rw [if_pos (by rw [g2]; omega)]
    have s5 : ackS q2 s = q2 := by unfold ackS; rw [if_pos (by rw [g2]; omega)]
    have e6 : sendE q2 s 0 0 = 0 := sendE_fits (by rw [g2]; omega) (by rw [hq2]; show 0 < 64; decide) (by omega)
    clear hq hq2 g2 ff f1
    go_enter Try.func5, Try.ntmps5
    go_wp2_with (first
    | (go_at_call 10; refine (New_calls w _ _ (by repeat (with_reducible first | exact HS.out | apply sl_drewN | apply sl_drew | apply sl_box | apply sl_alloc))).mono ?_; rintro e w1 ⟨g, rfl, hs⟩; replace HS := Aside0.mk hs; clear hs)
    | (go_at_call 12; refine (Send_sl 0 _ _ _ _ rfl (by repeat (with_reducible first | exact HS.out | apply sl_drewN | apply sl_drew | apply sl_box | apply sl_alloc))).mono ?_; rintro e w1 ⟨rfl, hs⟩; replace HS := Aside0.mk hs; clear hs)
    | (go_at_call 14; refine (Ack_sl 0 _ rfl (by repeat (with_reducible first | exact HS.out | apply sl_drewN | apply sl_drew | apply sl_box | apply sl_alloc))).mono ?_; rintro e w1 ⟨rfl, hs⟩; replace HS := Aside0.mk hs; clear hs)
    | (go_at_call 16; refine (Apply_sl 0 rfl (by repeat (with_reducible first | exact HS.out | apply sl_drewN | apply sl_drew | apply sl_box | apply sl_alloc))).mono ?_; rintro e w1 ⟨rfl, hs⟩; unfold rcfg; replace HS := Aside0.mk hs; clear hs)
    | (go_at_call 18; refine (Acked_sl 0 rfl (by repeat (with_reducible first | exact HS.out | apply sl_drewN | apply sl_drew | apply sl_box | apply sl_alloc))).mono ?_; rintro e w1 ⟨rfl, hs⟩; unfold rcfg; replace HS := Aside0.mk hs; clear hs)
    | (go_at_call 20; refine (Waiting_sl 0 rfl (by repeat (with_reducible first | exact HS.out | apply sl_drewN | apply sl_drew | apply sl_box | apply sl_alloc))).mono ?_; rintro e w1 ⟨rfl, rfl⟩)
    | (go_at_call 22; refine (Configured_sl 0 rfl (by repeat (with_reducible first | exact HS.out | apply sl_drewN | apply sl_drew | apply sl_box | apply sl_alloc))).mono ?_; rintro e w1 ⟨rfl, rfl⟩)
    | (go_at_call 9; refine (ex_calls w _ _ (by repeat (with_reducible first | exact HS.out | apply sl_drewN | apply sl_drew | apply sl_box | apply sl_alloc))).mono ?_; rintro e w1 ⟨rfl, hs⟩; replace HS := Aside0.mk hs; clear hs))
    all_goals
      go_ret
      exact ⟨rfl, sl_below0 HS.out⟩
end Go.Proofs.Ytockppikcghmoaa.Q
