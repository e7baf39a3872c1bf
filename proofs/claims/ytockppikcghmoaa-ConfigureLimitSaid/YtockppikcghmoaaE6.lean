import Derived.Test.YtockppikcghmoaaP20
namespace Go.Proofs.Ytockppikcghmoaa.Q
open Go.RowKit Go.Proofs.YtockppikcghmoaaW.PrintWords Go.Proofs.YtockppikcghmoaaW.PrintLast Go.Proofs.YtockppikcghmoaaW.PrintMore Go.Proofs.Ytockppikcghmoaa.Sl Go.Proofs.Ytockppikcghmoaa.Hand 
attribute [local go_sem] max2_int min2_int max_two min_two max_three min_three max_four min_four 
set_option linter.unusedVariables false
set_option linter.unusedSimpArgs false

set_option maxHeartbeats 8000000 in
set_option maxRecDepth 100000 in
theorem Limit_calls (k f : Int) (w : World) (hk0 : 0 ≤ k) (hf0 : 0 ≤ f) (hf1 : f < 4294967296) :
    Calls Try.prog 6 #[.int .u8 k, .int .u32 f] w fun e w' => e = .returned (.bool true) ∧ Below w.heap.size w w' := by
  have HS := Aside0.mk (sl_start w)
  go_enter Try.func6, Try.ntmps6
  go_wp2_with (first
    | (go_at_call 10; refine (New_calls w _ _ (by repeat (with_reducible first | exact HS.out | apply sl_drewN | apply sl_drew | apply sl_box | apply sl_alloc))).mono ?_; rintro e w1 ⟨g, rfl, hs⟩; (try simp only [World.size_alloc] at hs); replace HS := Aside0.mk hs; clear hs; (try (have hb1 := sl_blk HS.out 1 (by rfl); (try simp only [World.size_alloc] at hb1); have lt1 := blk_lt hb1; have c1_0 := (blk_cell hb1 0).trans (show _ = some _ from rfl); have c1_1 := (blk_cell hb1 1).trans (show _ = some _ from rfl); have c1_2 := (blk_cell hb1 2).trans (show _ = some _ from rfl); have c1_3 := (blk_cell hb1 3).trans (show _ = some _ from rfl); clear hb1)))
    | (go_at_call 12; refine (Send_sl 0 _ _ _ _ rfl (by repeat (with_reducible first | exact HS.out | apply sl_drewN | apply sl_drew | apply sl_box | apply sl_alloc))).mono ?_; rintro e w1 ⟨rfl, hs⟩; (try simp only [World.size_alloc] at hs); replace HS := Aside0.mk hs; clear hs; (try (have hb1 := sl_blk HS.out 1 (by rfl); (try simp only [World.size_alloc] at hb1); have lt1 := blk_lt hb1; have c1_0 := (blk_cell hb1 0).trans (show _ = some _ from rfl); have c1_1 := (blk_cell hb1 1).trans (show _ = some _ from rfl); have c1_2 := (blk_cell hb1 2).trans (show _ = some _ from rfl); have c1_3 := (blk_cell hb1 3).trans (show _ = some _ from rfl); clear hb1)))
    | (go_at_call 14; refine (Ack_sl 0 _ rfl (by repeat (with_reducible first | exact HS.out | apply sl_drewN | apply sl_drew | apply sl_box | apply sl_alloc))).mono ?_; rintro e w1 ⟨rfl, hs⟩; (try simp only [World.size_alloc] at hs); replace HS := Aside0.mk hs; clear hs; (try (have hb1 := sl_blk HS.out 1 (by rfl); (try simp only [World.size_alloc] at hb1); have lt1 := blk_lt hb1; have c1_0 := (blk_cell hb1 0).trans (show _ = some _ from rfl); have c1_1 := (blk_cell hb1 1).trans (show _ = some _ from rfl); have c1_2 := (blk_cell hb1 2).trans (show _ = some _ from rfl); have c1_3 := (blk_cell hb1 3).trans (show _ = some _ from rfl); clear hb1)))
    | (go_at_call 16; refine (Apply_sl 0 rfl (by repeat (with_reducible first | exact HS.out | apply sl_drewN | apply sl_drew | apply sl_box | apply sl_alloc))).mono ?_; rintro e w1 ⟨rfl, hs⟩; unfold rcfg; (try simp only [World.size_alloc] at hs); replace HS := Aside0.mk hs; clear hs; (try (have hb1 := sl_blk HS.out 1 (by rfl); (try simp only [World.size_alloc] at hb1); have lt1 := blk_lt hb1; have c1_0 := (blk_cell hb1 0).trans (show _ = some _ from rfl); have c1_1 := (blk_cell hb1 1).trans (show _ = some _ from rfl); have c1_2 := (blk_cell hb1 2).trans (show _ = some _ from rfl); have c1_3 := (blk_cell hb1 3).trans (show _ = some _ from rfl); clear hb1)))
    | (go_at_call 18; refine (Acked_sl 0 rfl (by repeat (with_reducible first | exact HS.out | apply sl_drewN | apply sl_drew | apply sl_box | apply sl_alloc))).mono ?_; rintro e w1 ⟨rfl, hs⟩; unfold rcfg; (try simp only [World.size_alloc] at hs); replace HS := Aside0.mk hs; clear hs; (try (have hb1 := sl_blk HS.out 1 (by rfl); (try simp only [World.size_alloc] at hb1); have lt1 := blk_lt hb1; have c1_0 := (blk_cell hb1 0).trans (show _ = some _ from rfl); have c1_1 := (blk_cell hb1 1).trans (show _ = some _ from rfl); have c1_2 := (blk_cell hb1 2).trans (show _ = some _ from rfl); have c1_3 := (blk_cell hb1 3).trans (show _ = some _ from rfl); clear hb1)))
    | (go_at_call 20; refine (Waiting_sl 0 rfl (by repeat (with_reducible first | exact HS.out | apply sl_drewN | apply sl_drew | apply sl_box | apply sl_alloc))).mono ?_; rintro e w1 ⟨rfl, rfl⟩)
    | (go_at_call 22; refine (Configured_sl 0 rfl (by repeat (with_reducible first | exact HS.out | apply sl_drewN | apply sl_drew | apply sl_box | apply sl_alloc))).mono ?_; rintro e w1 ⟨rfl, rfl⟩)
    | (go_at_call 9; refine (ex_calls w _ _ (by repeat (with_reducible first | exact HS.out | apply sl_drewN | apply sl_drew | apply sl_box | apply sl_alloc))).mono ?_; rintro e w1 ⟨rfl, hs⟩; (try simp only [World.size_alloc] at hs); replace HS := Aside0.mk hs; clear hs))
  go_loopg [11] 64 (fun kq v11 wr => ∃ i : Nat, v11 = .int .i64 (i : Int) ∧ Aside0 (i + kq = 64) ∧ Aside0 (SL w wr [queueR g ⟨wl f i, z40, false, false⟩]))
  case atStart => exact ⟨0, rfl, ⟨rfl⟩, HS⟩
  case round =>
    obtain ⟨i, rfl, HI, HS⟩ := hrel
    have hi := HI.out
    by_cases hlt : i < 64
    · have b1 : decide ((i : Int) < 64) = true := decide_eq_true (by omega)
      obtain ⟨kq, rfl⟩ : ∃ m, gk = m + 1 := ⟨gk - 1, by omega⟩
      have e1 : sendE ⟨wl f i, z40, false, false⟩ ((f + (i : Int)) % 4294967296) i i = 0 := sendE_fits (by rw [wl_find f i i (Nat.le_refl _) (by omega)]; omega) (by rw [wl_len]; omega) (by omega)
      have E := Aside0.mk e1
      have p1 : (i : Int) < 64 := by omega
      go_wp2_with (first
    | (go_at_call 10; refine (New_calls w _ _ (by repeat (with_reducible first | exact HS.out | apply sl_drewN | apply sl_drew | apply sl_box | apply sl_alloc))).mono ?_; rintro e w1 ⟨g, rfl, hs⟩; (try simp only [World.size_alloc] at hs); replace HS := Aside0.mk hs; clear hs; (try (have hb1 := sl_blk HS.out 1 (by rfl); (try simp only [World.size_alloc] at hb1); have lt1 := blk_lt hb1; have c1_0 := (blk_cell hb1 0).trans (show _ = some _ from rfl); have c1_1 := (blk_cell hb1 1).trans (show _ = some _ from rfl); have c1_2 := (blk_cell hb1 2).trans (show _ = some _ from rfl); have c1_3 := (blk_cell hb1 3).trans (show _ = some _ from rfl); clear hb1)))
    | (go_at_call 12; refine (Send_sl 0 _ _ _ _ rfl (by repeat (with_reducible first | exact HS.out | apply sl_drewN | apply sl_drew | apply sl_box | apply sl_alloc))).mono ?_; rintro e w1 ⟨rfl, hs⟩; (try simp only [World.size_alloc] at hs); replace HS := Aside0.mk hs; clear hs; (try (have hb1 := sl_blk HS.out 1 (by rfl); (try simp only [World.size_alloc] at hb1); have lt1 := blk_lt hb1; have c1_0 := (blk_cell hb1 0).trans (show _ = some _ from rfl); have c1_1 := (blk_cell hb1 1).trans (show _ = some _ from rfl); have c1_2 := (blk_cell hb1 2).trans (show _ = some _ from rfl); have c1_3 := (blk_cell hb1 3).trans (show _ = some _ from rfl); clear hb1)))
    | (go_at_call 14; refine (Ack_sl 0 _ rfl (by repeat (with_reducible first | exact HS.out | apply sl_drewN | apply sl_drew | apply sl_box | apply sl_alloc))).mono ?_; rintro e w1 ⟨rfl, hs⟩; (try simp only [World.size_alloc] at hs); replace HS := Aside0.mk hs; clear hs; (try (have hb1 := sl_blk HS.out 1 (by rfl); (try simp only [World.size_alloc] at hb1); have lt1 := blk_lt hb1; have c1_0 := (blk_cell hb1 0).trans (show _ = some _ from rfl); have c1_1 := (blk_cell hb1 1).trans (show _ = some _ from rfl); have c1_2 := (blk_cell hb1 2).trans (show _ = some _ from rfl); have c1_3 := (blk_cell hb1 3).trans (show _ = some _ from rfl); clear hb1)))
    | (go_at_call 16; refine (Apply_sl 0 rfl (by repeat (with_reducible first | exact HS.out | apply sl_drewN | apply sl_drew | apply sl_box | apply sl_alloc))).mono ?_; rintro e w1 ⟨rfl, hs⟩; unfold rcfg; (try simp only [World.size_alloc] at hs); replace HS := Aside0.mk hs; clear hs; (try (have hb1 := sl_blk HS.out 1 (by rfl); (try simp only [World.size_alloc] at hb1); have lt1 := blk_lt hb1; have c1_0 := (blk_cell hb1 0).trans (show _ = some _ from rfl); have c1_1 := (blk_cell hb1 1).trans (show _ = some _ from rfl); have c1_2 := (blk_cell hb1 2).trans (show _ = some _ from rfl); have c1_3 := (blk_cell hb1 3).trans (show _ = some _ from rfl); clear hb1)))
    | (go_at_call 18; refine (Acked_sl 0 rfl (by repeat (with_reducible first | exact HS.out | apply sl_drewN | apply sl_drew | apply sl_box | apply sl_alloc))).mono ?_; rintro e w1 ⟨rfl, hs⟩; unfold rcfg; (try simp only [World.size_alloc] at hs); replace HS := Aside0.mk hs; clear hs; (try (have hb1 := sl_blk HS.out 1 (by rfl); (try simp only [World.size_alloc] at hb1); have lt1 := blk_lt hb1; have c1_0 := (blk_cell hb1 0).trans (show _ = some _ from rfl); have c1_1 := (blk_cell hb1 1).trans (show _ = some _ from rfl); have c1_2 := (blk_cell hb1 2).trans (show _ = some _ from rfl); have c1_3 := (blk_cell hb1 3).trans (show _ = some _ from rfl); clear hb1)))
    | (go_at_call 20; refine (Waiting_sl 0 rfl (by repeat (with_reducible first | exact HS.out | apply sl_drewN | apply sl_drew | apply sl_box | apply sl_alloc))).mono ?_; rintro e w1 ⟨rfl, rfl⟩)
    | (go_at_call 22; refine (Configured_sl 0 rfl (by repeat (with_reducible first | exact HS.out | apply sl_drewN | apply sl_drew | apply sl_box | apply sl_alloc))).mono ?_; rintro e w1 ⟨rfl, rfl⟩)
    | (go_at_call 9; refine (ex_calls w _ _ (by repeat (with_reducible first | exact HS.out | apply sl_drewN | apply sl_drew | apply sl_box | apply sl_alloc))).mono ?_; rintro e w1 ⟨rfl, hs⟩; (try simp only [World.size_alloc] at hs); replace HS := Aside0.mk hs; clear hs))
      go_roundg kq
      case measure => omega
      case rel =>
        refine ⟨i + 1, rfl, ⟨by omega⟩, ⟨?_⟩⟩
        have := HS.out
        rw [sendS_ok E.out] at this
        rw [wl_succ]
        exact this
    · have b1 : decide ((i : Int) < 64) = false := decide_eq_false (by omega)
      obtain rfl : i = 64 := by omega
      obtain ⟨Q, hQ⟩ : ∃ Q, Q = (⟨wl f 64, z40, false, false⟩ : QSt) := ⟨_, rfl⟩
      rw [← hQ] at HS
      have hlen : Q.wait.length = 64 := by rw [hQ]; exact wl_len f 64
      have g0 : findI Q.wait ((f + 64) % 4294967296) = -1 := by rw [hQ]; exact wl_find f 64 64 (Nat.le_refl _) (Nat.le_refl _)
      have e1 : sendE Q ((f + 64) % 4294967296) 1 1 = 5 := by unfold sendE; rw [if_neg (by omega), if_neg (by omega), if_pos (by omega)]
      have s1 : sendS Q ((f + 64) % 4294967296) 1 1 1 = Q := sendS_no (by rw [e1]; omega)
      have e2 : sendE Q ((f + 64) % 4294967296) (-1) 1 = 6 := sendE_range (by omega) (by omega)
      have s2 : sendS Q ((f + 64) % 4294967296) (-1) 1 1 = Q := sendS_no (by rw [e2]; omega)
      have g1 : findI Q.wait f = 0 := by
        have := wl_find_at f 64 0 (by omega) (by omega)
        rw [show (f + ((0 : Nat) : Int)) % 4294967296 = f by omega] at this
        rw [hQ]; exact this
      have e3 : sendE Q f 1 1 = 7 := sendE_dup (by omega)
      have s3 : sendS Q f 1 1 1 = Q := sendS_no (by rw [e3]; omega)
      have l1 : (Q.wait.length : Int) = 64 := by omega
      obtain ⟨n, hn⟩ : ∃ n : Nat, k % 64 = (n : Int) := ⟨(k % 64).toNat, by omega⟩
      have hn2 : n < 64 := by omega
      have g2 : findI Q.wait ((f + k % 64) % 4294967296) = n := by rw [hn, hQ]; exact wl_find_at f 64 n hn2 (Nat.le_refl _)
      have e4 : ackE Q ((f + k % 64) % 4294967296) = 0 := by unfold ackE; rw [if_neg (by omega)]
      obtain ⟨Q2, s4⟩ : ∃ q, ackS Q ((f + k % 64) % 4294967296) = q := ⟨_, rfl⟩
      have hQ2 : Q2 = ⟨(wl f 64).drop (n + 1), wc f n, true, false⟩ := by
        rw [← s4]; unfold ackS; rw [if_neg (by omega), g2, hQ, Int.toNat_natCast, wl_at f 64 n hn2]
      have l2 : (Q2.wait.length : Int) = 63 - k % 64 := by rw [hQ2]; simp only [List.length_drop, wl_len]; omega
      have a2 : Q2.acked = true := by rw [hQ2]
      have c2 : Q2.conf = false := by rw [hQ2]
      have n0 : Q2.next.f0 = (f + k % 64) % 4294967296 := by rw [hQ2, hn]; rfl
      have n1 : Q2.next.f1 = k % 64 := by rw [hQ2, hn]; rfl
      have n2 : Q2.next.f2 = k % 64 := by rw [hQ2, hn]; rfl
      have n3 : Q2.next.f3 = k % 64 := by rw [hQ2, hn]; rfl
      have g3 : findI Q2.wait ((f + 64) % 4294967296) = -1 := by rw [hQ2]; exact wl_drop f 64 64 (n + 1) (Nat.le_refl _) (Nat.le_refl _)
      have e5 : sendE Q2 ((f + 64) % 4294967296) 1 1 = 0 := sendE_fits (by omega) (by omega) (by omega)
      have k0 : 0 ≤ k % 64 := by omega
      have k1 : k % 64 < 64 := by omega
      clear hQ hQ2 g0 g1 g2 g3 hlen hn hn2 hlt hi
      go_wp2_with (first
    | (go_at_call 10; refine (New_calls w _ _ (by repeat (with_reducible first | exact HS.out | apply sl_drewN | apply sl_drew | apply sl_box | apply sl_alloc))).mono ?_; rintro e w1 ⟨g, rfl, hs⟩; (try simp only [World.size_alloc] at hs); replace HS := Aside0.mk hs; clear hs; (try (have hb1 := sl_blk HS.out 1 (by rfl); (try simp only [World.size_alloc] at hb1); have lt1 := blk_lt hb1; have c1_0 := (blk_cell hb1 0).trans (show _ = some _ from rfl); have c1_1 := (blk_cell hb1 1).trans (show _ = some _ from rfl); have c1_2 := (blk_cell hb1 2).trans (show _ = some _ from rfl); have c1_3 := (blk_cell hb1 3).trans (show _ = some _ from rfl); clear hb1)))
    | (go_at_call 12; refine (Send_sl 0 _ _ _ _ rfl (by repeat (with_reducible first | exact HS.out | apply sl_drewN | apply sl_drew | apply sl_box | apply sl_alloc))).mono ?_; rintro e w1 ⟨rfl, hs⟩; (try simp only [World.size_alloc] at hs); replace HS := Aside0.mk hs; clear hs; (try (have hb1 := sl_blk HS.out 1 (by rfl); (try simp only [World.size_alloc] at hb1); have lt1 := blk_lt hb1; have c1_0 := (blk_cell hb1 0).trans (show _ = some _ from rfl); have c1_1 := (blk_cell hb1 1).trans (show _ = some _ from rfl); have c1_2 := (blk_cell hb1 2).trans (show _ = some _ from rfl); have c1_3 := (blk_cell hb1 3).trans (show _ = some _ from rfl); clear hb1)))
    | (go_at_call 14; refine (Ack_sl 0 _ rfl (by repeat (with_reducible first | exact HS.out | apply sl_drewN | apply sl_drew | apply sl_box | apply sl_alloc))).mono ?_; rintro e w1 ⟨rfl, hs⟩; (try simp only [World.size_alloc] at hs); replace HS := Aside0.mk hs; clear hs; (try (have hb1 := sl_blk HS.out 1 (by rfl); (try simp only [World.size_alloc] at hb1); have lt1 := blk_lt hb1; have c1_0 := (blk_cell hb1 0).trans (show _ = some _ from rfl); have c1_1 := (blk_cell hb1 1).trans (show _ = some _ from rfl); have c1_2 := (blk_cell hb1 2).trans (show _ = some _ from rfl); have c1_3 := (blk_cell hb1 3).trans (show _ = some _ from rfl); clear hb1)))
    | (go_at_call 16; refine (Apply_sl 0 rfl (by repeat (with_reducible first | exact HS.out | apply sl_drewN | apply sl_drew | apply sl_box | apply sl_alloc))).mono ?_; rintro e w1 ⟨rfl, hs⟩; unfold rcfg; (try simp only [World.size_alloc] at hs); replace HS := Aside0.mk hs; clear hs; (try (have hb1 := sl_blk HS.out 1 (by rfl); (try simp only [World.size_alloc] at hb1); have lt1 := blk_lt hb1; have c1_0 := (blk_cell hb1 0).trans (show _ = some _ from rfl); have c1_1 := (blk_cell hb1 1).trans (show _ = some _ from rfl); have c1_2 := (blk_cell hb1 2).trans (show _ = some _ from rfl); have c1_3 := (blk_cell hb1 3).trans (show _ = some _ from rfl); clear hb1)))
    | (go_at_call 18; refine (Acked_sl 0 rfl (by repeat (with_reducible first | exact HS.out | apply sl_drewN | apply sl_drew | apply sl_box | apply sl_alloc))).mono ?_; rintro e w1 ⟨rfl, hs⟩; unfold rcfg; (try simp only [World.size_alloc] at hs); replace HS := Aside0.mk hs; clear hs; (try (have hb1 := sl_blk HS.out 1 (by rfl); (try simp only [World.size_alloc] at hb1); have lt1 := blk_lt hb1; have c1_0 := (blk_cell hb1 0).trans (show _ = some _ from rfl); have c1_1 := (blk_cell hb1 1).trans (show _ = some _ from rfl); have c1_2 := (blk_cell hb1 2).trans (show _ = some _ from rfl); have c1_3 := (blk_cell hb1 3).trans (show _ = some _ from rfl); clear hb1)))
    | (go_at_call 20; refine (Waiting_sl 0 rfl (by repeat (with_reducible first | exact HS.out | apply sl_drewN | apply sl_drew | apply sl_box | apply sl_alloc))).mono ?_; rintro e w1 ⟨rfl, rfl⟩)
    | (go_at_call 22; refine (Configured_sl 0 rfl (by repeat (with_reducible first | exact HS.out | apply sl_drewN | apply sl_drew | apply sl_box | apply sl_alloc))).mono ?_; rintro e w1 ⟨rfl, rfl⟩)
    | (go_at_call 9; refine (ex_calls w _ _ (by repeat (with_reducible first | exact HS.out | apply sl_drewN | apply sl_drew | apply sl_box | apply sl_alloc))).mono ?_; rintro e w1 ⟨rfl, hs⟩; (try simp only [World.size_alloc] at hs); replace HS := Aside0.mk hs; clear hs))
      go_ret
      exact ⟨rfl, sl_below0 (by repeat (with_reducible first | exact HS.out | apply sl_drewN | apply sl_drew | apply sl_box | apply sl_alloc))⟩
end Go.Proofs.Ytockppikcghmoaa.Q
