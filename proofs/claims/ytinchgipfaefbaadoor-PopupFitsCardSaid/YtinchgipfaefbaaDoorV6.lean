import Derived.Test.YtinchgipfaefbaaDoorV5
namespace Go.Proofs.YtinchgipfaefbaaDoor.Q
open Go.RowKit Go.Proofs.YtinchgipfaefbaaDoorW.PrintWords Go.Proofs.YtinchgipfaefbaaDoorW.PrintLast Go.Proofs.YtinchgipfaefbaaDoorW.PrintMore Go.Proofs.YtinchgipfaefbaaDoor.Sl Go.Proofs.YtinchgipfaefbaaDoor.Hand 
attribute [local go_sem] max2_int min2_int max_two min_two max_three min_three max_four min_four 
set_option linter.unusedVariables false
set_option linter.unusedSimpArgs false

section
variable {w0 w : World} {L : List Res}
set_option maxHeartbeats 4000000 in
set_option maxRecDepth 100000 in
theorem ConR_no (h : SL w0 w L) (p : Pos) (b0 b1 b2 b3 : Int) (hc : chk p ≠ 0) : Calls Tryd.prog 19 #[.agg #[.int .i64 p.w, .int .i64 p.h, .int .i64 p.x0, .int .i64 p.y0, .int .i64 p.x1, .int .i64 p.y1, .int .i64 p.ae, .int .i64 p.gr, .int .i64 p.ad, .int .i64 p.ox, .int .i64 p.oy], .agg #[.int .i64 b0, .int .i64 b1, .int .i64 b2, .int .i64 b3]] w fun e w' => e = .returned (.tuple #[.agg #[.int .i64 0, .int .i64 0, .int .i64 0, .int .i64 0], .int .i64 (chk p)]) ∧ SL w0 w' L := by
  obtain ⟨c, ec⟩ : ∃ c, chk p = c := ⟨_, rfl⟩
  have HC := Aside0.mk (show ∀ {w' : World} {M : List Res}, SL w w' M → Calls Tryd.prog 12 #[.agg #[.int .i64 p.w, .int .i64 p.h, .int .i64 p.x0, .int .i64 p.y0, .int .i64 p.x1, .int .i64 p.y1, .int .i64 p.ae, .int .i64 p.gr, .int .i64 p.ad, .int .i64 p.ox, .int .i64 p.oy]] w' fun e w'' => e = .returned (.int .i64 c) ∧ SL w w'' M from fun hs => ec ▸ CheckR_c hs p)
  rw [ec] at hc ⊢
  obtain ⟨pw, ph, x0, y0, x1, y1, ae, gr, ad, ox, oy⟩ := p
  have HS := Aside0.mk (sl_start w)
  have H := Aside0.mk h
  clear h ec
  go_enter Tryd.func19, Tryd.ntmps19
  go_wp2_with (first
    | (go_at_call 12; refine (HC.out (by repeat (with_reducible first | exact HS.out | apply sl_drewN | apply sl_drew | apply sl_box))).mono ?_; rintro e w1 ⟨rfl, hs⟩; (try simp only [World.size_alloc] at hs); replace HS := Aside0.mk hs; clear hs; have c0_0 := c_at HS.out 0 rfl 0 rfl; have c0_1 := c_at HS.out 0 rfl 1 rfl; have c0_2 := c_at HS.out 0 rfl 2 rfl; have c0_3 := c_at HS.out 0 rfl 3 rfl; have c0_4 := c_at HS.out 0 rfl 4 rfl; have c0_5 := c_at HS.out 0 rfl 5 rfl; have c0_6 := c_at HS.out 0 rfl 6 rfl; have c0_7 := c_at HS.out 0 rfl 7 rfl; have c0_8 := c_at HS.out 0 rfl 8 rfl; have c0_9 := c_at HS.out 0 rfl 9 rfl; have c0_10 := c_at HS.out 0 rfl 10 rfl; have ltc0 := blk_lt (sl_blk HS.out 0 rfl); have c1_0 := c_at HS.out 1 rfl 0 rfl; have c1_1 := c_at HS.out 1 rfl 1 rfl; have c1_2 := c_at HS.out 1 rfl 2 rfl; have c1_3 := c_at HS.out 1 rfl 3 rfl; have ltc1 := blk_lt (sl_blk HS.out 1 rfl); have c2_0 := c_at HS.out 2 rfl 0 rfl; have c2_1 := c_at HS.out 2 rfl 1 rfl; have c2_2 := c_at HS.out 2 rfl 2 rfl; have c2_3 := c_at HS.out 2 rfl 3 rfl; have ltc2 := blk_lt (sl_blk HS.out 2 rfl); have fzc2_0 := f_at HS.out 2 rfl 0; have fzc2_1 := f_at HS.out 2 rfl 1; have fzc2_2 := f_at HS.out 2 rfl 2; have fzc2_3 := f_at HS.out 2 rfl 3)
    | (go_at_call 26; refine (Valid4_c (by repeat (with_reducible first | exact HS.out | apply sl_drewN | apply sl_drew | apply sl_box)) b0 b1 b2 b3).mono ?_; rintro e w1 ⟨rfl, hs⟩; (try simp only [World.size_alloc] at hs); replace HS := Aside0.mk hs; clear hs; have c0_0 := c_at HS.out 0 rfl 0 rfl; have c0_1 := c_at HS.out 0 rfl 1 rfl; have c0_2 := c_at HS.out 0 rfl 2 rfl; have c0_3 := c_at HS.out 0 rfl 3 rfl; have c0_4 := c_at HS.out 0 rfl 4 rfl; have c0_5 := c_at HS.out 0 rfl 5 rfl; have c0_6 := c_at HS.out 0 rfl 6 rfl; have c0_7 := c_at HS.out 0 rfl 7 rfl; have c0_8 := c_at HS.out 0 rfl 8 rfl; have c0_9 := c_at HS.out 0 rfl 9 rfl; have c0_10 := c_at HS.out 0 rfl 10 rfl; have ltc0 := blk_lt (sl_blk HS.out 0 rfl); have c1_0 := c_at HS.out 1 rfl 0 rfl; have c1_1 := c_at HS.out 1 rfl 1 rfl; have c1_2 := c_at HS.out 1 rfl 2 rfl; have c1_3 := c_at HS.out 1 rfl 3 rfl; have ltc1 := blk_lt (sl_blk HS.out 1 rfl); have c2_0 := c_at HS.out 2 rfl 0 rfl; have c2_1 := c_at HS.out 2 rfl 1 rfl; have c2_2 := c_at HS.out 2 rfl 2 rfl; have c2_3 := c_at HS.out 2 rfl 3 rfl; have ltc2 := blk_lt (sl_blk HS.out 2 rfl); have fzc2_0 := f_at HS.out 2 rfl 0; have fzc2_1 := f_at HS.out 2 rfl 1; have fzc2_2 := f_at HS.out 2 rfl 2; have fzc2_3 := f_at HS.out 2 rfl 3)
    | (go_at_call 27; refine (Empty4_c (by repeat (with_reducible first | exact HS.out | apply sl_drewN | apply sl_drew | apply sl_box)) b0 b1 b2 b3).mono ?_; rintro e w1 ⟨rfl, hs⟩; (try simp only [World.size_alloc] at hs); replace HS := Aside0.mk hs; clear hs; have c0_0 := c_at HS.out 0 rfl 0 rfl; have c0_1 := c_at HS.out 0 rfl 1 rfl; have c0_2 := c_at HS.out 0 rfl 2 rfl; have c0_3 := c_at HS.out 0 rfl 3 rfl; have c0_4 := c_at HS.out 0 rfl 4 rfl; have c0_5 := c_at HS.out 0 rfl 5 rfl; have c0_6 := c_at HS.out 0 rfl 6 rfl; have c0_7 := c_at HS.out 0 rfl 7 rfl; have c0_8 := c_at HS.out 0 rfl 8 rfl; have c0_9 := c_at HS.out 0 rfl 9 rfl; have c0_10 := c_at HS.out 0 rfl 10 rfl; have ltc0 := blk_lt (sl_blk HS.out 0 rfl); have c1_0 := c_at HS.out 1 rfl 0 rfl; have c1_1 := c_at HS.out 1 rfl 1 rfl; have c1_2 := c_at HS.out 1 rfl 2 rfl; have c1_3 := c_at HS.out 1 rfl 3 rfl; have ltc1 := blk_lt (sl_blk HS.out 1 rfl); have c2_0 := c_at HS.out 2 rfl 0 rfl; have c2_1 := c_at HS.out 2 rfl 1 rfl; have c2_2 := c_at HS.out 2 rfl 2 rfl; have c2_3 := c_at HS.out 2 rfl 3 rfl; have ltc2 := blk_lt (sl_blk HS.out 2 rfl); have fzc2_0 := f_at HS.out 2 rfl 0; have fzc2_1 := f_at HS.out 2 rfl 1; have fzc2_2 := f_at HS.out 2 rfl 2; have fzc2_3 := f_at HS.out 2 rfl 3))
  have hfin := sl_put (sl_put (sl_put (sl_put HS.out 2 rfl 0 (Value.int .i64 0)) 2 rfl 1 (Value.int .i64 0)) 2 rfl 2 (Value.int .i64 0)) 2 rfl 3 (Value.int .i64 0)
  refine bodyPost_ret (results_ct rfl _ _ (w.heap.size + 1 + 1) 23 #[Value.int .i64 0, Value.int .i64 0, Value.int .i64 0, Value.int .i64 0] (0, 0) _ (by rfl) (by exact sl_blk hfin 2 rfl) (by exact Tryd.underlying23) (by rfl) (by kernel_rfl)) rfl ?_
  exact ⟨rfl, sl_below H.out (sl_below0 hfin)⟩
set_option maxHeartbeats 4000000 in
set_option maxRecDepth 100000 in
theorem ConR_empty (h : SL w0 w L) (p : Pos) (b0 b1 b2 b3 : Int) (hc : chk p = 0) (hb : okrB b0 b1 b2 b3 = false) : Calls Tryd.prog 19 #[.agg #[.int .i64 p.w, .int .i64 p.h, .int .i64 p.x0, .int .i64 p.y0, .int .i64 p.x1, .int .i64 p.y1, .int .i64 p.ae, .int .i64 p.gr, .int .i64 p.ad, .int .i64 p.ox, .int .i64 p.oy], .agg #[.int .i64 b0, .int .i64 b1, .int .i64 b2, .int .i64 b3]] w fun e w' => e = .returned (.tuple #[.agg #[.int .i64 0, .int .i64 0, .int .i64 0, .int .i64 0], .int .i64 6]) ∧ SL w0 w' L := by
  have HC := Aside0.mk (show ∀ {w' : World} {M : List Res}, SL w w' M → Calls Tryd.prog 12 #[.agg #[.int .i64 p.w, .int .i64 p.h, .int .i64 p.x0, .int .i64 p.y0, .int .i64 p.x1, .int .i64 p.y1, .int .i64 p.ae, .int .i64 p.gr, .int .i64 p.ad, .int .i64 p.ox, .int .i64 p.oy]] w' fun e w'' => e = .returned (.int .i64 0) ∧ SL w w'' M from fun hs => hc ▸ CheckR_c hs p)
  obtain ⟨pw, ph, x0, y0, x1, y1, ae, gr, ad, ox, oy⟩ := p
  have HS := Aside0.mk (sl_start w)
  have H := Aside0.mk h
  clear h hc
  cases hv : okv b0 b1 b2 b3
  · go_enter Tryd.func19, Tryd.ntmps19
    go_wp2_with (first
    | (go_at_call 12; refine (HC.out (by repeat (with_reducible first | exact HS.out | apply sl_drewN | apply sl_drew | apply sl_box))).mono ?_; rintro e w1 ⟨rfl, hs⟩; (try simp only [World.size_alloc] at hs); replace HS := Aside0.mk hs; clear hs; have c0_0 := c_at HS.out 0 rfl 0 rfl; have c0_1 := c_at HS.out 0 rfl 1 rfl; have c0_2 := c_at HS.out 0 rfl 2 rfl; have c0_3 := c_at HS.out 0 rfl 3 rfl; have c0_4 := c_at HS.out 0 rfl 4 rfl; have c0_5 := c_at HS.out 0 rfl 5 rfl; have c0_6 := c_at HS.out 0 rfl 6 rfl; have c0_7 := c_at HS.out 0 rfl 7 rfl; have c0_8 := c_at HS.out 0 rfl 8 rfl; have c0_9 := c_at HS.out 0 rfl 9 rfl; have c0_10 := c_at HS.out 0 rfl 10 rfl; have ltc0 := blk_lt (sl_blk HS.out 0 rfl); have c1_0 := c_at HS.out 1 rfl 0 rfl; have c1_1 := c_at HS.out 1 rfl 1 rfl; have c1_2 := c_at HS.out 1 rfl 2 rfl; have c1_3 := c_at HS.out 1 rfl 3 rfl; have ltc1 := blk_lt (sl_blk HS.out 1 rfl); have c2_0 := c_at HS.out 2 rfl 0 rfl; have c2_1 := c_at HS.out 2 rfl 1 rfl; have c2_2 := c_at HS.out 2 rfl 2 rfl; have c2_3 := c_at HS.out 2 rfl 3 rfl; have ltc2 := blk_lt (sl_blk HS.out 2 rfl); have fzc2_0 := f_at HS.out 2 rfl 0; have fzc2_1 := f_at HS.out 2 rfl 1; have fzc2_2 := f_at HS.out 2 rfl 2; have fzc2_3 := f_at HS.out 2 rfl 3)
    | (go_at_call 26; refine (Valid4_c (by repeat (with_reducible first | exact HS.out | apply sl_drewN | apply sl_drew | apply sl_box)) b0 b1 b2 b3).mono ?_; rintro e w1 ⟨rfl, hs⟩; (try simp only [World.size_alloc] at hs); replace HS := Aside0.mk hs; clear hs; have c0_0 := c_at HS.out 0 rfl 0 rfl; have c0_1 := c_at HS.out 0 rfl 1 rfl; have c0_2 := c_at HS.out 0 rfl 2 rfl; have c0_3 := c_at HS.out 0 rfl 3 rfl; have c0_4 := c_at HS.out 0 rfl 4 rfl; have c0_5 := c_at HS.out 0 rfl 5 rfl; have c0_6 := c_at HS.out 0 rfl 6 rfl; have c0_7 := c_at HS.out 0 rfl 7 rfl; have c0_8 := c_at HS.out 0 rfl 8 rfl; have c0_9 := c_at HS.out 0 rfl 9 rfl; have c0_10 := c_at HS.out 0 rfl 10 rfl; have ltc0 := blk_lt (sl_blk HS.out 0 rfl); have c1_0 := c_at HS.out 1 rfl 0 rfl; have c1_1 := c_at HS.out 1 rfl 1 rfl; have c1_2 := c_at HS.out 1 rfl 2 rfl; have c1_3 := c_at HS.out 1 rfl 3 rfl; have ltc1 := blk_lt (sl_blk HS.out 1 rfl); have c2_0 := c_at HS.out 2 rfl 0 rfl; have c2_1 := c_at HS.out 2 rfl 1 rfl; have c2_2 := c_at HS.out 2 rfl 2 rfl; have c2_3 := c_at HS.out 2 rfl 3 rfl; have ltc2 := blk_lt (sl_blk HS.out 2 rfl); have fzc2_0 := f_at HS.out 2 rfl 0; have fzc2_1 := f_at HS.out 2 rfl 1; have fzc2_2 := f_at HS.out 2 rfl 2; have fzc2_3 := f_at HS.out 2 rfl 3)
    | (go_at_call 27; refine (Empty4_c (by repeat (with_reducible first | exact HS.out | apply sl_drewN | apply sl_drew | apply sl_box)) b0 b1 b2 b3).mono ?_; rintro e w1 ⟨rfl, hs⟩; (try simp only [World.size_alloc] at hs); replace HS := Aside0.mk hs; clear hs; have c0_0 := c_at HS.out 0 rfl 0 rfl; have c0_1 := c_at HS.out 0 rfl 1 rfl; have c0_2 := c_at HS.out 0 rfl 2 rfl; have c0_3 := c_at HS.out 0 rfl 3 rfl; have c0_4 := c_at HS.out 0 rfl 4 rfl; have c0_5 := c_at HS.out 0 rfl 5 rfl; have c0_6 := c_at HS.out 0 rfl 6 rfl; have c0_7 := c_at HS.out 0 rfl 7 rfl; have c0_8 := c_at HS.out 0 rfl 8 rfl; have c0_9 := c_at HS.out 0 rfl 9 rfl; have c0_10 := c_at HS.out 0 rfl 10 rfl; have ltc0 := blk_lt (sl_blk HS.out 0 rfl); have c1_0 := c_at HS.out 1 rfl 0 rfl; have c1_1 := c_at HS.out 1 rfl 1 rfl; have c1_2 := c_at HS.out 1 rfl 2 rfl; have c1_3 := c_at HS.out 1 rfl 3 rfl; have ltc1 := blk_lt (sl_blk HS.out 1 rfl); have c2_0 := c_at HS.out 2 rfl 0 rfl; have c2_1 := c_at HS.out 2 rfl 1 rfl; have c2_2 := c_at HS.out 2 rfl 2 rfl; have c2_3 := c_at HS.out 2 rfl 3 rfl; have ltc2 := blk_lt (sl_blk HS.out 2 rfl); have fzc2_0 := f_at HS.out 2 rfl 0; have fzc2_1 := f_at HS.out 2 rfl 1; have fzc2_2 := f_at HS.out 2 rfl 2; have fzc2_3 := f_at HS.out 2 rfl 3))
    have hfin := sl_put (sl_put (sl_put (sl_put HS.out 2 rfl 0 (Value.int .i64 0)) 2 rfl 1 (Value.int .i64 0)) 2 rfl 2 (Value.int .i64 0)) 2 rfl 3 (Value.int .i64 0)
    refine bodyPost_ret (results_ct rfl _ _ (w.heap.size + 1 + 1) 23 #[Value.int .i64 0, Value.int .i64 0, Value.int .i64 0, Value.int .i64 0] (0, 0) _ (by rfl) (by exact sl_blk hfin 2 rfl) (by exact Tryd.underlying23) (by rfl) (by kernel_rfl)) rfl ?_
    exact ⟨rfl, sl_below H.out (sl_below0 hfin)⟩
  · go_enter Tryd.func19, Tryd.ntmps19
    go_wp2_with (first
    | (go_at_call 12; refine (HC.out (by repeat (with_reducible first | exact HS.out | apply sl_drewN | apply sl_drew | apply sl_box))).mono ?_; rintro e w1 ⟨rfl, hs⟩; (try simp only [World.size_alloc] at hs); replace HS := Aside0.mk hs; clear hs; have c0_0 := c_at HS.out 0 rfl 0 rfl; have c0_1 := c_at HS.out 0 rfl 1 rfl; have c0_2 := c_at HS.out 0 rfl 2 rfl; have c0_3 := c_at HS.out 0 rfl 3 rfl; have c0_4 := c_at HS.out 0 rfl 4 rfl; have c0_5 := c_at HS.out 0 rfl 5 rfl; have c0_6 := c_at HS.out 0 rfl 6 rfl; have c0_7 := c_at HS.out 0 rfl 7 rfl; have c0_8 := c_at HS.out 0 rfl 8 rfl; have c0_9 := c_at HS.out 0 rfl 9 rfl; have c0_10 := c_at HS.out 0 rfl 10 rfl; have ltc0 := blk_lt (sl_blk HS.out 0 rfl); have c1_0 := c_at HS.out 1 rfl 0 rfl; have c1_1 := c_at HS.out 1 rfl 1 rfl; have c1_2 := c_at HS.out 1 rfl 2 rfl; have c1_3 := c_at HS.out 1 rfl 3 rfl; have ltc1 := blk_lt (sl_blk HS.out 1 rfl); have c2_0 := c_at HS.out 2 rfl 0 rfl; have c2_1 := c_at HS.out 2 rfl 1 rfl; have c2_2 := c_at HS.out 2 rfl 2 rfl; have c2_3 := c_at HS.out 2 rfl 3 rfl; have ltc2 := blk_lt (sl_blk HS.out 2 rfl); have fzc2_0 := f_at HS.out 2 rfl 0; have fzc2_1 := f_at HS.out 2 rfl 1; have fzc2_2 := f_at HS.out 2 rfl 2; have fzc2_3 := f_at HS.out 2 rfl 3)
    | (go_at_call 26; refine (Valid4_c (by repeat (with_reducible first | exact HS.out | apply sl_drewN | apply sl_drew | apply sl_box)) b0 b1 b2 b3).mono ?_; rintro e w1 ⟨rfl, hs⟩; (try simp only [World.size_alloc] at hs); replace HS := Aside0.mk hs; clear hs; have c0_0 := c_at HS.out 0 rfl 0 rfl; have c0_1 := c_at HS.out 0 rfl 1 rfl; have c0_2 := c_at HS.out 0 rfl 2 rfl; have c0_3 := c_at HS.out 0 rfl 3 rfl; have c0_4 := c_at HS.out 0 rfl 4 rfl; have c0_5 := c_at HS.out 0 rfl 5 rfl; have c0_6 := c_at HS.out 0 rfl 6 rfl; have c0_7 := c_at HS.out 0 rfl 7 rfl; have c0_8 := c_at HS.out 0 rfl 8 rfl; have c0_9 := c_at HS.out 0 rfl 9 rfl; have c0_10 := c_at HS.out 0 rfl 10 rfl; have ltc0 := blk_lt (sl_blk HS.out 0 rfl); have c1_0 := c_at HS.out 1 rfl 0 rfl; have c1_1 := c_at HS.out 1 rfl 1 rfl; have c1_2 := c_at HS.out 1 rfl 2 rfl; have c1_3 := c_at HS.out 1 rfl 3 rfl; have ltc1 := blk_lt (sl_blk HS.out 1 rfl); have c2_0 := c_at HS.out 2 rfl 0 rfl; have c2_1 := c_at HS.out 2 rfl 1 rfl; have c2_2 := c_at HS.out 2 rfl 2 rfl; have c2_3 := c_at HS.out 2 rfl 3 rfl; have ltc2 := blk_lt (sl_blk HS.out 2 rfl); have fzc2_0 := f_at HS.out 2 rfl 0; have fzc2_1 := f_at HS.out 2 rfl 1; have fzc2_2 := f_at HS.out 2 rfl 2; have fzc2_3 := f_at HS.out 2 rfl 3)
    | (go_at_call 27; refine (Empty4_c (by repeat (with_reducible first | exact HS.out | apply sl_drewN | apply sl_drew | apply sl_box)) b0 b1 b2 b3).mono ?_; rintro e w1 ⟨rfl, hs⟩; (try simp only [World.size_alloc] at hs); replace HS := Aside0.mk hs; clear hs; have c0_0 := c_at HS.out 0 rfl 0 rfl; have c0_1 := c_at HS.out 0 rfl 1 rfl; have c0_2 := c_at HS.out 0 rfl 2 rfl; have c0_3 := c_at HS.out 0 rfl 3 rfl; have c0_4 := c_at HS.out 0 rfl 4 rfl; have c0_5 := c_at HS.out 0 rfl 5 rfl; have c0_6 := c_at HS.out 0 rfl 6 rfl; have c0_7 := c_at HS.out 0 rfl 7 rfl; have c0_8 := c_at HS.out 0 rfl 8 rfl; have c0_9 := c_at HS.out 0 rfl 9 rfl; have c0_10 := c_at HS.out 0 rfl 10 rfl; have ltc0 := blk_lt (sl_blk HS.out 0 rfl); have c1_0 := c_at HS.out 1 rfl 0 rfl; have c1_1 := c_at HS.out 1 rfl 1 rfl; have c1_2 := c_at HS.out 1 rfl 2 rfl; have c1_3 := c_at HS.out 1 rfl 3 rfl; have ltc1 := blk_lt (sl_blk HS.out 1 rfl); have c2_0 := c_at HS.out 2 rfl 0 rfl; have c2_1 := c_at HS.out 2 rfl 1 rfl; have c2_2 := c_at HS.out 2 rfl 2 rfl; have c2_3 := c_at HS.out 2 rfl 3 rfl; have ltc2 := blk_lt (sl_blk HS.out 2 rfl); have fzc2_0 := f_at HS.out 2 rfl 0; have fzc2_1 := f_at HS.out 2 rfl 1; have fzc2_2 := f_at HS.out 2 rfl 2; have fzc2_3 := f_at HS.out 2 rfl 3))
    have hfin := sl_put (sl_put (sl_put (sl_put HS.out 2 rfl 0 (Value.int .i64 0)) 2 rfl 1 (Value.int .i64 0)) 2 rfl 2 (Value.int .i64 0)) 2 rfl 3 (Value.int .i64 0)
    refine bodyPost_ret (results_ct rfl _ _ (w.heap.size + 1 + 1) 23 #[Value.int .i64 0, Value.int .i64 0, Value.int .i64 0, Value.int .i64 0] (0, 0) _ (by rfl) (by exact sl_blk hfin 2 rfl) (by exact Tryd.underlying23) (by rfl) (by kernel_rfl)) rfl ?_
    exact ⟨rfl, sl_below H.out (sl_below0 hfin)⟩
set_option maxHeartbeats 8000000 in
set_option maxRecDepth 100000 in
theorem ConR_yes (h : SL w0 w L) (p : Pos) (b0 b1 b2 b3 : Int) (hc : chk p = 0) (hb : okrB b0 b1 b2 b3 = true) : Calls Tryd.prog 19 #[.agg #[.int .i64 p.w, .int .i64 p.h, .int .i64 p.x0, .int .i64 p.y0, .int .i64 p.x1, .int .i64 p.y1, .int .i64 p.ae, .int .i64 p.gr, .int .i64 p.ad, .int .i64 p.ox, .int .i64 p.oy], .agg #[.int .i64 b0, .int .i64 b1, .int .i64 b2, .int .i64 b3]] w fun e w' => e = .returned (.tuple #[.agg #[.int .i64 (conX p b0 b2).1, .int .i64 (conY p b1 b3).1, .int .i64 (conX p b0 b2).2, .int .i64 (conY p b1 b3).2], .int .i64 0]) ∧ SL w0 w' L := by
  have B := sx_lt p hc
  obtain ⟨hw, hh, hr, hox, hoy, hae, hgr, had⟩ := chk_ok hc
  unfold okr at hr
  obtain ⟨tx, etx⟩ : ∃ t, sideV p.ae true = t := ⟨_, rfl⟩
  obtain ⟨ux, eux⟩ : ∃ t, sideV p.gr true = t := ⟨_, rfl⟩
  obtain ⟨ty, ety⟩ : ∃ t, sideV p.ae false = t := ⟨_, rfl⟩
  obtain ⟨uy, euy⟩ : ∃ t, sideV p.gr false = t := ⟨_, rfl⟩
  have stx : -1 ≤ tx ∧ tx ≤ 1 := etx ▸ side_lt p.ae true
  have sux : -1 ≤ ux ∧ ux ≤ 1 := eux ▸ side_lt p.gr true
  have sty : -1 ≤ ty ∧ ty ≤ 1 := ety ▸ side_lt p.ae false
  have suy : -1 ≤ uy ∧ uy ≤ 1 := euy ▸ side_lt p.gr false
  have HC := Aside0.mk (show ∀ {w' : World} {M : List Res}, SL w w' M → Calls Tryd.prog 12 #[.agg #[.int .i64 p.w, .int .i64 p.h, .int .i64 p.x0, .int .i64 p.y0, .int .i64 p.x1, .int .i64 p.y1, .int .i64 p.ae, .int .i64 p.gr, .int .i64 p.ad, .int .i64 p.ox, .int .i64 p.oy]] w' fun e w'' => e = .returned (.int .i64 0) ∧ SL w w'' M from fun hs => hc ▸ CheckR_c hs p)
  have hbr : okr b0 b1 b2 b3 := of_decide_eq_true hb
  unfold okr at hbr
  have hv : okv b0 b1 b2 b3 = true := ((okr_iff _ _ _ _).1 (of_decide_eq_true hb)).1
  have HSX := Aside0.mk (show ∀ {w' : World} {M : List Res}, SL w w' M → Calls Tryd.prog 28 #[.int .i64 p.ae, .bool true] w' fun e w'' => e = .returned (.int .i64 tx) ∧ SL w w'' M from fun hs => etx ▸ side_c hs p.ae true hae.1 hae.2)
  have HSU := Aside0.mk (show ∀ {w' : World} {M : List Res}, SL w w' M → Calls Tryd.prog 28 #[.int .i64 p.gr, .bool true] w' fun e w'' => e = .returned (.int .i64 ux) ∧ SL w w'' M from fun hs => eux ▸ side_c hs p.gr true hgr.1 hgr.2)
  have HSY := Aside0.mk (show ∀ {w' : World} {M : List Res}, SL w w' M → Calls Tryd.prog 28 #[.int .i64 p.ae, .bool false] w' fun e w'' => e = .returned (.int .i64 ty) ∧ SL w w'' M from fun hs => ety ▸ side_c hs p.ae false hae.1 hae.2)
  have HSV := Aside0.mk (show ∀ {w' : World} {M : List Res}, SL w w' M → Calls Tryd.prog 28 #[.int .i64 p.gr, .bool false] w' fun e w'' => e = .returned (.int .i64 uy) ∧ SL w w'' M from fun hs => euy ▸ side_c hs p.gr false hgr.1 hgr.2)
  obtain ⟨X1, eX1⟩ : ∃ t, (conX p b0 b2).1 = t := ⟨_, rfl⟩
  obtain ⟨X2, eX2⟩ : ∃ t, (conX p b0 b2).2 = t := ⟨_, rfl⟩
  obtain ⟨Y1, eY1⟩ : ∃ t, (conY p b1 b3).1 = t := ⟨_, rfl⟩
  obtain ⟨Y2, eY2⟩ : ∃ t, (conY p b1 b3).2 = t := ⟨_, rfl⟩
  obtain ⟨px, epx⟩ : ∃ t, plX p = t := ⟨_, rfl⟩
  obtain ⟨py, epy⟩ : ∃ t, plY p = t := ⟨_, rfl⟩
  obtain ⟨fx, efx⟩ : ∃ t, flX p = t := ⟨_, rfl⟩
  obtain ⟨fy, efy⟩ : ∃ t, flY p = t := ⟨_, rfl⟩
  have HSp := Aside0.mk (show ∀ {w' : World} {M : List Res}, SL w w' M → Calls Tryd.prog 31 #[.agg #[.int .i64 p.w, .int .i64 p.h, .int .i64 p.x0, .int .i64 p.y0, .int .i64 p.x1, .int .i64 p.y1, .int .i64 p.ae, .int .i64 p.gr, .int .i64 p.ad, .int .i64 p.ox, .int .i64 p.oy]] w' fun e w'' => e = .returned (.tuple #[.agg #[.int .i64 px, .int .i64 (px + p.w)], .agg #[.int .i64 py, .int .i64 (py + p.h)]]) ∧ SL w w'' M from fun hs => by
    rw [← epx, ← epy]
    exact spans_c hs p hc)
  have HPX := Aside0.mk (show ∀ {w' : World} {M : List Res}, SL w w' M → Calls Tryd.prog 35 #[.int .i64 p.x0, .int .i64 p.x1, .int .i64 p.w, .int .i64 (wrap64 (-tx)), .int .i64 (wrap64 (-ux)), .int .i64 (wrap64 (-p.ox))] w' fun e w'' => e = .returned (.agg #[.int .i64 fx, .int .i64 (fx + p.w)]) ∧ SL w w'' M from fun hs => by
    rw [← efx, ← etx, ← eux]
    have s1 := side_lt p.ae true
    have s2 := side_lt p.gr true
    rw [w64 (x := -sideV p.ae true) (by omega) (by omega), w64 (x := -sideV p.gr true) (by omega) (by omega), w64 (x := -p.ox) (by omega) (by omega)]
    exact placeR_c hs p.x0 p.x1 p.w (-sideV p.ae true) (-sideV p.gr true) (-p.ox) (by omega) (by omega) (by omega) (by omega) (by omega) (by omega) (by omega) (by omega) ⟨by omega, by omega⟩ ⟨by omega, by omega⟩)
  have HPY := Aside0.mk (show ∀ {w' : World} {M : List Res}, SL w w' M → Calls Tryd.prog 35 #[.int .i64 p.y0, .int .i64 p.y1, .int .i64 p.h, .int .i64 (wrap64 (-ty)), .int .i64 (wrap64 (-uy)), .int .i64 (wrap64 (-p.oy))] w' fun e w'' => e = .returned (.agg #[.int .i64 fy, .int .i64 (fy + p.h)]) ∧ SL w w'' M from fun hs => by
    rw [← efy, ← ety, ← euy]
    have s1 := side_lt p.ae false
    have s2 := side_lt p.gr false
    rw [w64 (x := -sideV p.ae false) (by omega) (by omega), w64 (x := -sideV p.gr false) (by omega) (by omega), w64 (x := -p.oy) (by omega) (by omega)]
    exact placeR_c hs p.y0 p.y1 p.h (-sideV p.ae false) (-sideV p.gr false) (-p.oy) (by omega) (by omega) (by omega) (by omega) (by omega) (by omega) (by omega) (by omega) ⟨by omega, by omega⟩ ⟨by omega, by omega⟩)
  obtain ⟨q1, eq1⟩ : ∃ q, bt_ p.ad 1 = q := ⟨_, rfl⟩
  have gq1 : (p.ad / 1 % 2 == 1) = q1 := by rw [← eq1]; rfl
  have gd1 : Int.tdiv p.ad 1 = p.ad / 1 := Int.tdiv_eq_ediv_of_nonneg (by omega)
  have gw1 : wrap64 (p.ad / 1) = p.ad / 1 := w64 (by omega) (by omega)
  have gm1 : Int.tmod (p.ad / 1) 2 = p.ad / 1 % 2 := Int.tmod_eq_emod_of_nonneg (by omega)
  obtain ⟨q2, eq2⟩ : ∃ q, bt_ p.ad 2 = q := ⟨_, rfl⟩
  have gq2 : (p.ad / 2 % 2 == 1) = q2 := by rw [← eq2]; rfl
  have gd2 : Int.tdiv p.ad 2 = p.ad / 2 := Int.tdiv_eq_ediv_of_nonneg (by omega)
  have gw2 : wrap64 (p.ad / 2) = p.ad / 2 := w64 (by omega) (by omega)
  have gm2 : Int.tmod (p.ad / 2) 2 = p.ad / 2 % 2 := Int.tmod_eq_emod_of_nonneg (by omega)
  obtain ⟨q4, eq4⟩ : ∃ q, bt_ p.ad 4 = q := ⟨_, rfl⟩
  have gq4 : (p.ad / 4 % 2 == 1) = q4 := by rw [← eq4]; rfl
  have gd4 : Int.tdiv p.ad 4 = p.ad / 4 := Int.tdiv_eq_ediv_of_nonneg (by omega)
  have gw4 : wrap64 (p.ad / 4) = p.ad / 4 := w64 (by omega) (by omega)
  have gm4 : Int.tmod (p.ad / 4) 2 = p.ad / 4 % 2 := Int.tmod_eq_emod_of_nonneg (by omega)
  obtain ⟨q8, eq8⟩ : ∃ q, bt_ p.ad 8 = q := ⟨_, rfl⟩
  have gq8 : (p.ad / 8 % 2 == 1) = q8 := by rw [← eq8]; rfl
  have gd8 : Int.tdiv p.ad 8 = p.ad / 8 := Int.tdiv_eq_ediv_of_nonneg (by omega)
  have gw8 : wrap64 (p.ad / 8) = p.ad / 8 := w64 (by omega) (by omega)
  have gm8 : Int.tmod (p.ad / 8) 2 = p.ad / 8 % 2 := Int.tmod_eq_emod_of_nonneg (by omega)
  obtain ⟨q16, eq16⟩ : ∃ q, bt_ p.ad 16 = q := ⟨_, rfl⟩
  have gq16 : (p.ad / 16 % 2 == 1) = q16 := by rw [← eq16]; rfl
  have gd16 : Int.tdiv p.ad 16 = p.ad / 16 := Int.tdiv_eq_ediv_of_nonneg (by omega)
  have gw16 : wrap64 (p.ad / 16) = p.ad / 16 := w64 (by omega) (by omega)
  have gm16 : Int.tmod (p.ad / 16) 2 = p.ad / 16 % 2 := Int.tmod_eq_emod_of_nonneg (by omega)
  obtain ⟨q32, eq32⟩ : ∃ q, bt_ p.ad 32 = q := ⟨_, rfl⟩
  have gq32 : (p.ad / 32 % 2 == 1) = q32 := by rw [← eq32]; rfl
  have gd32 : Int.tdiv p.ad 32 = p.ad / 32 := Int.tdiv_eq_ediv_of_nonneg (by omega)
  have gw32 : wrap64 (p.ad / 32) = p.ad / 32 := w64 (by omega) (by omega)
  have gm32 : Int.tmod (p.ad / 32) 2 = p.ad / 32 % 2 := Int.tmod_eq_emod_of_nonneg (by omega)
  have gm0 : Int.tmod p.ad 2 = p.ad % 2 := Int.tmod_eq_emod_of_nonneg (by omega)
  have gq0 : (p.ad % 2 == 1) = q1 := by rw [← gq1, Int.ediv_one]
  rw [Int.ediv_one] at gd1 gw1 gm1 gq1
  clear gd1 gw1 gm1 gq1
  have HRX := Aside0.mk (show ∀ {w' : World} {M : List Res}, SL w w' M → Calls Tryd.prog 36 #[.agg #[.int .i64 px, .int .i64 (px + p.w)], .agg #[.int .i64 fx, .int .i64 (fx + p.w)], .agg #[.int .i64 b0, .int .i64 b2], .bool q4, .bool q1, .bool q16] w' fun e w'' => e = .returned (.agg #[.int .i64 X1, .int .i64 X2]) ∧ SL w w'' M from fun hs => by
    rw [← eX1, ← eX2, ← epx, ← efx, ← eq4, ← eq1, ← eq16]
    exact adjustR_c hs p.w b0 b2 (plX p) (flX p) (bt_ p.ad 4) (bt_ p.ad 1) (bt_ p.ad 16) (by omega) (by omega) (by omega) (by omega) (by omega) (by omega) (by omega))
  have HRY := Aside0.mk (show ∀ {w' : World} {M : List Res}, SL w w' M → Calls Tryd.prog 36 #[.agg #[.int .i64 py, .int .i64 (py + p.h)], .agg #[.int .i64 fy, .int .i64 (fy + p.h)], .agg #[.int .i64 b1, .int .i64 b3], .bool q8, .bool q2, .bool q32] w' fun e w'' => e = .returned (.agg #[.int .i64 Y1, .int .i64 Y2]) ∧ SL w w'' M from fun hs => by
    rw [← eY1, ← eY2, ← epy, ← efy, ← eq8, ← eq2, ← eq32]
    exact adjustR_c hs p.h b1 b3 (plY p) (flY p) (bt_ p.ad 8) (bt_ p.ad 2) (bt_ p.ad 32) (by omega) (by omega) (by omega) (by omega) (by omega) (by omega) (by omega))
  rw [eX1, eX2, eY1, eY2]
  clear etx eux ety euy eX1 eX2 eY1 eY2 epx epy efx efy eq1 eq2 eq4 eq8 eq16 eq32
  obtain ⟨pw, ph, x0, y0, x1, y1, ae, gr, ad, ox, oy⟩ := p
  have HS := Aside0.mk (sl_start w)
  have H := Aside0.mk h
  clear h hc
  go_enter Tryd.func19, Tryd.ntmps19
  go_upto_region 7 with (first
    | (go_at_call 12; refine (HC.out (by repeat (with_reducible first | exact HS.out | apply sl_drewN | apply sl_drew | apply sl_box))).mono ?_; rintro e w1 ⟨rfl, hs⟩; (try simp only [World.size_alloc] at hs); replace HS := Aside0.mk hs; clear hs; have c0_0 := c_at HS.out 0 rfl 0 rfl; have c0_1 := c_at HS.out 0 rfl 1 rfl; have c0_2 := c_at HS.out 0 rfl 2 rfl; have c0_3 := c_at HS.out 0 rfl 3 rfl; have c0_4 := c_at HS.out 0 rfl 4 rfl; have c0_5 := c_at HS.out 0 rfl 5 rfl; have c0_6 := c_at HS.out 0 rfl 6 rfl; have c0_7 := c_at HS.out 0 rfl 7 rfl; have c0_8 := c_at HS.out 0 rfl 8 rfl; have c0_9 := c_at HS.out 0 rfl 9 rfl; have c0_10 := c_at HS.out 0 rfl 10 rfl; have ltc0 := blk_lt (sl_blk HS.out 0 rfl); have c1_0 := c_at HS.out 1 rfl 0 rfl; have c1_1 := c_at HS.out 1 rfl 1 rfl; have c1_2 := c_at HS.out 1 rfl 2 rfl; have c1_3 := c_at HS.out 1 rfl 3 rfl; have ltc1 := blk_lt (sl_blk HS.out 1 rfl); have c2_0 := c_at HS.out 2 rfl 0 rfl; have c2_1 := c_at HS.out 2 rfl 1 rfl; have c2_2 := c_at HS.out 2 rfl 2 rfl; have c2_3 := c_at HS.out 2 rfl 3 rfl; have ltc2 := blk_lt (sl_blk HS.out 2 rfl); have fzc2_0 := f_at HS.out 2 rfl 0; have fzc2_1 := f_at HS.out 2 rfl 1; have fzc2_2 := f_at HS.out 2 rfl 2; have fzc2_3 := f_at HS.out 2 rfl 3)
    | (go_at_call 26; refine (Valid4_c (by repeat (with_reducible first | exact HS.out | apply sl_drewN | apply sl_drew | apply sl_box)) b0 b1 b2 b3).mono ?_; rintro e w1 ⟨rfl, hs⟩; (try simp only [World.size_alloc] at hs); replace HS := Aside0.mk hs; clear hs; have c0_0 := c_at HS.out 0 rfl 0 rfl; have c0_1 := c_at HS.out 0 rfl 1 rfl; have c0_2 := c_at HS.out 0 rfl 2 rfl; have c0_3 := c_at HS.out 0 rfl 3 rfl; have c0_4 := c_at HS.out 0 rfl 4 rfl; have c0_5 := c_at HS.out 0 rfl 5 rfl; have c0_6 := c_at HS.out 0 rfl 6 rfl; have c0_7 := c_at HS.out 0 rfl 7 rfl; have c0_8 := c_at HS.out 0 rfl 8 rfl; have c0_9 := c_at HS.out 0 rfl 9 rfl; have c0_10 := c_at HS.out 0 rfl 10 rfl; have ltc0 := blk_lt (sl_blk HS.out 0 rfl); have c1_0 := c_at HS.out 1 rfl 0 rfl; have c1_1 := c_at HS.out 1 rfl 1 rfl; have c1_2 := c_at HS.out 1 rfl 2 rfl; have c1_3 := c_at HS.out 1 rfl 3 rfl; have ltc1 := blk_lt (sl_blk HS.out 1 rfl); have c2_0 := c_at HS.out 2 rfl 0 rfl; have c2_1 := c_at HS.out 2 rfl 1 rfl; have c2_2 := c_at HS.out 2 rfl 2 rfl; have c2_3 := c_at HS.out 2 rfl 3 rfl; have ltc2 := blk_lt (sl_blk HS.out 2 rfl); have fzc2_0 := f_at HS.out 2 rfl 0; have fzc2_1 := f_at HS.out 2 rfl 1; have fzc2_2 := f_at HS.out 2 rfl 2; have fzc2_3 := f_at HS.out 2 rfl 3)
    | (go_at_call 27; refine (Empty4_c (by repeat (with_reducible first | exact HS.out | apply sl_drewN | apply sl_drew | apply sl_box)) b0 b1 b2 b3).mono ?_; rintro e w1 ⟨rfl, hs⟩; (try simp only [World.size_alloc] at hs); replace HS := Aside0.mk hs; clear hs; have c0_0 := c_at HS.out 0 rfl 0 rfl; have c0_1 := c_at HS.out 0 rfl 1 rfl; have c0_2 := c_at HS.out 0 rfl 2 rfl; have c0_3 := c_at HS.out 0 rfl 3 rfl; have c0_4 := c_at HS.out 0 rfl 4 rfl; have c0_5 := c_at HS.out 0 rfl 5 rfl; have c0_6 := c_at HS.out 0 rfl 6 rfl; have c0_7 := c_at HS.out 0 rfl 7 rfl; have c0_8 := c_at HS.out 0 rfl 8 rfl; have c0_9 := c_at HS.out 0 rfl 9 rfl; have c0_10 := c_at HS.out 0 rfl 10 rfl; have ltc0 := blk_lt (sl_blk HS.out 0 rfl); have c1_0 := c_at HS.out 1 rfl 0 rfl; have c1_1 := c_at HS.out 1 rfl 1 rfl; have c1_2 := c_at HS.out 1 rfl 2 rfl; have c1_3 := c_at HS.out 1 rfl 3 rfl; have ltc1 := blk_lt (sl_blk HS.out 1 rfl); have c2_0 := c_at HS.out 2 rfl 0 rfl; have c2_1 := c_at HS.out 2 rfl 1 rfl; have c2_2 := c_at HS.out 2 rfl 2 rfl; have c2_3 := c_at HS.out 2 rfl 3 rfl; have ltc2 := blk_lt (sl_blk HS.out 2 rfl); have fzc2_0 := f_at HS.out 2 rfl 0; have fzc2_1 := f_at HS.out 2 rfl 1; have fzc2_2 := f_at HS.out 2 rfl 2; have fzc2_3 := f_at HS.out 2 rfl 3)
    | (go_at_call 31; refine (HSp.out (by repeat (with_reducible first | exact HS.out | apply sl_drewN | apply sl_drew | apply sl_box))).mono ?_; rintro e w1 ⟨rfl, hs⟩; (try simp only [World.size_alloc] at hs); replace HS := Aside0.mk hs; clear hs; have c0_0 := c_at HS.out 0 rfl 0 rfl; have c0_1 := c_at HS.out 0 rfl 1 rfl; have c0_2 := c_at HS.out 0 rfl 2 rfl; have c0_3 := c_at HS.out 0 rfl 3 rfl; have c0_4 := c_at HS.out 0 rfl 4 rfl; have c0_5 := c_at HS.out 0 rfl 5 rfl; have c0_6 := c_at HS.out 0 rfl 6 rfl; have c0_7 := c_at HS.out 0 rfl 7 rfl; have c0_8 := c_at HS.out 0 rfl 8 rfl; have c0_9 := c_at HS.out 0 rfl 9 rfl; have c0_10 := c_at HS.out 0 rfl 10 rfl; have ltc0 := blk_lt (sl_blk HS.out 0 rfl); have c1_0 := c_at HS.out 1 rfl 0 rfl; have c1_1 := c_at HS.out 1 rfl 1 rfl; have c1_2 := c_at HS.out 1 rfl 2 rfl; have c1_3 := c_at HS.out 1 rfl 3 rfl; have ltc1 := blk_lt (sl_blk HS.out 1 rfl); have c2_0 := c_at HS.out 2 rfl 0 rfl; have c2_1 := c_at HS.out 2 rfl 1 rfl; have c2_2 := c_at HS.out 2 rfl 2 rfl; have c2_3 := c_at HS.out 2 rfl 3 rfl; have ltc2 := blk_lt (sl_blk HS.out 2 rfl); have fzc2_0 := f_at HS.out 2 rfl 0; have fzc2_1 := f_at HS.out 2 rfl 1; have fzc2_2 := f_at HS.out 2 rfl 2; have fzc2_3 := f_at HS.out 2 rfl 3))
  refine world_gen (F := fun w_ => Code.wp Tryd.prog _ _ _ w_) (fun w_ => SL w w_ [cellsR w.heap.size 27 #[.int .i64 pw, .int .i64 ph, .int .i64 x0, .int .i64 y0, .int .i64 x1, .int .i64 y1, .int .i64 ae, .int .i64 gr, .int .i64 ad, .int .i64 ox, .int .i64 oy], cellsR (w.heap.size + 1) 23 #[.int .i64 b0, .int .i64 b1, .int .i64 b2, .int .i64 b3], cellsR (w.heap.size + 1 + 1) 23 #[.int .i64 0, .int .i64 0, .int .i64 0, .int .i64 0], cellsR w1.heap.size 52 #[.int .i64 px, .int .i64 (px + pw)], cellsR (w1.heap.size + 1) 52 #[.int .i64 py, .int .i64 (py + ph)]]) ?hP ?_
  case hP =>
    have hs := sl_box (sl_box HS.out #[.int .i64 px, .int .i64 (px + pw)] 52) #[.int .i64 py, .int .i64 (py + ph)] 52
    (try simp only [World.size_alloc] at hs)
    exact hs
  intro w2 hs
  generalize w1.heap.size + 1 = n2 at hs ⊢
  generalize w1.heap.size = n1 at hs ⊢
  replace HS := Aside0.mk hs
  clear hs
  clear c0_0 c0_1 c0_2 c0_3 c0_4 c0_5 c0_6 c0_7 c0_8 c0_9 c0_10 c1_0 c1_1 c1_2 c1_3 c2_0 c2_1 c2_2 c2_3 ltc0 ltc1 ltc2 fzc2_0 fzc2_1 fzc2_2 fzc2_3
  refine start_ (n := 23) (S := fun w' => w'.cell? ⟨w.heap.size, 0, none⟩ = some (.int .i64 pw) ∧ w'.cell? ⟨w.heap.size, 2, none⟩ = some (.int .i64 x0) ∧ w'.cell? ⟨w.heap.size, 4, none⟩ = some (.int .i64 x1) ∧ w'.cell? ⟨w.heap.size, 6, none⟩ = some (.int .i64 ae) ∧ w'.cell? ⟨w.heap.size, 7, none⟩ = some (.int .i64 gr) ∧ w'.cell? ⟨w.heap.size, 9, none⟩ = some (.int .i64 ox)) (ds := [22]) #[false, false, false, false, false, false, false, false, false, false, false, false, false, false, false, false, false, false, false, false, false, false, false] (by kernel_rfl) rfl rfl ⟨(blk_cell (sl_blk (sl_drew HS.out) 0 rfl) 0).trans (show _ = some (Value.int .i64 pw) from rfl), (blk_cell (sl_blk (sl_drew HS.out) 0 rfl) 2).trans (show _ = some (Value.int .i64 x0) from rfl), (blk_cell (sl_blk (sl_drew HS.out) 0 rfl) 4).trans (show _ = some (Value.int .i64 x1) from rfl), (blk_cell (sl_blk (sl_drew HS.out) 0 rfl) 6).trans (show _ = some (Value.int .i64 ae) from rfl), (blk_cell (sl_blk (sl_drew HS.out) 0 rfl) 7).trans (show _ = some (Value.int .i64 gr) from rfl), (blk_cell (sl_blk (sl_drew HS.out) 0 rfl) 9).trans (show _ = some (Value.int .i64 ox) from rfl)⟩ (fun hHeld => ?_)
  refine pure_ (i := 0) (N := some 31) (v := ?_) (a' := ?_) #[true, false, false, false, false, false, false, false, false, false, false, false, false, false, false, false, false, false, false, false, false, false, false] rfl rfl (by kernel_rfl) (fun _ _ _ h => h) (Or.inl ⟨by rfl, ?_⟩) ?_ ?_
  rotate_left
  · intro w'
    go_simp
    with_reducible rfl
  rotate_left
  · simp only [Act.put, List.setIfInBounds_toArray, List.set_cons_zero, List.set_cons_succ, i64_w, i32_w, IntKind.wrap_u32, IntKind.wrap_u8, IntKind.wrap_u16]
    rfl
  refine pure_ (i := 1) (N := some 32) (v := ?_) (a' := ?_) #[true, true, false, false, false, false, false, false, false, false, false, false, false, false, false, false, false, false, false, false, false, false, false] rfl rfl (by kernel_rfl) (fun _ _ _ h => h) (Or.inl ⟨by rfl, ?_⟩) ?_ ?_
  rotate_left
  · intro w'
    go_simp
    with_reducible rfl
  rotate_left
  · simp only [Act.put, List.setIfInBounds_toArray, List.set_cons_zero, List.set_cons_succ, i64_w, i32_w, IntKind.wrap_u32, IntKind.wrap_u8, IntKind.wrap_u16]
    rfl
  refine pure_ (i := 3) (N := some 34) (v := ?_) (a' := ?_) #[true, true, false, true, false, false, false, false, false, false, false, false, false, false, false, false, false, false, false, false, false, false, false] rfl rfl (by kernel_rfl) (fun _ _ _ h => h) (Or.inl ⟨by rfl, ?_⟩) ?_ ?_
  rotate_left
  · intro w'
    go_simp
    with_reducible rfl
  rotate_left
  · simp only [Act.put, List.setIfInBounds_toArray, List.set_cons_zero, List.set_cons_succ, i64_w, i32_w, IntKind.wrap_u32, IntKind.wrap_u8, IntKind.wrap_u16]
    rfl
  refine pure_ (i := 4) (N := some 35) (v := ?_) (a' := ?_) #[true, true, false, true, true, false, false, false, false, false, false, false, false, false, false, false, false, false, false, false, false, false, false] rfl rfl (by kernel_rfl) (fun _ _ _ h => h) (Or.inl ⟨by rfl, ?_⟩) ?_ ?_
  rotate_left
  · intro w'
    go_simp
    with_reducible rfl
  rotate_left
  · simp only [Act.put, List.setIfInBounds_toArray, List.set_cons_zero, List.set_cons_succ, i64_w, i32_w, IntKind.wrap_u32, IntKind.wrap_u8, IntKind.wrap_u16]
    rfl
  refine pure_ (i := 6) (N := some 37) (v := ?_) (a' := ?_) #[true, true, false, true, true, false, true, false, false, false, false, false, false, false, false, false, false, false, false, false, false, false, false] rfl rfl (by kernel_rfl) (fun _ _ _ h => h) (Or.inl ⟨by rfl, ?_⟩) ?_ ?_
  rotate_left
  · intro w'
    go_simp
    with_reducible rfl
  rotate_left
  · simp only [Act.put, List.setIfInBounds_toArray, List.set_cons_zero, List.set_cons_succ, i64_w, i32_w, IntKind.wrap_u32, IntKind.wrap_u8, IntKind.wrap_u16]
    rfl
  refine pure_ (i := 8) (N := some 39) (v := ?_) (a' := ?_) #[true, true, false, true, true, false, true, false, true, false, false, false, false, false, false, false, false, false, false, false, false, false, false] rfl rfl (by kernel_rfl) (fun _ _ _ h => h) (Or.inl ⟨by rfl, ?_⟩) ?_ ?_
  rotate_left
  · intro w'
    go_simp
    with_reducible rfl
  rotate_left
  · simp only [Act.put, List.setIfInBounds_toArray, List.set_cons_zero, List.set_cons_succ, i64_w, i32_w, IntKind.wrap_u32, IntKind.wrap_u8, IntKind.wrap_u16]
    rfl
  refine pure_ (i := 12) (N := some 43) (v := ?_) (a' := ?_) #[true, true, false, true, true, false, true, false, true, false, false, false, true, false, false, false, false, false, false, false, false, false, false] rfl rfl (by kernel_rfl) (fun _ _ _ h => h) (Or.inl ⟨by rfl, ?_⟩) ?_ ?_
  rotate_left
  · intro w'
    go_simp
    with_reducible rfl
  rotate_left
  · simp only [Act.put, List.setIfInBounds_toArray, List.set_cons_zero, List.set_cons_succ, i64_w, i32_w, IntKind.wrap_u32, IntKind.wrap_u8, IntKind.wrap_u16]
    rfl
  refine pure_ (i := 16) (N := some 47) (v := ?_) (a' := ?_) #[true, true, false, true, true, false, true, false, true, false, false, false, true, false, false, false, true, false, false, false, false, false, false] rfl rfl (by kernel_rfl) (fun _ _ _ h => h) (Or.inl ⟨by rfl, ?_⟩) ?_ ?_
  rotate_left
  · intro w'
    go_simp
    with_reducible rfl
  rotate_left
  · simp only [Act.put, List.setIfInBounds_toArray, List.set_cons_zero, List.set_cons_succ, i64_w, i32_w, IntKind.wrap_u32, IntKind.wrap_u8, IntKind.wrap_u16]
    rfl
  refine pure_ (i := 17) (N := some 48) (v := ?_) (a' := ?_) #[true, true, false, true, true, false, true, false, true, false, false, false, true, false, false, false, true, true, false, false, false, false, false] rfl rfl (by kernel_rfl) (fun _ _ _ h => h) (Or.inl ⟨by rfl, ?_⟩) ?_ ?_
  rotate_left
  · intro w'
    go_simp
    with_reducible rfl
  rotate_left
  · simp only [Act.put, List.setIfInBounds_toArray, List.set_cons_zero, List.set_cons_succ, i64_w, i32_w, IntKind.wrap_u32, IntKind.wrap_u8, IntKind.wrap_u16]
    rfl
  refine take_ (i := 2) (N := some 33) (v := ?_) (a' := ?_) #[true, true, true, true, true, false, true, false, true, false, false, false, true, false, false, false, true, true, false, false, false, false, false] rfl rfl (by kernel_rfl) (fun _ _ _ h => h) (Or.inl ⟨by rfl, ?_⟩) hHeld ?_ ?_
  rotate_left
  · rintro w' ⟨s0, s1, s2, s3, s4, s5⟩
    go_simp
    with_reducible rfl
  rotate_left
  · simp only [Act.put, List.setIfInBounds_toArray, List.set_cons_zero, List.set_cons_succ, i64_w, i32_w, IntKind.wrap_u32, IntKind.wrap_u8, IntKind.wrap_u16]
    rfl
  refine take_ (i := 5) (N := some 36) (v := ?_) (a' := ?_) #[true, true, true, true, true, true, true, false, true, false, false, false, true, false, false, false, true, true, false, false, false, false, false] rfl rfl (by kernel_rfl) (fun _ _ _ h => h) (Or.inl ⟨by rfl, ?_⟩) hHeld ?_ ?_
  rotate_left
  · rintro w' ⟨s0, s1, s2, s3, s4, s5⟩
    go_simp
    with_reducible rfl
  rotate_left
  · simp only [Act.put, List.setIfInBounds_toArray, List.set_cons_zero, List.set_cons_succ, i64_w, i32_w, IntKind.wrap_u32, IntKind.wrap_u8, IntKind.wrap_u16]
    rfl
  refine take_ (i := 7) (N := some 38) (v := ?_) (a' := ?_) #[true, true, true, true, true, true, true, true, true, false, false, false, true, false, false, false, true, true, false, false, false, false, false] rfl rfl (by kernel_rfl) (fun _ _ _ h => h) (Or.inl ⟨by rfl, ?_⟩) hHeld ?_ ?_
  rotate_left
  · rintro w' ⟨s0, s1, s2, s3, s4, s5⟩
    go_simp
    with_reducible rfl
  rotate_left
  · simp only [Act.put, List.setIfInBounds_toArray, List.set_cons_zero, List.set_cons_succ, i64_w, i32_w, IntKind.wrap_u32, IntKind.wrap_u8, IntKind.wrap_u16]
    rfl
  refine take_ (i := 9) (N := some 40) (v := ?_) (a' := ?_) #[true, true, true, true, true, true, true, true, true, true, false, false, true, false, false, false, true, true, false, false, false, false, false] rfl rfl (by kernel_rfl) (fun _ _ _ h => h) (Or.inl ⟨by rfl, ?_⟩) hHeld ?_ ?_
  rotate_left
  · rintro w' ⟨s0, s1, s2, s3, s4, s5⟩
    go_simp
    with_reducible rfl
  rotate_left
  · simp only [Act.put, List.setIfInBounds_toArray, List.set_cons_zero, List.set_cons_succ, i64_w, i32_w, IntKind.wrap_u32, IntKind.wrap_u8, IntKind.wrap_u16]
    rfl
  refine take_ (i := 13) (N := some 44) (v := ?_) (a' := ?_) #[true, true, true, true, true, true, true, true, true, true, false, false, true, true, false, false, true, true, false, false, false, false, false] rfl rfl (by kernel_rfl) (fun _ _ _ h => h) (Or.inl ⟨by rfl, ?_⟩) hHeld ?_ ?_
  rotate_left
  · rintro w' ⟨s0, s1, s2, s3, s4, s5⟩
    go_simp
    with_reducible rfl
  rotate_left
  · simp only [Act.put, List.setIfInBounds_toArray, List.set_cons_zero, List.set_cons_succ, i64_w, i32_w, IntKind.wrap_u32, IntKind.wrap_u8, IntKind.wrap_u16]
    rfl
  refine take_ (i := 18) (N := some 49) (v := ?_) (a' := ?_) #[true, true, true, true, true, true, true, true, true, true, false, false, true, true, false, false, true, true, true, false, false, false, false] rfl rfl (by kernel_rfl) (fun _ _ _ h => h) (Or.inl ⟨by rfl, ?_⟩) hHeld ?_ ?_
  rotate_left
  · rintro w' ⟨s0, s1, s2, s3, s4, s5⟩
    go_simp
    with_reducible rfl
  rotate_left
  · simp only [Act.put, List.setIfInBounds_toArray, List.set_cons_zero, List.set_cons_succ, i64_w, i32_w, IntKind.wrap_u32, IntKind.wrap_u8, IntKind.wrap_u16]
    rfl
  refine pure_ (i := 19) (N := some 50) (v := ?_) (a' := ?_) #[true, true, true, true, true, true, true, true, true, true, false, false, true, true, false, false, true, true, true, true, false, false, false] rfl rfl (by kernel_rfl) (fun _ _ _ h => h) (Or.inl ⟨by rfl, ?_⟩) ?_ ?_
  rotate_left
  · intro w'
    go_simp
    with_reducible rfl
  rotate_left
  · simp only [Act.put, List.setIfInBounds_toArray, List.set_cons_zero, List.set_cons_succ, i64_w, i32_w, IntKind.wrap_u32, IntKind.wrap_u8, IntKind.wrap_u16]
    rfl
  refine join_ (σ := Nat) 1 #[true, true, true, true, true, true, true, true, true, true, true, true, true, true, true, true, true, true, true, true, true, true, false] (fun s_ => [(41, (Value.int .i64 tx)), (42, (Value.int .i64 (wrap64 (-tx)))), (45, (Value.int .i64 ux)), (46, (Value.int .i64 (wrap64 (-ux)))), (51, (Value.agg #[.int .i64 fx, .int .i64 (fx + pw)])), (9, (Value.pointer (some ⟨s_, 0, none⟩)))]) (fun s_ w' => SL w w' [cellsR w.heap.size 27 #[.int .i64 pw, .int .i64 ph, .int .i64 x0, .int .i64 y0, .int .i64 x1, .int .i64 y1, .int .i64 ae, .int .i64 gr, .int .i64 ad, .int .i64 ox, .int .i64 oy], cellsR (w.heap.size + 1) 23 #[.int .i64 b0, .int .i64 b1, .int .i64 b2, .int .i64 b3], cellsR (w.heap.size + 1 + 1) 23 #[.int .i64 0, .int .i64 0, .int .i64 0, .int .i64 0], cellsR n1 52 #[.int .i64 px, .int .i64 (px + pw)], cellsR n2 52 #[.int .i64 py, .int .i64 (py + ph)], cellsR s_ 52 #[.int .i64 0, .int .i64 0]]) ?_ ?_
  rotate_left
  · intro hCont
    refine two_ (i := 10) (j := 21) (Ni := some 41) (Nj := some 9) #[true, true, true, true, true, true, true, true, true, true, true, false, true, true, false, false, true, true, true, true, false, false, false] #[true, true, true, true, true, true, true, true, true, true, false, false, true, true, false, false, true, true, true, true, false, true, false] rfl rfl rfl rfl (by kernel_rfl) (by decide) (by decide) (fun K hK => ?_) (fun K hK => ?_)
    · skip
      refine goes_ Tryd.func28 (by kernel_rfl) rfl #[.int .i64 ae, .bool true] (by rfl) rfl rfl (by (try simp only [List.map_toArray, List.map_cons, List.map_nil]); first | done | rfl) ?_
      with_reducible refine (HSX.out (sl_drew HS.out)).mono ?_
      rintro e w10 ⟨rfl, hs10⟩
      refine ⟨_, rfl, ?_⟩
      refine hK.out _ _ ⟨(blk_cell (sl_blk hs10 0 rfl) 0).trans (show _ = some (Value.int .i64 pw) from rfl), (blk_cell (sl_blk hs10 0 rfl) 2).trans (show _ = some (Value.int .i64 x0) from rfl), (blk_cell (sl_blk hs10 0 rfl) 4).trans (show _ = some (Value.int .i64 x1) from rfl), (blk_cell (sl_blk hs10 0 rfl) 6).trans (show _ = some (Value.int .i64 ae) from rfl), (blk_cell (sl_blk hs10 0 rfl) 7).trans (show _ = some (Value.int .i64 gr) from rfl), (blk_cell (sl_blk hs10 0 rfl) 9).trans (show _ = some (Value.int .i64 ox) from rfl)⟩ (fun hHeld => ?_)
      clear hK K
      refine norm_ (a' := ?_) ?_ ?_
      rotate_left
      · show Act.put _ (some 41) _ = _
        simp only [Act.put, List.setIfInBounds_toArray, List.set_cons_zero, List.set_cons_succ, i64_w, i32_w, IntKind.wrap_u32, IntKind.wrap_u8, IntKind.wrap_u16]
        rfl
      refine pure_ (i := 11) (N := some 42) (v := ?_) (a' := ?_) #[true, true, true, true, true, true, true, true, true, true, true, true, true, true, false, false, true, true, true, true, false, false, false] rfl rfl (by kernel_rfl) (fun _ _ _ h => h) (Or.inl ⟨by rfl, ?_⟩) ?_ ?_
      rotate_left
      · intro w'
        go_simp
        with_reducible rfl
      rotate_left
      · simp only [Act.put, List.setIfInBounds_toArray, List.set_cons_zero, List.set_cons_succ, i64_w, i32_w, IntKind.wrap_u32, IntKind.wrap_u8, IntKind.wrap_u16]
        rfl
      refine two_ (i := 14) (j := 21) (Ni := some 45) (Nj := some 9) #[true, true, true, true, true, true, true, true, true, true, true, true, true, true, true, false, true, true, true, true, false, false, false] #[true, true, true, true, true, true, true, true, true, true, true, true, true, true, false, false, true, true, true, true, false, true, false] rfl rfl rfl rfl (by kernel_rfl) (by decide) (by decide) (fun K hK => ?_) (fun K hK => ?_)
      · skip
        refine goes_ Tryd.func28 (by kernel_rfl) rfl #[.int .i64 gr, .bool true] (by rfl) rfl rfl (by (try simp only [List.map_toArray, List.map_cons, List.map_nil]); first | done | rfl) ?_
        with_reducible refine (HSU.out hs10).mono ?_
        rintro e w14 ⟨rfl, hs14⟩
        refine ⟨_, rfl, ?_⟩
        refine hK.out _ _ ⟨(blk_cell (sl_blk hs14 0 rfl) 0).trans (show _ = some (Value.int .i64 pw) from rfl), (blk_cell (sl_blk hs14 0 rfl) 2).trans (show _ = some (Value.int .i64 x0) from rfl), (blk_cell (sl_blk hs14 0 rfl) 4).trans (show _ = some (Value.int .i64 x1) from rfl), (blk_cell (sl_blk hs14 0 rfl) 6).trans (show _ = some (Value.int .i64 ae) from rfl), (blk_cell (sl_blk hs14 0 rfl) 7).trans (show _ = some (Value.int .i64 gr) from rfl), (blk_cell (sl_blk hs14 0 rfl) 9).trans (show _ = some (Value.int .i64 ox) from rfl)⟩ (fun hHeld => ?_)
        clear hK K
        refine norm_ (a' := ?_) ?_ ?_
        rotate_left
        · show Act.put _ (some 45) _ = _
          simp only [Act.put, List.setIfInBounds_toArray, List.set_cons_zero, List.set_cons_succ, i64_w, i32_w, IntKind.wrap_u32, IntKind.wrap_u8, IntKind.wrap_u16]
          rfl
        refine pure_ (i := 15) (N := some 46) (v := ?_) (a' := ?_) #[true, true, true, true, true, true, true, true, true, true, true, true, true, true, true, true, true, true, true, true, false, false, false] rfl rfl (by kernel_rfl) (fun _ _ _ h => h) (Or.inl ⟨by rfl, ?_⟩) ?_ ?_
        rotate_left
        · intro w'
          go_simp
          with_reducible rfl
        rotate_left
        · simp only [Act.put, List.setIfInBounds_toArray, List.set_cons_zero, List.set_cons_succ, i64_w, i32_w, IntKind.wrap_u32, IntKind.wrap_u8, IntKind.wrap_u16]
          rfl
        refine two_ (i := 20) (j := 21) (Ni := some 51) (Nj := some 9) #[true, true, true, true, true, true, true, true, true, true, true, true, true, true, true, true, true, true, true, true, true, false, false] #[true, true, true, true, true, true, true, true, true, true, true, true, true, true, true, true, true, true, true, true, false, true, false] rfl rfl rfl rfl (by kernel_rfl) (by decide) (by decide) (fun K hK => ?_) (fun K hK => ?_)
        · skip
          refine goes_ Tryd.func35 (by kernel_rfl) rfl #[.int .i64 x0, .int .i64 x1, .int .i64 pw, .int .i64 (wrap64 (-tx)), .int .i64 (wrap64 (-ux)), .int .i64 (wrap64 (-ox))] (by rfl) rfl rfl (by (try simp only [List.map_toArray, List.map_cons, List.map_nil]); first | done | rfl) ?_
          with_reducible refine (HPX.out hs14).mono ?_
          rintro e w20 ⟨rfl, hs20⟩
          refine ⟨_, rfl, ?_⟩
          refine hK.out _ _ ⟨(blk_cell (sl_blk hs20 0 rfl) 0).trans (show _ = some (Value.int .i64 pw) from rfl), (blk_cell (sl_blk hs20 0 rfl) 2).trans (show _ = some (Value.int .i64 x0) from rfl), (blk_cell (sl_blk hs20 0 rfl) 4).trans (show _ = some (Value.int .i64 x1) from rfl), (blk_cell (sl_blk hs20 0 rfl) 6).trans (show _ = some (Value.int .i64 ae) from rfl), (blk_cell (sl_blk hs20 0 rfl) 7).trans (show _ = some (Value.int .i64 gr) from rfl), (blk_cell (sl_blk hs20 0 rfl) 9).trans (show _ = some (Value.int .i64 ox) from rfl)⟩ (fun hHeld => ?_)
          clear hK K
          refine norm_ (a' := ?_) ?_ ?_
          rotate_left
          · show Act.put _ (some 51) _ = _
            simp only [Act.put, List.setIfInBounds_toArray, List.set_cons_zero, List.set_cons_succ, i64_w, i32_w, IntKind.wrap_u32, IntKind.wrap_u8, IntKind.wrap_u16]
            rfl
          refine one_ (i := 21) (N := some 9) #[true, true, true, true, true, true, true, true, true, true, true, true, true, true, true, true, true, true, true, true, true, true, false] rfl rfl (by kernel_rfl) (by decide) (fun K hK => ?_)
          refine box_step ?hg (N := 9) ?hd (cs := #[.int .i64 0, .int .i64 0]) (t := 52) ?hr ?_; (case hd => rfl); (case hg => rfl); (case hr => first | (go_simp; done) | (go_simp; rfl))
          intro gn hgn w4 hbox hb
          have hsAl := sl_box' hs20 hb (Nat.le_of_eq hgn.symm) hbox
          refine hK.out _ _ ⟨(blk_cell (sl_blk hsAl 0 rfl) 0).trans (show _ = some (Value.int .i64 pw) from rfl), (blk_cell (sl_blk hsAl 0 rfl) 2).trans (show _ = some (Value.int .i64 x0) from rfl), (blk_cell (sl_blk hsAl 0 rfl) 4).trans (show _ = some (Value.int .i64 x1) from rfl), (blk_cell (sl_blk hsAl 0 rfl) 6).trans (show _ = some (Value.int .i64 ae) from rfl), (blk_cell (sl_blk hsAl 0 rfl) 7).trans (show _ = some (Value.int .i64 gr) from rfl), (blk_cell (sl_blk hsAl 0 rfl) 9).trans (show _ = some (Value.int .i64 ox) from rfl)⟩ (fun hHeld => ?_)
          clear hK K
          refine norm_ (a' := ?_) ?_ ?_
          rotate_left
          · show Act.put _ (some 9) _ = _
            simp only [Act.put, List.setIfInBounds_toArray, List.set_cons_zero, List.set_cons_succ, i64_w, i32_w, IntKind.wrap_u32, IntKind.wrap_u8, IntKind.wrap_u16]
            rfl
          exact norm_ (by simp only [putAll, Act.put, List.setIfInBounds_toArray, List.set_cons_zero, List.set_cons_succ]) (hCont gn _ hsAl)
        · skip
          refine box_step ?hg (N := 9) ?hd (cs := #[.int .i64 0, .int .i64 0]) (t := 52) ?hr ?_; (case hd => rfl); (case hg => rfl); (case hr => first | (go_simp; done) | (go_simp; rfl))
          intro gn hgn w4 hbox hb
          have hsAl := sl_box' hs14 hb (Nat.le_of_eq hgn.symm) hbox
          refine hK.out _ _ ⟨(blk_cell (sl_blk hsAl 0 rfl) 0).trans (show _ = some (Value.int .i64 pw) from rfl), (blk_cell (sl_blk hsAl 0 rfl) 2).trans (show _ = some (Value.int .i64 x0) from rfl), (blk_cell (sl_blk hsAl 0 rfl) 4).trans (show _ = some (Value.int .i64 x1) from rfl), (blk_cell (sl_blk hsAl 0 rfl) 6).trans (show _ = some (Value.int .i64 ae) from rfl), (blk_cell (sl_blk hsAl 0 rfl) 7).trans (show _ = some (Value.int .i64 gr) from rfl), (blk_cell (sl_blk hsAl 0 rfl) 9).trans (show _ = some (Value.int .i64 ox) from rfl)⟩ (fun hHeld => ?_)
          clear hK K
          refine norm_ (a' := ?_) ?_ ?_
          rotate_left
          · show Act.put _ (some 9) _ = _
            simp only [Act.put, List.setIfInBounds_toArray, List.set_cons_zero, List.set_cons_succ, i64_w, i32_w, IntKind.wrap_u32, IntKind.wrap_u8, IntKind.wrap_u16]
            rfl
          refine one_ (i := 20) (N := some 51) #[true, true, true, true, true, true, true, true, true, true, true, true, true, true, true, true, true, true, true, true, true, true, false] rfl rfl (by kernel_rfl) (by decide) (fun K hK => ?_)
          refine goes_ Tryd.func35 (by kernel_rfl) rfl #[.int .i64 x0, .int .i64 x1, .int .i64 pw, .int .i64 (wrap64 (-tx)), .int .i64 (wrap64 (-ux)), .int .i64 (wrap64 (-ox))] (by rfl) rfl rfl (by (try simp only [List.map_toArray, List.map_cons, List.map_nil]); first | done | rfl) ?_
          with_reducible refine (HPX.out hsAl).mono ?_
          rintro e w20 ⟨rfl, hs20⟩
          refine ⟨_, rfl, ?_⟩
          refine hK.out _ _ ⟨(blk_cell (sl_blk hs20 0 rfl) 0).trans (show _ = some (Value.int .i64 pw) from rfl), (blk_cell (sl_blk hs20 0 rfl) 2).trans (show _ = some (Value.int .i64 x0) from rfl), (blk_cell (sl_blk hs20 0 rfl) 4).trans (show _ = some (Value.int .i64 x1) from rfl), (blk_cell (sl_blk hs20 0 rfl) 6).trans (show _ = some (Value.int .i64 ae) from rfl), (blk_cell (sl_blk hs20 0 rfl) 7).trans (show _ = some (Value.int .i64 gr) from rfl), (blk_cell (sl_blk hs20 0 rfl) 9).trans (show _ = some (Value.int .i64 ox) from rfl)⟩ (fun hHeld => ?_)
          clear hK K
          refine norm_ (a' := ?_) ?_ ?_
          rotate_left
          · show Act.put _ (some 51) _ = _
            simp only [Act.put, List.setIfInBounds_toArray, List.set_cons_zero, List.set_cons_succ, i64_w, i32_w, IntKind.wrap_u32, IntKind.wrap_u8, IntKind.wrap_u16]
            rfl
          exact norm_ (by simp only [putAll, Act.put, List.setIfInBounds_toArray, List.set_cons_zero, List.set_cons_succ]) (hCont gn _ hs20)
      · skip
        refine box_step ?hg (N := 9) ?hd (cs := #[.int .i64 0, .int .i64 0]) (t := 52) ?hr ?_; (case hd => rfl); (case hg => rfl); (case hr => first | (go_simp; done) | (go_simp; rfl))
        intro gn hgn w4 hbox hb
        have hsAl := sl_box' hs10 hb (Nat.le_of_eq hgn.symm) hbox
        refine hK.out _ _ ⟨(blk_cell (sl_blk hsAl 0 rfl) 0).trans (show _ = some (Value.int .i64 pw) from rfl), (blk_cell (sl_blk hsAl 0 rfl) 2).trans (show _ = some (Value.int .i64 x0) from rfl), (blk_cell (sl_blk hsAl 0 rfl) 4).trans (show _ = some (Value.int .i64 x1) from rfl), (blk_cell (sl_blk hsAl 0 rfl) 6).trans (show _ = some (Value.int .i64 ae) from rfl), (blk_cell (sl_blk hsAl 0 rfl) 7).trans (show _ = some (Value.int .i64 gr) from rfl), (blk_cell (sl_blk hsAl 0 rfl) 9).trans (show _ = some (Value.int .i64 ox) from rfl)⟩ (fun hHeld => ?_)
        clear hK K
        refine norm_ (a' := ?_) ?_ ?_
        rotate_left
        · show Act.put _ (some 9) _ = _
          simp only [Act.put, List.setIfInBounds_toArray, List.set_cons_zero, List.set_cons_succ, i64_w, i32_w, IntKind.wrap_u32, IntKind.wrap_u8, IntKind.wrap_u16]
          rfl
        refine one_ (i := 14) (N := some 45) #[true, true, true, true, true, true, true, true, true, true, true, true, true, true, true, false, true, true, true, true, false, true, false] rfl rfl (by kernel_rfl) (by decide) (fun K hK => ?_)
        refine goes_ Tryd.func28 (by kernel_rfl) rfl #[.int .i64 gr, .bool true] (by rfl) rfl rfl (by (try simp only [List.map_toArray, List.map_cons, List.map_nil]); first | done | rfl) ?_
        with_reducible refine (HSU.out hsAl).mono ?_
        rintro e w14 ⟨rfl, hs14⟩
        refine ⟨_, rfl, ?_⟩
        refine hK.out _ _ ⟨(blk_cell (sl_blk hs14 0 rfl) 0).trans (show _ = some (Value.int .i64 pw) from rfl), (blk_cell (sl_blk hs14 0 rfl) 2).trans (show _ = some (Value.int .i64 x0) from rfl), (blk_cell (sl_blk hs14 0 rfl) 4).trans (show _ = some (Value.int .i64 x1) from rfl), (blk_cell (sl_blk hs14 0 rfl) 6).trans (show _ = some (Value.int .i64 ae) from rfl), (blk_cell (sl_blk hs14 0 rfl) 7).trans (show _ = some (Value.int .i64 gr) from rfl), (blk_cell (sl_blk hs14 0 rfl) 9).trans (show _ = some (Value.int .i64 ox) from rfl)⟩ (fun hHeld => ?_)
        clear hK K
        refine norm_ (a' := ?_) ?_ ?_
        rotate_left
        · show Act.put _ (some 45) _ = _
          simp only [Act.put, List.setIfInBounds_toArray, List.set_cons_zero, List.set_cons_succ, i64_w, i32_w, IntKind.wrap_u32, IntKind.wrap_u8, IntKind.wrap_u16]
          rfl
        refine pure_ (i := 15) (N := some 46) (v := ?_) (a' := ?_) #[true, true, true, true, true, true, true, true, true, true, true, true, true, true, true, true, true, true, true, true, false, true, false] rfl rfl (by kernel_rfl) (fun _ _ _ h => h) (Or.inl ⟨by rfl, ?_⟩) ?_ ?_
        rotate_left
        · intro w'
          go_simp
          with_reducible rfl
        rotate_left
        · simp only [Act.put, List.setIfInBounds_toArray, List.set_cons_zero, List.set_cons_succ, i64_w, i32_w, IntKind.wrap_u32, IntKind.wrap_u8, IntKind.wrap_u16]
          rfl
        refine one_ (i := 20) (N := some 51) #[true, true, true, true, true, true, true, true, true, true, true, true, true, true, true, true, true, true, true, true, true, true, false] rfl rfl (by kernel_rfl) (by decide) (fun K hK => ?_)
        refine goes_ Tryd.func35 (by kernel_rfl) rfl #[.int .i64 x0, .int .i64 x1, .int .i64 pw, .int .i64 (wrap64 (-tx)), .int .i64 (wrap64 (-ux)), .int .i64 (wrap64 (-ox))] (by rfl) rfl rfl (by (try simp only [List.map_toArray, List.map_cons, List.map_nil]); first | done | rfl) ?_
        with_reducible refine (HPX.out hs14).mono ?_
        rintro e w20 ⟨rfl, hs20⟩
        refine ⟨_, rfl, ?_⟩
        refine hK.out _ _ ⟨(blk_cell (sl_blk hs20 0 rfl) 0).trans (show _ = some (Value.int .i64 pw) from rfl), (blk_cell (sl_blk hs20 0 rfl) 2).trans (show _ = some (Value.int .i64 x0) from rfl), (blk_cell (sl_blk hs20 0 rfl) 4).trans (show _ = some (Value.int .i64 x1) from rfl), (blk_cell (sl_blk hs20 0 rfl) 6).trans (show _ = some (Value.int .i64 ae) from rfl), (blk_cell (sl_blk hs20 0 rfl) 7).trans (show _ = some (Value.int .i64 gr) from rfl), (blk_cell (sl_blk hs20 0 rfl) 9).trans (show _ = some (Value.int .i64 ox) from rfl)⟩ (fun hHeld => ?_)
        clear hK K
        refine norm_ (a' := ?_) ?_ ?_
        rotate_left
        · show Act.put _ (some 51) _ = _
          simp only [Act.put, List.setIfInBounds_toArray, List.set_cons_zero, List.set_cons_succ, i64_w, i32_w, IntKind.wrap_u32, IntKind.wrap_u8, IntKind.wrap_u16]
          rfl
        exact norm_ (by simp only [putAll, Act.put, List.setIfInBounds_toArray, List.set_cons_zero, List.set_cons_succ]) (hCont gn _ hs20)
    · skip
      refine box_step ?hg (N := 9) ?hd (cs := #[.int .i64 0, .int .i64 0]) (t := 52) ?hr ?_; (case hd => rfl); (case hg => rfl); (case hr => first | (go_simp; done) | (go_simp; rfl))
      intro gn hgn w4 hbox hb
      have hsAl := sl_box' (sl_drew HS.out) hb (Nat.le_of_eq hgn.symm) hbox
      refine hK.out _ _ ⟨(blk_cell (sl_blk hsAl 0 rfl) 0).trans (show _ = some (Value.int .i64 pw) from rfl), (blk_cell (sl_blk hsAl 0 rfl) 2).trans (show _ = some (Value.int .i64 x0) from rfl), (blk_cell (sl_blk hsAl 0 rfl) 4).trans (show _ = some (Value.int .i64 x1) from rfl), (blk_cell (sl_blk hsAl 0 rfl) 6).trans (show _ = some (Value.int .i64 ae) from rfl), (blk_cell (sl_blk hsAl 0 rfl) 7).trans (show _ = some (Value.int .i64 gr) from rfl), (blk_cell (sl_blk hsAl 0 rfl) 9).trans (show _ = some (Value.int .i64 ox) from rfl)⟩ (fun hHeld => ?_)
      clear hK K
      refine norm_ (a' := ?_) ?_ ?_
      rotate_left
      · show Act.put _ (some 9) _ = _
        simp only [Act.put, List.setIfInBounds_toArray, List.set_cons_zero, List.set_cons_succ, i64_w, i32_w, IntKind.wrap_u32, IntKind.wrap_u8, IntKind.wrap_u16]
        rfl
      refine one_ (i := 10) (N := some 41) #[true, true, true, true, true, true, true, true, true, true, true, false, true, true, false, false, true, true, true, true, false, true, false] rfl rfl (by kernel_rfl) (by decide) (fun K hK => ?_)
      refine goes_ Tryd.func28 (by kernel_rfl) rfl #[.int .i64 ae, .bool true] (by rfl) rfl rfl (by (try simp only [List.map_toArray, List.map_cons, List.map_nil]); first | done | rfl) ?_
      with_reducible refine (HSX.out hsAl).mono ?_
      rintro e w10 ⟨rfl, hs10⟩
      refine ⟨_, rfl, ?_⟩
      refine hK.out _ _ ⟨(blk_cell (sl_blk hs10 0 rfl) 0).trans (show _ = some (Value.int .i64 pw) from rfl), (blk_cell (sl_blk hs10 0 rfl) 2).trans (show _ = some (Value.int .i64 x0) from rfl), (blk_cell (sl_blk hs10 0 rfl) 4).trans (show _ = some (Value.int .i64 x1) from rfl), (blk_cell (sl_blk hs10 0 rfl) 6).trans (show _ = some (Value.int .i64 ae) from rfl), (blk_cell (sl_blk hs10 0 rfl) 7).trans (show _ = some (Value.int .i64 gr) from rfl), (blk_cell (sl_blk hs10 0 rfl) 9).trans (show _ = some (Value.int .i64 ox) from rfl)⟩ (fun hHeld => ?_)
      clear hK K
      refine norm_ (a' := ?_) ?_ ?_
      rotate_left
      · show Act.put _ (some 41) _ = _
        simp only [Act.put, List.setIfInBounds_toArray, List.set_cons_zero, List.set_cons_succ, i64_w, i32_w, IntKind.wrap_u32, IntKind.wrap_u8, IntKind.wrap_u16]
        rfl
      refine pure_ (i := 11) (N := some 42) (v := ?_) (a' := ?_) #[true, true, true, true, true, true, true, true, true, true, true, true, true, true, false, false, true, true, true, true, false, true, false] rfl rfl (by kernel_rfl) (fun _ _ _ h => h) (Or.inl ⟨by rfl, ?_⟩) ?_ ?_
      rotate_left
      · intro w'
        go_simp
        with_reducible rfl
      rotate_left
      · simp only [Act.put, List.setIfInBounds_toArray, List.set_cons_zero, List.set_cons_succ, i64_w, i32_w, IntKind.wrap_u32, IntKind.wrap_u8, IntKind.wrap_u16]
        rfl
      refine one_ (i := 14) (N := some 45) #[true, true, true, true, true, true, true, true, true, true, true, true, true, true, true, false, true, true, true, true, false, true, false] rfl rfl (by kernel_rfl) (by decide) (fun K hK => ?_)
      refine goes_ Tryd.func28 (by kernel_rfl) rfl #[.int .i64 gr, .bool true] (by rfl) rfl rfl (by (try simp only [List.map_toArray, List.map_cons, List.map_nil]); first | done | rfl) ?_
      with_reducible refine (HSU.out hs10).mono ?_
      rintro e w14 ⟨rfl, hs14⟩
      refine ⟨_, rfl, ?_⟩
      refine hK.out _ _ ⟨(blk_cell (sl_blk hs14 0 rfl) 0).trans (show _ = some (Value.int .i64 pw) from rfl), (blk_cell (sl_blk hs14 0 rfl) 2).trans (show _ = some (Value.int .i64 x0) from rfl), (blk_cell (sl_blk hs14 0 rfl) 4).trans (show _ = some (Value.int .i64 x1) from rfl), (blk_cell (sl_blk hs14 0 rfl) 6).trans (show _ = some (Value.int .i64 ae) from rfl), (blk_cell (sl_blk hs14 0 rfl) 7).trans (show _ = some (Value.int .i64 gr) from rfl), (blk_cell (sl_blk hs14 0 rfl) 9).trans (show _ = some (Value.int .i64 ox) from rfl)⟩ (fun hHeld => ?_)
      clear hK K
      refine norm_ (a' := ?_) ?_ ?_
      rotate_left
      · show Act.put _ (some 45) _ = _
        simp only [Act.put, List.setIfInBounds_toArray, List.set_cons_zero, List.set_cons_succ, i64_w, i32_w, IntKind.wrap_u32, IntKind.wrap_u8, IntKind.wrap_u16]
        rfl
      refine pure_ (i := 15) (N := some 46) (v := ?_) (a' := ?_) #[true, true, true, true, true, true, true, true, true, true, true, true, true, true, true, true, true, true, true, true, false, true, false] rfl rfl (by kernel_rfl) (fun _ _ _ h => h) (Or.inl ⟨by rfl, ?_⟩) ?_ ?_
      rotate_left
      · intro w'
        go_simp
        with_reducible rfl
      rotate_left
      · simp only [Act.put, List.setIfInBounds_toArray, List.set_cons_zero, List.set_cons_succ, i64_w, i32_w, IntKind.wrap_u32, IntKind.wrap_u8, IntKind.wrap_u16]
        rfl
      refine one_ (i := 20) (N := some 51) #[true, true, true, true, true, true, true, true, true, true, true, true, true, true, true, true, true, true, true, true, true, true, false] rfl rfl (by kernel_rfl) (by decide) (fun K hK => ?_)
      refine goes_ Tryd.func35 (by kernel_rfl) rfl #[.int .i64 x0, .int .i64 x1, .int .i64 pw, .int .i64 (wrap64 (-tx)), .int .i64 (wrap64 (-ux)), .int .i64 (wrap64 (-ox))] (by rfl) rfl rfl (by (try simp only [List.map_toArray, List.map_cons, List.map_nil]); first | done | rfl) ?_
      with_reducible refine (HPX.out hs14).mono ?_
      rintro e w20 ⟨rfl, hs20⟩
      refine ⟨_, rfl, ?_⟩
      refine hK.out _ _ ⟨(blk_cell (sl_blk hs20 0 rfl) 0).trans (show _ = some (Value.int .i64 pw) from rfl), (blk_cell (sl_blk hs20 0 rfl) 2).trans (show _ = some (Value.int .i64 x0) from rfl), (blk_cell (sl_blk hs20 0 rfl) 4).trans (show _ = some (Value.int .i64 x1) from rfl), (blk_cell (sl_blk hs20 0 rfl) 6).trans (show _ = some (Value.int .i64 ae) from rfl), (blk_cell (sl_blk hs20 0 rfl) 7).trans (show _ = some (Value.int .i64 gr) from rfl), (blk_cell (sl_blk hs20 0 rfl) 9).trans (show _ = some (Value.int .i64 ox) from rfl)⟩ (fun hHeld => ?_)
      clear hK K
      refine norm_ (a' := ?_) ?_ ?_
      rotate_left
      · show Act.put _ (some 51) _ = _
        simp only [Act.put, List.setIfInBounds_toArray, List.set_cons_zero, List.set_cons_succ, i64_w, i32_w, IntKind.wrap_u32, IntKind.wrap_u8, IntKind.wrap_u16]
        rfl
      exact norm_ (by simp only [putAll, Act.put, List.setIfInBounds_toArray, List.set_cons_zero, List.set_cons_succ]) (hCont gn _ hs20)
  intro gn w7 hs7
  have hHeld : w7.cell? ⟨w.heap.size, 0, none⟩ = some (.int .i64 pw) ∧ w7.cell? ⟨w.heap.size, 2, none⟩ = some (.int .i64 x0) ∧ w7.cell? ⟨w.heap.size, 4, none⟩ = some (.int .i64 x1) ∧ w7.cell? ⟨w.heap.size, 6, none⟩ = some (.int .i64 ae) ∧ w7.cell? ⟨w.heap.size, 7, none⟩ = some (.int .i64 gr) ∧ w7.cell? ⟨w.heap.size, 9, none⟩ = some (.int .i64 ox) := ⟨(blk_cell (sl_blk hs7 0 rfl) 0).trans (show _ = some (Value.int .i64 pw) from rfl), (blk_cell (sl_blk hs7 0 rfl) 2).trans (show _ = some (Value.int .i64 x0) from rfl), (blk_cell (sl_blk hs7 0 rfl) 4).trans (show _ = some (Value.int .i64 x1) from rfl), (blk_cell (sl_blk hs7 0 rfl) 6).trans (show _ = some (Value.int .i64 ae) from rfl), (blk_cell (sl_blk hs7 0 rfl) 7).trans (show _ = some (Value.int .i64 gr) from rfl), (blk_cell (sl_blk hs7 0 rfl) 9).trans (show _ = some (Value.int .i64 ox) from rfl)⟩
  have hz_ := blk_lt (sl_blk hs7 5 rfl)
  have z0 := (blk_cell (sl_blk hs7 5 rfl) 0).trans (show _ = some (Value.int .i64 0) from rfl)
  have z1 := (blk_cell (sl_blk hs7 5 rfl) 1).trans (show _ = some (Value.int .i64 0) from rfl)
  have zf0 := blk_frozen (sl_blk hs7 5 rfl) 0
  have zf1 := blk_frozen (sl_blk hs7 5 rfl) 1
  refine norm_ (a' := ?_) ?_ ?_
  rotate_left
  · simp only [putAll, Act.put, List.setIfInBounds_toArray, List.set_cons_zero, List.set_cons_succ]
    rfl
  refine last_ (i := 22) (N := none) #[true, true, true, true, true, true, true, true, true, true, true, true, true, true, true, true, true, true, true, true, true, true, true] rfl rfl (by kernel_rfl) (by decide) (fun K hK => ?_)
  refine skip_ (w1 := ?_) (by rfl) rfl ?_ ?_
  rotate_left
  · go_simp
    rfl
  refine hK.out _ _ ?_
  clear hK K
  refine done_ (by kernel_rfl) ?_
  go_upto_region 8 with (fail)
  refine world_gen (F := fun w_ => Code.wp Tryd.prog _ _ _ w_) (fun w_ => SL w w_ [cellsR w.heap.size 27 #[.int .i64 pw, .int .i64 ph, .int .i64 x0, .int .i64 y0, .int .i64 x1, .int .i64 y1, .int .i64 ae, .int .i64 gr, .int .i64 ad, .int .i64 ox, .int .i64 oy], cellsR (w.heap.size + 1) 23 #[.int .i64 b0, .int .i64 b1, .int .i64 b2, .int .i64 b3], cellsR (w.heap.size + 1 + 1) 23 #[.int .i64 0, .int .i64 0, .int .i64 0, .int .i64 0], cellsR n1 52 #[.int .i64 px, .int .i64 (px + pw)], cellsR n2 52 #[.int .i64 py, .int .i64 (py + ph)], cellsR gn 52 #[.int .i64 fx, .int .i64 (fx + pw)]]) ?hP ?_
  case hP =>
    have hs := sl_put (sl_put hs7 5 rfl 0 (Value.int .i64 fx)) 5 rfl 1 (Value.int .i64 (fx + pw))
    (try simp only [World.size_alloc] at hs)
    exact hs
  clear hs7 hz_ z0 z1 zf0 zf1 hHeld
  intro w8 hs
  generalize gn = n3 at hs ⊢
  replace HS := Aside0.mk hs
  clear hs

  refine start_ (n := 23) (S := fun w' => w'.cell? ⟨w.heap.size, 1, none⟩ = some (.int .i64 ph) ∧ w'.cell? ⟨w.heap.size, 3, none⟩ = some (.int .i64 y0) ∧ w'.cell? ⟨w.heap.size, 5, none⟩ = some (.int .i64 y1) ∧ w'.cell? ⟨w.heap.size, 6, none⟩ = some (.int .i64 ae) ∧ w'.cell? ⟨w.heap.size, 7, none⟩ = some (.int .i64 gr) ∧ w'.cell? ⟨w.heap.size, 10, none⟩ = some (.int .i64 oy)) (ds := [22]) #[false, false, false, false, false, false, false, false, false, false, false, false, false, false, false, false, false, false, false, false, false, false, false] (by kernel_rfl) rfl rfl ⟨(blk_cell (sl_blk (sl_drew HS.out) 0 rfl) 1).trans (show _ = some (Value.int .i64 ph) from rfl), (blk_cell (sl_blk (sl_drew HS.out) 0 rfl) 3).trans (show _ = some (Value.int .i64 y0) from rfl), (blk_cell (sl_blk (sl_drew HS.out) 0 rfl) 5).trans (show _ = some (Value.int .i64 y1) from rfl), (blk_cell (sl_blk (sl_drew HS.out) 0 rfl) 6).trans (show _ = some (Value.int .i64 ae) from rfl), (blk_cell (sl_blk (sl_drew HS.out) 0 rfl) 7).trans (show _ = some (Value.int .i64 gr) from rfl), (blk_cell (sl_blk (sl_drew HS.out) 0 rfl) 10).trans (show _ = some (Value.int .i64 oy) from rfl)⟩ (fun hHeld => ?_)
  refine pure_ (i := 0) (N := some 52) (v := ?_) (a' := ?_) #[true, false, false, false, false, false, false, false, false, false, false, false, false, false, false, false, false, false, false, false, false, false, false] rfl rfl (by kernel_rfl) (fun _ _ _ h => h) (Or.inl ⟨by rfl, ?_⟩) ?_ ?_
  rotate_left
  · intro w'
    go_simp
    with_reducible rfl
  rotate_left
  · simp only [Act.put, List.setIfInBounds_toArray, List.set_cons_zero, List.set_cons_succ, i64_w, i32_w, IntKind.wrap_u32, IntKind.wrap_u8, IntKind.wrap_u16]
    rfl
  refine pure_ (i := 1) (N := some 53) (v := ?_) (a' := ?_) #[true, true, false, false, false, false, false, false, false, false, false, false, false, false, false, false, false, false, false, false, false, false, false] rfl rfl (by kernel_rfl) (fun _ _ _ h => h) (Or.inl ⟨by rfl, ?_⟩) ?_ ?_
  rotate_left
  · intro w'
    go_simp
    with_reducible rfl
  rotate_left
  · simp only [Act.put, List.setIfInBounds_toArray, List.set_cons_zero, List.set_cons_succ, i64_w, i32_w, IntKind.wrap_u32, IntKind.wrap_u8, IntKind.wrap_u16]
    rfl
  refine pure_ (i := 3) (N := some 55) (v := ?_) (a' := ?_) #[true, true, false, true, false, false, false, false, false, false, false, false, false, false, false, false, false, false, false, false, false, false, false] rfl rfl (by kernel_rfl) (fun _ _ _ h => h) (Or.inl ⟨by rfl, ?_⟩) ?_ ?_
  rotate_left
  · intro w'
    go_simp
    with_reducible rfl
  rotate_left
  · simp only [Act.put, List.setIfInBounds_toArray, List.set_cons_zero, List.set_cons_succ, i64_w, i32_w, IntKind.wrap_u32, IntKind.wrap_u8, IntKind.wrap_u16]
    rfl
  refine pure_ (i := 4) (N := some 56) (v := ?_) (a' := ?_) #[true, true, false, true, true, false, false, false, false, false, false, false, false, false, false, false, false, false, false, false, false, false, false] rfl rfl (by kernel_rfl) (fun _ _ _ h => h) (Or.inl ⟨by rfl, ?_⟩) ?_ ?_
  rotate_left
  · intro w'
    go_simp
    with_reducible rfl
  rotate_left
  · simp only [Act.put, List.setIfInBounds_toArray, List.set_cons_zero, List.set_cons_succ, i64_w, i32_w, IntKind.wrap_u32, IntKind.wrap_u8, IntKind.wrap_u16]
    rfl
  refine pure_ (i := 6) (N := some 58) (v := ?_) (a' := ?_) #[true, true, false, true, true, false, true, false, false, false, false, false, false, false, false, false, false, false, false, false, false, false, false] rfl rfl (by kernel_rfl) (fun _ _ _ h => h) (Or.inl ⟨by rfl, ?_⟩) ?_ ?_
  rotate_left
  · intro w'
    go_simp
    with_reducible rfl
  rotate_left
  · simp only [Act.put, List.setIfInBounds_toArray, List.set_cons_zero, List.set_cons_succ, i64_w, i32_w, IntKind.wrap_u32, IntKind.wrap_u8, IntKind.wrap_u16]
    rfl
  refine pure_ (i := 8) (N := some 60) (v := ?_) (a' := ?_) #[true, true, false, true, true, false, true, false, true, false, false, false, false, false, false, false, false, false, false, false, false, false, false] rfl rfl (by kernel_rfl) (fun _ _ _ h => h) (Or.inl ⟨by rfl, ?_⟩) ?_ ?_
  rotate_left
  · intro w'
    go_simp
    with_reducible rfl
  rotate_left
  · simp only [Act.put, List.setIfInBounds_toArray, List.set_cons_zero, List.set_cons_succ, i64_w, i32_w, IntKind.wrap_u32, IntKind.wrap_u8, IntKind.wrap_u16]
    rfl
  refine pure_ (i := 12) (N := some 64) (v := ?_) (a' := ?_) #[true, true, false, true, true, false, true, false, true, false, false, false, true, false, false, false, false, false, false, false, false, false, false] rfl rfl (by kernel_rfl) (fun _ _ _ h => h) (Or.inl ⟨by rfl, ?_⟩) ?_ ?_
  rotate_left
  · intro w'
    go_simp
    with_reducible rfl
  rotate_left
  · simp only [Act.put, List.setIfInBounds_toArray, List.set_cons_zero, List.set_cons_succ, i64_w, i32_w, IntKind.wrap_u32, IntKind.wrap_u8, IntKind.wrap_u16]
    rfl
  refine pure_ (i := 16) (N := some 68) (v := ?_) (a' := ?_) #[true, true, false, true, true, false, true, false, true, false, false, false, true, false, false, false, true, false, false, false, false, false, false] rfl rfl (by kernel_rfl) (fun _ _ _ h => h) (Or.inl ⟨by rfl, ?_⟩) ?_ ?_
  rotate_left
  · intro w'
    go_simp
    with_reducible rfl
  rotate_left
  · simp only [Act.put, List.setIfInBounds_toArray, List.set_cons_zero, List.set_cons_succ, i64_w, i32_w, IntKind.wrap_u32, IntKind.wrap_u8, IntKind.wrap_u16]
    rfl
  refine pure_ (i := 17) (N := some 69) (v := ?_) (a' := ?_) #[true, true, false, true, true, false, true, false, true, false, false, false, true, false, false, false, true, true, false, false, false, false, false] rfl rfl (by kernel_rfl) (fun _ _ _ h => h) (Or.inl ⟨by rfl, ?_⟩) ?_ ?_
  rotate_left
  · intro w'
    go_simp
    with_reducible rfl
  rotate_left
  · simp only [Act.put, List.setIfInBounds_toArray, List.set_cons_zero, List.set_cons_succ, i64_w, i32_w, IntKind.wrap_u32, IntKind.wrap_u8, IntKind.wrap_u16]
    rfl
  refine take_ (i := 2) (N := some 54) (v := ?_) (a' := ?_) #[true, true, true, true, true, false, true, false, true, false, false, false, true, false, false, false, true, true, false, false, false, false, false] rfl rfl (by kernel_rfl) (fun _ _ _ h => h) (Or.inl ⟨by rfl, ?_⟩) hHeld ?_ ?_
  rotate_left
  · rintro w' ⟨s0, s1, s2, s3, s4, s5⟩
    go_simp
    with_reducible rfl
  rotate_left
  · simp only [Act.put, List.setIfInBounds_toArray, List.set_cons_zero, List.set_cons_succ, i64_w, i32_w, IntKind.wrap_u32, IntKind.wrap_u8, IntKind.wrap_u16]
    rfl
  refine take_ (i := 5) (N := some 57) (v := ?_) (a' := ?_) #[true, true, true, true, true, true, true, false, true, false, false, false, true, false, false, false, true, true, false, false, false, false, false] rfl rfl (by kernel_rfl) (fun _ _ _ h => h) (Or.inl ⟨by rfl, ?_⟩) hHeld ?_ ?_
  rotate_left
  · rintro w' ⟨s0, s1, s2, s3, s4, s5⟩
    go_simp
    with_reducible rfl
  rotate_left
  · simp only [Act.put, List.setIfInBounds_toArray, List.set_cons_zero, List.set_cons_succ, i64_w, i32_w, IntKind.wrap_u32, IntKind.wrap_u8, IntKind.wrap_u16]
    rfl
  refine take_ (i := 7) (N := some 59) (v := ?_) (a' := ?_) #[true, true, true, true, true, true, true, true, true, false, false, false, true, false, false, false, true, true, false, false, false, false, false] rfl rfl (by kernel_rfl) (fun _ _ _ h => h) (Or.inl ⟨by rfl, ?_⟩) hHeld ?_ ?_
  rotate_left
  · rintro w' ⟨s0, s1, s2, s3, s4, s5⟩
    go_simp
    with_reducible rfl
  rotate_left
  · simp only [Act.put, List.setIfInBounds_toArray, List.set_cons_zero, List.set_cons_succ, i64_w, i32_w, IntKind.wrap_u32, IntKind.wrap_u8, IntKind.wrap_u16]
    rfl
  refine take_ (i := 9) (N := some 61) (v := ?_) (a' := ?_) #[true, true, true, true, true, true, true, true, true, true, false, false, true, false, false, false, true, true, false, false, false, false, false] rfl rfl (by kernel_rfl) (fun _ _ _ h => h) (Or.inl ⟨by rfl, ?_⟩) hHeld ?_ ?_
  rotate_left
  · rintro w' ⟨s0, s1, s2, s3, s4, s5⟩
    go_simp
    with_reducible rfl
  rotate_left
  · simp only [Act.put, List.setIfInBounds_toArray, List.set_cons_zero, List.set_cons_succ, i64_w, i32_w, IntKind.wrap_u32, IntKind.wrap_u8, IntKind.wrap_u16]
    rfl
  refine take_ (i := 13) (N := some 65) (v := ?_) (a' := ?_) #[true, true, true, true, true, true, true, true, true, true, false, false, true, true, false, false, true, true, false, false, false, false, false] rfl rfl (by kernel_rfl) (fun _ _ _ h => h) (Or.inl ⟨by rfl, ?_⟩) hHeld ?_ ?_
  rotate_left
  · rintro w' ⟨s0, s1, s2, s3, s4, s5⟩
    go_simp
    with_reducible rfl
  rotate_left
  · simp only [Act.put, List.setIfInBounds_toArray, List.set_cons_zero, List.set_cons_succ, i64_w, i32_w, IntKind.wrap_u32, IntKind.wrap_u8, IntKind.wrap_u16]
    rfl
  refine take_ (i := 18) (N := some 70) (v := ?_) (a' := ?_) #[true, true, true, true, true, true, true, true, true, true, false, false, true, true, false, false, true, true, true, false, false, false, false] rfl rfl (by kernel_rfl) (fun _ _ _ h => h) (Or.inl ⟨by rfl, ?_⟩) hHeld ?_ ?_
  rotate_left
  · rintro w' ⟨s0, s1, s2, s3, s4, s5⟩
    go_simp
    with_reducible rfl
  rotate_left
  · simp only [Act.put, List.setIfInBounds_toArray, List.set_cons_zero, List.set_cons_succ, i64_w, i32_w, IntKind.wrap_u32, IntKind.wrap_u8, IntKind.wrap_u16]
    rfl
  refine pure_ (i := 19) (N := some 71) (v := ?_) (a' := ?_) #[true, true, true, true, true, true, true, true, true, true, false, false, true, true, false, false, true, true, true, true, false, false, false] rfl rfl (by kernel_rfl) (fun _ _ _ h => h) (Or.inl ⟨by rfl, ?_⟩) ?_ ?_
  rotate_left
  · intro w'
    go_simp
    with_reducible rfl
  rotate_left
  · simp only [Act.put, List.setIfInBounds_toArray, List.set_cons_zero, List.set_cons_succ, i64_w, i32_w, IntKind.wrap_u32, IntKind.wrap_u8, IntKind.wrap_u16]
    rfl
  refine join_ (σ := Nat) 1 #[true, true, true, true, true, true, true, true, true, true, true, true, true, true, true, true, true, true, true, true, true, true, false] (fun s_ => [(62, (Value.int .i64 ty)), (63, (Value.int .i64 (wrap64 (-ty)))), (66, (Value.int .i64 uy)), (67, (Value.int .i64 (wrap64 (-uy)))), (72, (Value.agg #[.int .i64 fy, .int .i64 (fy + ph)])), (10, (Value.pointer (some ⟨s_, 0, none⟩)))]) (fun s_ w' => SL w w' [cellsR w.heap.size 27 #[.int .i64 pw, .int .i64 ph, .int .i64 x0, .int .i64 y0, .int .i64 x1, .int .i64 y1, .int .i64 ae, .int .i64 gr, .int .i64 ad, .int .i64 ox, .int .i64 oy], cellsR (w.heap.size + 1) 23 #[.int .i64 b0, .int .i64 b1, .int .i64 b2, .int .i64 b3], cellsR (w.heap.size + 1 + 1) 23 #[.int .i64 0, .int .i64 0, .int .i64 0, .int .i64 0], cellsR n1 52 #[.int .i64 px, .int .i64 (px + pw)], cellsR n2 52 #[.int .i64 py, .int .i64 (py + ph)], cellsR n3 52 #[.int .i64 fx, .int .i64 (fx + pw)], cellsR s_ 52 #[.int .i64 0, .int .i64 0]]) ?_ ?_
  rotate_left
  · intro hCont
    refine two_ (i := 10) (j := 21) (Ni := some 62) (Nj := some 10) #[true, true, true, true, true, true, true, true, true, true, true, false, true, true, false, false, true, true, true, true, false, false, false] #[true, true, true, true, true, true, true, true, true, true, false, false, true, true, false, false, true, true, true, true, false, true, false] rfl rfl rfl rfl (by kernel_rfl) (by decide) (by decide) (fun K hK => ?_) (fun K hK => ?_)
    · skip
      refine goes_ Tryd.func28 (by kernel_rfl) rfl #[.int .i64 ae, .bool false] (by rfl) rfl rfl (by (try simp only [List.map_toArray, List.map_cons, List.map_nil]); first | done | rfl) ?_
      with_reducible refine (HSY.out (sl_drew HS.out)).mono ?_
      rintro e w10 ⟨rfl, hs10⟩
      refine ⟨_, rfl, ?_⟩
      refine hK.out _ _ ⟨(blk_cell (sl_blk hs10 0 rfl) 1).trans (show _ = some (Value.int .i64 ph) from rfl), (blk_cell (sl_blk hs10 0 rfl) 3).trans (show _ = some (Value.int .i64 y0) from rfl), (blk_cell (sl_blk hs10 0 rfl) 5).trans (show _ = some (Value.int .i64 y1) from rfl), (blk_cell (sl_blk hs10 0 rfl) 6).trans (show _ = some (Value.int .i64 ae) from rfl), (blk_cell (sl_blk hs10 0 rfl) 7).trans (show _ = some (Value.int .i64 gr) from rfl), (blk_cell (sl_blk hs10 0 rfl) 10).trans (show _ = some (Value.int .i64 oy) from rfl)⟩ (fun hHeld => ?_)
      clear hK K
      refine norm_ (a' := ?_) ?_ ?_
      rotate_left
      · show Act.put _ (some 62) _ = _
        simp only [Act.put, List.setIfInBounds_toArray, List.set_cons_zero, List.set_cons_succ, i64_w, i32_w, IntKind.wrap_u32, IntKind.wrap_u8, IntKind.wrap_u16]
        rfl
      refine pure_ (i := 11) (N := some 63) (v := ?_) (a' := ?_) #[true, true, true, true, true, true, true, true, true, true, true, true, true, true, false, false, true, true, true, true, false, false, false] rfl rfl (by kernel_rfl) (fun _ _ _ h => h) (Or.inl ⟨by rfl, ?_⟩) ?_ ?_
      rotate_left
      · intro w'
        go_simp
        with_reducible rfl
      rotate_left
      · simp only [Act.put, List.setIfInBounds_toArray, List.set_cons_zero, List.set_cons_succ, i64_w, i32_w, IntKind.wrap_u32, IntKind.wrap_u8, IntKind.wrap_u16]
        rfl
      refine two_ (i := 14) (j := 21) (Ni := some 66) (Nj := some 10) #[true, true, true, true, true, true, true, true, true, true, true, true, true, true, true, false, true, true, true, true, false, false, false] #[true, true, true, true, true, true, true, true, true, true, true, true, true, true, false, false, true, true, true, true, false, true, false] rfl rfl rfl rfl (by kernel_rfl) (by decide) (by decide) (fun K hK => ?_) (fun K hK => ?_)
      · skip
        refine goes_ Tryd.func28 (by kernel_rfl) rfl #[.int .i64 gr, .bool false] (by rfl) rfl rfl (by (try simp only [List.map_toArray, List.map_cons, List.map_nil]); first | done | rfl) ?_
        with_reducible refine (HSV.out hs10).mono ?_
        rintro e w14 ⟨rfl, hs14⟩
        refine ⟨_, rfl, ?_⟩
        refine hK.out _ _ ⟨(blk_cell (sl_blk hs14 0 rfl) 1).trans (show _ = some (Value.int .i64 ph) from rfl), (blk_cell (sl_blk hs14 0 rfl) 3).trans (show _ = some (Value.int .i64 y0) from rfl), (blk_cell (sl_blk hs14 0 rfl) 5).trans (show _ = some (Value.int .i64 y1) from rfl), (blk_cell (sl_blk hs14 0 rfl) 6).trans (show _ = some (Value.int .i64 ae) from rfl), (blk_cell (sl_blk hs14 0 rfl) 7).trans (show _ = some (Value.int .i64 gr) from rfl), (blk_cell (sl_blk hs14 0 rfl) 10).trans (show _ = some (Value.int .i64 oy) from rfl)⟩ (fun hHeld => ?_)
        clear hK K
        refine norm_ (a' := ?_) ?_ ?_
        rotate_left
        · show Act.put _ (some 66) _ = _
          simp only [Act.put, List.setIfInBounds_toArray, List.set_cons_zero, List.set_cons_succ, i64_w, i32_w, IntKind.wrap_u32, IntKind.wrap_u8, IntKind.wrap_u16]
          rfl
        refine pure_ (i := 15) (N := some 67) (v := ?_) (a' := ?_) #[true, true, true, true, true, true, true, true, true, true, true, true, true, true, true, true, true, true, true, true, false, false, false] rfl rfl (by kernel_rfl) (fun _ _ _ h => h) (Or.inl ⟨by rfl, ?_⟩) ?_ ?_
        rotate_left
        · intro w'
          go_simp
          with_reducible rfl
        rotate_left
        · simp only [Act.put, List.setIfInBounds_toArray, List.set_cons_zero, List.set_cons_succ, i64_w, i32_w, IntKind.wrap_u32, IntKind.wrap_u8, IntKind.wrap_u16]
          rfl
        refine two_ (i := 20) (j := 21) (Ni := some 72) (Nj := some 10) #[true, true, true, true, true, true, true, true, true, true, true, true, true, true, true, true, true, true, true, true, true, false, false] #[true, true, true, true, true, true, true, true, true, true, true, true, true, true, true, true, true, true, true, true, false, true, false] rfl rfl rfl rfl (by kernel_rfl) (by decide) (by decide) (fun K hK => ?_) (fun K hK => ?_)
        · skip
          refine goes_ Tryd.func35 (by kernel_rfl) rfl #[.int .i64 y0, .int .i64 y1, .int .i64 ph, .int .i64 (wrap64 (-ty)), .int .i64 (wrap64 (-uy)), .int .i64 (wrap64 (-oy))] (by rfl) rfl rfl (by (try simp only [List.map_toArray, List.map_cons, List.map_nil]); first | done | rfl) ?_
          with_reducible refine (HPY.out hs14).mono ?_
          rintro e w20 ⟨rfl, hs20⟩
          refine ⟨_, rfl, ?_⟩
          refine hK.out _ _ ⟨(blk_cell (sl_blk hs20 0 rfl) 1).trans (show _ = some (Value.int .i64 ph) from rfl), (blk_cell (sl_blk hs20 0 rfl) 3).trans (show _ = some (Value.int .i64 y0) from rfl), (blk_cell (sl_blk hs20 0 rfl) 5).trans (show _ = some (Value.int .i64 y1) from rfl), (blk_cell (sl_blk hs20 0 rfl) 6).trans (show _ = some (Value.int .i64 ae) from rfl), (blk_cell (sl_blk hs20 0 rfl) 7).trans (show _ = some (Value.int .i64 gr) from rfl), (blk_cell (sl_blk hs20 0 rfl) 10).trans (show _ = some (Value.int .i64 oy) from rfl)⟩ (fun hHeld => ?_)
          clear hK K
          refine norm_ (a' := ?_) ?_ ?_
          rotate_left
          · show Act.put _ (some 72) _ = _
            simp only [Act.put, List.setIfInBounds_toArray, List.set_cons_zero, List.set_cons_succ, i64_w, i32_w, IntKind.wrap_u32, IntKind.wrap_u8, IntKind.wrap_u16]
            rfl
          refine one_ (i := 21) (N := some 10) #[true, true, true, true, true, true, true, true, true, true, true, true, true, true, true, true, true, true, true, true, true, true, false] rfl rfl (by kernel_rfl) (by decide) (fun K hK => ?_)
          refine box_step ?hg (N := 10) ?hd (cs := #[.int .i64 0, .int .i64 0]) (t := 52) ?hr ?_; (case hd => rfl); (case hg => rfl); (case hr => first | (go_simp; done) | (go_simp; rfl))
          intro gn hgn w4 hbox hb
          have hsAl := sl_box' hs20 hb (Nat.le_of_eq hgn.symm) hbox
          refine hK.out _ _ ⟨(blk_cell (sl_blk hsAl 0 rfl) 1).trans (show _ = some (Value.int .i64 ph) from rfl), (blk_cell (sl_blk hsAl 0 rfl) 3).trans (show _ = some (Value.int .i64 y0) from rfl), (blk_cell (sl_blk hsAl 0 rfl) 5).trans (show _ = some (Value.int .i64 y1) from rfl), (blk_cell (sl_blk hsAl 0 rfl) 6).trans (show _ = some (Value.int .i64 ae) from rfl), (blk_cell (sl_blk hsAl 0 rfl) 7).trans (show _ = some (Value.int .i64 gr) from rfl), (blk_cell (sl_blk hsAl 0 rfl) 10).trans (show _ = some (Value.int .i64 oy) from rfl)⟩ (fun hHeld => ?_)
          clear hK K
          refine norm_ (a' := ?_) ?_ ?_
          rotate_left
          · show Act.put _ (some 10) _ = _
            simp only [Act.put, List.setIfInBounds_toArray, List.set_cons_zero, List.set_cons_succ, i64_w, i32_w, IntKind.wrap_u32, IntKind.wrap_u8, IntKind.wrap_u16]
            rfl
          exact norm_ (by simp only [putAll, Act.put, List.setIfInBounds_toArray, List.set_cons_zero, List.set_cons_succ]) (hCont gn _ hsAl)
        · skip
          refine box_step ?hg (N := 10) ?hd (cs := #[.int .i64 0, .int .i64 0]) (t := 52) ?hr ?_; (case hd => rfl); (case hg => rfl); (case hr => first | (go_simp; done) | (go_simp; rfl))
          intro gn hgn w4 hbox hb
          have hsAl := sl_box' hs14 hb (Nat.le_of_eq hgn.symm) hbox
          refine hK.out _ _ ⟨(blk_cell (sl_blk hsAl 0 rfl) 1).trans (show _ = some (Value.int .i64 ph) from rfl), (blk_cell (sl_blk hsAl 0 rfl) 3).trans (show _ = some (Value.int .i64 y0) from rfl), (blk_cell (sl_blk hsAl 0 rfl) 5).trans (show _ = some (Value.int .i64 y1) from rfl), (blk_cell (sl_blk hsAl 0 rfl) 6).trans (show _ = some (Value.int .i64 ae) from rfl), (blk_cell (sl_blk hsAl 0 rfl) 7).trans (show _ = some (Value.int .i64 gr) from rfl), (blk_cell (sl_blk hsAl 0 rfl) 10).trans (show _ = some (Value.int .i64 oy) from rfl)⟩ (fun hHeld => ?_)
          clear hK K
          refine norm_ (a' := ?_) ?_ ?_
          rotate_left
          · show Act.put _ (some 10) _ = _
            simp only [Act.put, List.setIfInBounds_toArray, List.set_cons_zero, List.set_cons_succ, i64_w, i32_w, IntKind.wrap_u32, IntKind.wrap_u8, IntKind.wrap_u16]
            rfl
          refine one_ (i := 20) (N := some 72) #[true, true, true, true, true, true, true, true, true, true, true, true, true, true, true, true, true, true, true, true, true, true, false] rfl rfl (by kernel_rfl) (by decide) (fun K hK => ?_)
          refine goes_ Tryd.func35 (by kernel_rfl) rfl #[.int .i64 y0, .int .i64 y1, .int .i64 ph, .int .i64 (wrap64 (-ty)), .int .i64 (wrap64 (-uy)), .int .i64 (wrap64 (-oy))] (by rfl) rfl rfl (by (try simp only [List.map_toArray, List.map_cons, List.map_nil]); first | done | rfl) ?_
          with_reducible refine (HPY.out hsAl).mono ?_
          rintro e w20 ⟨rfl, hs20⟩
          refine ⟨_, rfl, ?_⟩
          refine hK.out _ _ ⟨(blk_cell (sl_blk hs20 0 rfl) 1).trans (show _ = some (Value.int .i64 ph) from rfl), (blk_cell (sl_blk hs20 0 rfl) 3).trans (show _ = some (Value.int .i64 y0) from rfl), (blk_cell (sl_blk hs20 0 rfl) 5).trans (show _ = some (Value.int .i64 y1) from rfl), (blk_cell (sl_blk hs20 0 rfl) 6).trans (show _ = some (Value.int .i64 ae) from rfl), (blk_cell (sl_blk hs20 0 rfl) 7).trans (show _ = some (Value.int .i64 gr) from rfl), (blk_cell (sl_blk hs20 0 rfl) 10).trans (show _ = some (Value.int .i64 oy) from rfl)⟩ (fun hHeld => ?_)
          clear hK K
          refine norm_ (a' := ?_) ?_ ?_
          rotate_left
          · show Act.put _ (some 72) _ = _
            simp only [Act.put, List.setIfInBounds_toArray, List.set_cons_zero, List.set_cons_succ, i64_w, i32_w, IntKind.wrap_u32, IntKind.wrap_u8, IntKind.wrap_u16]
            rfl
          exact norm_ (by simp only [putAll, Act.put, List.setIfInBounds_toArray, List.set_cons_zero, List.set_cons_succ]) (hCont gn _ hs20)
      · skip
        refine box_step ?hg (N := 10) ?hd (cs := #[.int .i64 0, .int .i64 0]) (t := 52) ?hr ?_; (case hd => rfl); (case hg => rfl); (case hr => first | (go_simp; done) | (go_simp; rfl))
        intro gn hgn w4 hbox hb
        have hsAl := sl_box' hs10 hb (Nat.le_of_eq hgn.symm) hbox
        refine hK.out _ _ ⟨(blk_cell (sl_blk hsAl 0 rfl) 1).trans (show _ = some (Value.int .i64 ph) from rfl), (blk_cell (sl_blk hsAl 0 rfl) 3).trans (show _ = some (Value.int .i64 y0) from rfl), (blk_cell (sl_blk hsAl 0 rfl) 5).trans (show _ = some (Value.int .i64 y1) from rfl), (blk_cell (sl_blk hsAl 0 rfl) 6).trans (show _ = some (Value.int .i64 ae) from rfl), (blk_cell (sl_blk hsAl 0 rfl) 7).trans (show _ = some (Value.int .i64 gr) from rfl), (blk_cell (sl_blk hsAl 0 rfl) 10).trans (show _ = some (Value.int .i64 oy) from rfl)⟩ (fun hHeld => ?_)
        clear hK K
        refine norm_ (a' := ?_) ?_ ?_
        rotate_left
        · show Act.put _ (some 10) _ = _
          simp only [Act.put, List.setIfInBounds_toArray, List.set_cons_zero, List.set_cons_succ, i64_w, i32_w, IntKind.wrap_u32, IntKind.wrap_u8, IntKind.wrap_u16]
          rfl
        refine one_ (i := 14) (N := some 66) #[true, true, true, true, true, true, true, true, true, true, true, true, true, true, true, false, true, true, true, true, false, true, false] rfl rfl (by kernel_rfl) (by decide) (fun K hK => ?_)
        refine goes_ Tryd.func28 (by kernel_rfl) rfl #[.int .i64 gr, .bool false] (by rfl) rfl rfl (by (try simp only [List.map_toArray, List.map_cons, List.map_nil]); first | done | rfl) ?_
        with_reducible refine (HSV.out hsAl).mono ?_
        rintro e w14 ⟨rfl, hs14⟩
        refine ⟨_, rfl, ?_⟩
        refine hK.out _ _ ⟨(blk_cell (sl_blk hs14 0 rfl) 1).trans (show _ = some (Value.int .i64 ph) from rfl), (blk_cell (sl_blk hs14 0 rfl) 3).trans (show _ = some (Value.int .i64 y0) from rfl), (blk_cell (sl_blk hs14 0 rfl) 5).trans (show _ = some (Value.int .i64 y1) from rfl), (blk_cell (sl_blk hs14 0 rfl) 6).trans (show _ = some (Value.int .i64 ae) from rfl), (blk_cell (sl_blk hs14 0 rfl) 7).trans (show _ = some (Value.int .i64 gr) from rfl), (blk_cell (sl_blk hs14 0 rfl) 10).trans (show _ = some (Value.int .i64 oy) from rfl)⟩ (fun hHeld => ?_)
        clear hK K
        refine norm_ (a' := ?_) ?_ ?_
        rotate_left
        · show Act.put _ (some 66) _ = _
          simp only [Act.put, List.setIfInBounds_toArray, List.set_cons_zero, List.set_cons_succ, i64_w, i32_w, IntKind.wrap_u32, IntKind.wrap_u8, IntKind.wrap_u16]
          rfl
        refine pure_ (i := 15) (N := some 67) (v := ?_) (a' := ?_) #[true, true, true, true, true, true, true, true, true, true, true, true, true, true, true, true, true, true, true, true, false, true, false] rfl rfl (by kernel_rfl) (fun _ _ _ h => h) (Or.inl ⟨by rfl, ?_⟩) ?_ ?_
        rotate_left
        · intro w'
          go_simp
          with_reducible rfl
        rotate_left
        · simp only [Act.put, List.setIfInBounds_toArray, List.set_cons_zero, List.set_cons_succ, i64_w, i32_w, IntKind.wrap_u32, IntKind.wrap_u8, IntKind.wrap_u16]
          rfl
        refine one_ (i := 20) (N := some 72) #[true, true, true, true, true, true, true, true, true, true, true, true, true, true, true, true, true, true, true, true, true, true, false] rfl rfl (by kernel_rfl) (by decide) (fun K hK => ?_)
        refine goes_ Tryd.func35 (by kernel_rfl) rfl #[.int .i64 y0, .int .i64 y1, .int .i64 ph, .int .i64 (wrap64 (-ty)), .int .i64 (wrap64 (-uy)), .int .i64 (wrap64 (-oy))] (by rfl) rfl rfl (by (try simp only [List.map_toArray, List.map_cons, List.map_nil]); first | done | rfl) ?_
        with_reducible refine (HPY.out hs14).mono ?_
        rintro e w20 ⟨rfl, hs20⟩
        refine ⟨_, rfl, ?_⟩
        refine hK.out _ _ ⟨(blk_cell (sl_blk hs20 0 rfl) 1).trans (show _ = some (Value.int .i64 ph) from rfl), (blk_cell (sl_blk hs20 0 rfl) 3).trans (show _ = some (Value.int .i64 y0) from rfl), (blk_cell (sl_blk hs20 0 rfl) 5).trans (show _ = some (Value.int .i64 y1) from rfl), (blk_cell (sl_blk hs20 0 rfl) 6).trans (show _ = some (Value.int .i64 ae) from rfl), (blk_cell (sl_blk hs20 0 rfl) 7).trans (show _ = some (Value.int .i64 gr) from rfl), (blk_cell (sl_blk hs20 0 rfl) 10).trans (show _ = some (Value.int .i64 oy) from rfl)⟩ (fun hHeld => ?_)
        clear hK K
        refine norm_ (a' := ?_) ?_ ?_
        rotate_left
        · show Act.put _ (some 72) _ = _
          simp only [Act.put, List.setIfInBounds_toArray, List.set_cons_zero, List.set_cons_succ, i64_w, i32_w, IntKind.wrap_u32, IntKind.wrap_u8, IntKind.wrap_u16]
          rfl
        exact norm_ (by simp only [putAll, Act.put, List.setIfInBounds_toArray, List.set_cons_zero, List.set_cons_succ]) (hCont gn _ hs20)
    · skip
      refine box_step ?hg (N := 10) ?hd (cs := #[.int .i64 0, .int .i64 0]) (t := 52) ?hr ?_; (case hd => rfl); (case hg => rfl); (case hr => first | (go_simp; done) | (go_simp; rfl))
      intro gn hgn w4 hbox hb
      have hsAl := sl_box' (sl_drew HS.out) hb (Nat.le_of_eq hgn.symm) hbox
      refine hK.out _ _ ⟨(blk_cell (sl_blk hsAl 0 rfl) 1).trans (show _ = some (Value.int .i64 ph) from rfl), (blk_cell (sl_blk hsAl 0 rfl) 3).trans (show _ = some (Value.int .i64 y0) from rfl), (blk_cell (sl_blk hsAl 0 rfl) 5).trans (show _ = some (Value.int .i64 y1) from rfl), (blk_cell (sl_blk hsAl 0 rfl) 6).trans (show _ = some (Value.int .i64 ae) from rfl), (blk_cell (sl_blk hsAl 0 rfl) 7).trans (show _ = some (Value.int .i64 gr) from rfl), (blk_cell (sl_blk hsAl 0 rfl) 10).trans (show _ = some (Value.int .i64 oy) from rfl)⟩ (fun hHeld => ?_)
      clear hK K
      refine norm_ (a' := ?_) ?_ ?_
      rotate_left
      · show Act.put _ (some 10) _ = _
        simp only [Act.put, List.setIfInBounds_toArray, List.set_cons_zero, List.set_cons_succ, i64_w, i32_w, IntKind.wrap_u32, IntKind.wrap_u8, IntKind.wrap_u16]
        rfl
      refine one_ (i := 10) (N := some 62) #[true, true, true, true, true, true, true, true, true, true, true, false, true, true, false, false, true, true, true, true, false, true, false] rfl rfl (by kernel_rfl) (by decide) (fun K hK => ?_)
      refine goes_ Tryd.func28 (by kernel_rfl) rfl #[.int .i64 ae, .bool false] (by rfl) rfl rfl (by (try simp only [List.map_toArray, List.map_cons, List.map_nil]); first | done | rfl) ?_
      with_reducible refine (HSY.out hsAl).mono ?_
      rintro e w10 ⟨rfl, hs10⟩
      refine ⟨_, rfl, ?_⟩
      refine hK.out _ _ ⟨(blk_cell (sl_blk hs10 0 rfl) 1).trans (show _ = some (Value.int .i64 ph) from rfl), (blk_cell (sl_blk hs10 0 rfl) 3).trans (show _ = some (Value.int .i64 y0) from rfl), (blk_cell (sl_blk hs10 0 rfl) 5).trans (show _ = some (Value.int .i64 y1) from rfl), (blk_cell (sl_blk hs10 0 rfl) 6).trans (show _ = some (Value.int .i64 ae) from rfl), (blk_cell (sl_blk hs10 0 rfl) 7).trans (show _ = some (Value.int .i64 gr) from rfl), (blk_cell (sl_blk hs10 0 rfl) 10).trans (show _ = some (Value.int .i64 oy) from rfl)⟩ (fun hHeld => ?_)
      clear hK K
      refine norm_ (a' := ?_) ?_ ?_
      rotate_left
      · show Act.put _ (some 62) _ = _
        simp only [Act.put, List.setIfInBounds_toArray, List.set_cons_zero, List.set_cons_succ, i64_w, i32_w, IntKind.wrap_u32, IntKind.wrap_u8, IntKind.wrap_u16]
        rfl
      refine pure_ (i := 11) (N := some 63) (v := ?_) (a' := ?_) #[true, true, true, true, true, true, true, true, true, true, true, true, true, true, false, false, true, true, true, true, false, true, false] rfl rfl (by kernel_rfl) (fun _ _ _ h => h) (Or.inl ⟨by rfl, ?_⟩) ?_ ?_
      rotate_left
      · intro w'
        go_simp
        with_reducible rfl
      rotate_left
      · simp only [Act.put, List.setIfInBounds_toArray, List.set_cons_zero, List.set_cons_succ, i64_w, i32_w, IntKind.wrap_u32, IntKind.wrap_u8, IntKind.wrap_u16]
        rfl
      refine one_ (i := 14) (N := some 66) #[true, true, true, true, true, true, true, true, true, true, true, true, true, true, true, false, true, true, true, true, false, true, false] rfl rfl (by kernel_rfl) (by decide) (fun K hK => ?_)
      refine goes_ Tryd.func28 (by kernel_rfl) rfl #[.int .i64 gr, .bool false] (by rfl) rfl rfl (by (try simp only [List.map_toArray, List.map_cons, List.map_nil]); first | done | rfl) ?_
      with_reducible refine (HSV.out hs10).mono ?_
      rintro e w14 ⟨rfl, hs14⟩
      refine ⟨_, rfl, ?_⟩
      refine hK.out _ _ ⟨(blk_cell (sl_blk hs14 0 rfl) 1).trans (show _ = some (Value.int .i64 ph) from rfl), (blk_cell (sl_blk hs14 0 rfl) 3).trans (show _ = some (Value.int .i64 y0) from rfl), (blk_cell (sl_blk hs14 0 rfl) 5).trans (show _ = some (Value.int .i64 y1) from rfl), (blk_cell (sl_blk hs14 0 rfl) 6).trans (show _ = some (Value.int .i64 ae) from rfl), (blk_cell (sl_blk hs14 0 rfl) 7).trans (show _ = some (Value.int .i64 gr) from rfl), (blk_cell (sl_blk hs14 0 rfl) 10).trans (show _ = some (Value.int .i64 oy) from rfl)⟩ (fun hHeld => ?_)
      clear hK K
      refine norm_ (a' := ?_) ?_ ?_
      rotate_left
      · show Act.put _ (some 66) _ = _
        simp only [Act.put, List.setIfInBounds_toArray, List.set_cons_zero, List.set_cons_succ, i64_w, i32_w, IntKind.wrap_u32, IntKind.wrap_u8, IntKind.wrap_u16]
        rfl
      refine pure_ (i := 15) (N := some 67) (v := ?_) (a' := ?_) #[true, true, true, true, true, true, true, true, true, true, true, true, true, true, true, true, true, true, true, true, false, true, false] rfl rfl (by kernel_rfl) (fun _ _ _ h => h) (Or.inl ⟨by rfl, ?_⟩) ?_ ?_
      rotate_left
      · intro w'
        go_simp
        with_reducible rfl
      rotate_left
      · simp only [Act.put, List.setIfInBounds_toArray, List.set_cons_zero, List.set_cons_succ, i64_w, i32_w, IntKind.wrap_u32, IntKind.wrap_u8, IntKind.wrap_u16]
        rfl
      refine one_ (i := 20) (N := some 72) #[true, true, true, true, true, true, true, true, true, true, true, true, true, true, true, true, true, true, true, true, true, true, false] rfl rfl (by kernel_rfl) (by decide) (fun K hK => ?_)
      refine goes_ Tryd.func35 (by kernel_rfl) rfl #[.int .i64 y0, .int .i64 y1, .int .i64 ph, .int .i64 (wrap64 (-ty)), .int .i64 (wrap64 (-uy)), .int .i64 (wrap64 (-oy))] (by rfl) rfl rfl (by (try simp only [List.map_toArray, List.map_cons, List.map_nil]); first | done | rfl) ?_
      with_reducible refine (HPY.out hs14).mono ?_
      rintro e w20 ⟨rfl, hs20⟩
      refine ⟨_, rfl, ?_⟩
      refine hK.out _ _ ⟨(blk_cell (sl_blk hs20 0 rfl) 1).trans (show _ = some (Value.int .i64 ph) from rfl), (blk_cell (sl_blk hs20 0 rfl) 3).trans (show _ = some (Value.int .i64 y0) from rfl), (blk_cell (sl_blk hs20 0 rfl) 5).trans (show _ = some (Value.int .i64 y1) from rfl), (blk_cell (sl_blk hs20 0 rfl) 6).trans (show _ = some (Value.int .i64 ae) from rfl), (blk_cell (sl_blk hs20 0 rfl) 7).trans (show _ = some (Value.int .i64 gr) from rfl), (blk_cell (sl_blk hs20 0 rfl) 10).trans (show _ = some (Value.int .i64 oy) from rfl)⟩ (fun hHeld => ?_)
      clear hK K
      refine norm_ (a' := ?_) ?_ ?_
      rotate_left
      · show Act.put _ (some 72) _ = _
        simp only [Act.put, List.setIfInBounds_toArray, List.set_cons_zero, List.set_cons_succ, i64_w, i32_w, IntKind.wrap_u32, IntKind.wrap_u8, IntKind.wrap_u16]
        rfl
      exact norm_ (by simp only [putAll, Act.put, List.setIfInBounds_toArray, List.set_cons_zero, List.set_cons_succ]) (hCont gn _ hs20)
  intro gn w7 hs7
  have hHeld : w7.cell? ⟨w.heap.size, 1, none⟩ = some (.int .i64 ph) ∧ w7.cell? ⟨w.heap.size, 3, none⟩ = some (.int .i64 y0) ∧ w7.cell? ⟨w.heap.size, 5, none⟩ = some (.int .i64 y1) ∧ w7.cell? ⟨w.heap.size, 6, none⟩ = some (.int .i64 ae) ∧ w7.cell? ⟨w.heap.size, 7, none⟩ = some (.int .i64 gr) ∧ w7.cell? ⟨w.heap.size, 10, none⟩ = some (.int .i64 oy) := ⟨(blk_cell (sl_blk hs7 0 rfl) 1).trans (show _ = some (Value.int .i64 ph) from rfl), (blk_cell (sl_blk hs7 0 rfl) 3).trans (show _ = some (Value.int .i64 y0) from rfl), (blk_cell (sl_blk hs7 0 rfl) 5).trans (show _ = some (Value.int .i64 y1) from rfl), (blk_cell (sl_blk hs7 0 rfl) 6).trans (show _ = some (Value.int .i64 ae) from rfl), (blk_cell (sl_blk hs7 0 rfl) 7).trans (show _ = some (Value.int .i64 gr) from rfl), (blk_cell (sl_blk hs7 0 rfl) 10).trans (show _ = some (Value.int .i64 oy) from rfl)⟩
  have hz_ := blk_lt (sl_blk hs7 6 rfl)
  have z0 := (blk_cell (sl_blk hs7 6 rfl) 0).trans (show _ = some (Value.int .i64 0) from rfl)
  have z1 := (blk_cell (sl_blk hs7 6 rfl) 1).trans (show _ = some (Value.int .i64 0) from rfl)
  have zf0 := blk_frozen (sl_blk hs7 6 rfl) 0
  have zf1 := blk_frozen (sl_blk hs7 6 rfl) 1
  refine norm_ (a' := ?_) ?_ ?_
  rotate_left
  · simp only [putAll, Act.put, List.setIfInBounds_toArray, List.set_cons_zero, List.set_cons_succ]
    rfl
  refine last_ (i := 22) (N := none) #[true, true, true, true, true, true, true, true, true, true, true, true, true, true, true, true, true, true, true, true, true, true, true] rfl rfl (by kernel_rfl) (by decide) (fun K hK => ?_)
  refine skip_ (w1 := ?_) (by rfl) rfl ?_ ?_
  rotate_left
  · go_simp
    rfl
  refine hK.out _ _ ?_
  clear hK K
  refine done_ (by kernel_rfl) ?_
  go_upto_region 9 with (fail)
  refine world_gen (F := fun w_ => Code.wp Tryd.prog _ _ _ w_) (fun w_ => SL w w_ [cellsR w.heap.size 27 #[.int .i64 pw, .int .i64 ph, .int .i64 x0, .int .i64 y0, .int .i64 x1, .int .i64 y1, .int .i64 ae, .int .i64 gr, .int .i64 ad, .int .i64 ox, .int .i64 oy], cellsR (w.heap.size + 1) 23 #[.int .i64 b0, .int .i64 b1, .int .i64 b2, .int .i64 b3], cellsR (w.heap.size + 1 + 1) 23 #[.int .i64 0, .int .i64 0, .int .i64 0, .int .i64 0], cellsR n1 52 #[.int .i64 px, .int .i64 (px + pw)], cellsR n2 52 #[.int .i64 py, .int .i64 (py + ph)], cellsR n3 52 #[.int .i64 fx, .int .i64 (fx + pw)], cellsR gn 52 #[.int .i64 fy, .int .i64 (fy + ph)]]) ?hP ?_
  case hP =>
    have hs := sl_put (sl_put hs7 6 rfl 0 (Value.int .i64 fy)) 6 rfl 1 (Value.int .i64 (fy + ph))
    (try simp only [World.size_alloc] at hs)
    exact hs
  clear hz_ z0 z1 zf0 zf1 hHeld
  intro w9 hs
  generalize gn = n4 at hs ⊢
  replace HS := Aside0.mk hs
  clear hs
  clear hs7
  have c0_0 := c_at HS.out 0 rfl 0 rfl
  have c0_1 := c_at HS.out 0 rfl 1 rfl
  have c0_2 := c_at HS.out 0 rfl 2 rfl
  have c0_3 := c_at HS.out 0 rfl 3 rfl
  have c0_4 := c_at HS.out 0 rfl 4 rfl
  have c0_5 := c_at HS.out 0 rfl 5 rfl
  have c0_6 := c_at HS.out 0 rfl 6 rfl
  have c0_7 := c_at HS.out 0 rfl 7 rfl
  have c0_8 := c_at HS.out 0 rfl 8 rfl
  have c0_9 := c_at HS.out 0 rfl 9 rfl
  have c0_10 := c_at HS.out 0 rfl 10 rfl
  have ltc0 := blk_lt (sl_blk HS.out 0 rfl)
  have c1_0 := c_at HS.out 1 rfl 0 rfl
  have c1_1 := c_at HS.out 1 rfl 1 rfl
  have c1_2 := c_at HS.out 1 rfl 2 rfl
  have c1_3 := c_at HS.out 1 rfl 3 rfl
  have ltc1 := blk_lt (sl_blk HS.out 1 rfl)
  have c2_0 := c_at HS.out 2 rfl 0 rfl
  have c2_1 := c_at HS.out 2 rfl 1 rfl
  have c2_2 := c_at HS.out 2 rfl 2 rfl
  have c2_3 := c_at HS.out 2 rfl 3 rfl
  have ltc2 := blk_lt (sl_blk HS.out 2 rfl)
  have fzc2_0 := f_at HS.out 2 rfl 0
  have fzc2_1 := f_at HS.out 2 rfl 1
  have fzc2_2 := f_at HS.out 2 rfl 2
  have fzc2_3 := f_at HS.out 2 rfl 3
  have c3_0 := c_at HS.out 3 rfl 0 rfl
  have c3_1 := c_at HS.out 3 rfl 1 rfl
  have ltc3 := blk_lt (sl_blk HS.out 3 rfl)
  have c4_0 := c_at HS.out 4 rfl 0 rfl
  have c4_1 := c_at HS.out 4 rfl 1 rfl
  have ltc4 := blk_lt (sl_blk HS.out 4 rfl)
  have c5_0 := c_at HS.out 5 rfl 0 rfl
  have c5_1 := c_at HS.out 5 rfl 1 rfl
  have ltc5 := blk_lt (sl_blk HS.out 5 rfl)
  have c6_0 := c_at HS.out 6 rfl 0 rfl
  have c6_1 := c_at HS.out 6 rfl 1 rfl
  have ltc6 := blk_lt (sl_blk HS.out 6 rfl)
  go_wp2_with (first
    | (go_at_call 36; with_reducible refine (HRX.out (by repeat (with_reducible first | exact HS.out | apply sl_drewN | apply sl_drew | apply sl_box))).mono ?_; rintro e w1 ⟨rfl, hs⟩; (try simp only [World.size_alloc] at hs); replace HS := Aside0.mk hs; clear hs; have c0_0 := c_at HS.out 0 rfl 0 rfl; have c0_1 := c_at HS.out 0 rfl 1 rfl; have c0_2 := c_at HS.out 0 rfl 2 rfl; have c0_3 := c_at HS.out 0 rfl 3 rfl; have c0_4 := c_at HS.out 0 rfl 4 rfl; have c0_5 := c_at HS.out 0 rfl 5 rfl; have c0_6 := c_at HS.out 0 rfl 6 rfl; have c0_7 := c_at HS.out 0 rfl 7 rfl; have c0_8 := c_at HS.out 0 rfl 8 rfl; have c0_9 := c_at HS.out 0 rfl 9 rfl; have c0_10 := c_at HS.out 0 rfl 10 rfl; have ltc0 := blk_lt (sl_blk HS.out 0 rfl); have c1_0 := c_at HS.out 1 rfl 0 rfl; have c1_1 := c_at HS.out 1 rfl 1 rfl; have c1_2 := c_at HS.out 1 rfl 2 rfl; have c1_3 := c_at HS.out 1 rfl 3 rfl; have ltc1 := blk_lt (sl_blk HS.out 1 rfl); have c2_0 := c_at HS.out 2 rfl 0 rfl; have c2_1 := c_at HS.out 2 rfl 1 rfl; have c2_2 := c_at HS.out 2 rfl 2 rfl; have c2_3 := c_at HS.out 2 rfl 3 rfl; have ltc2 := blk_lt (sl_blk HS.out 2 rfl); have fzc2_0 := f_at HS.out 2 rfl 0; have fzc2_1 := f_at HS.out 2 rfl 1; have fzc2_2 := f_at HS.out 2 rfl 2; have fzc2_3 := f_at HS.out 2 rfl 3; have c3_0 := c_at HS.out 3 rfl 0 rfl; have c3_1 := c_at HS.out 3 rfl 1 rfl; have ltc3 := blk_lt (sl_blk HS.out 3 rfl); have c4_0 := c_at HS.out 4 rfl 0 rfl; have c4_1 := c_at HS.out 4 rfl 1 rfl; have ltc4 := blk_lt (sl_blk HS.out 4 rfl); have c5_0 := c_at HS.out 5 rfl 0 rfl; have c5_1 := c_at HS.out 5 rfl 1 rfl; have ltc5 := blk_lt (sl_blk HS.out 5 rfl); have c6_0 := c_at HS.out 6 rfl 0 rfl; have c6_1 := c_at HS.out 6 rfl 1 rfl; have ltc6 := blk_lt (sl_blk HS.out 6 rfl))
    | (go_at_call 36; with_reducible refine (HRY.out (by repeat (with_reducible first | exact HS.out | apply sl_drewN | apply sl_drew | apply sl_box))).mono ?_; rintro e w1 ⟨rfl, hs⟩; (try simp only [World.size_alloc] at hs); replace HS := Aside0.mk hs; clear hs; have c0_0 := c_at HS.out 0 rfl 0 rfl; have c0_1 := c_at HS.out 0 rfl 1 rfl; have c0_2 := c_at HS.out 0 rfl 2 rfl; have c0_3 := c_at HS.out 0 rfl 3 rfl; have c0_4 := c_at HS.out 0 rfl 4 rfl; have c0_5 := c_at HS.out 0 rfl 5 rfl; have c0_6 := c_at HS.out 0 rfl 6 rfl; have c0_7 := c_at HS.out 0 rfl 7 rfl; have c0_8 := c_at HS.out 0 rfl 8 rfl; have c0_9 := c_at HS.out 0 rfl 9 rfl; have c0_10 := c_at HS.out 0 rfl 10 rfl; have ltc0 := blk_lt (sl_blk HS.out 0 rfl); have c1_0 := c_at HS.out 1 rfl 0 rfl; have c1_1 := c_at HS.out 1 rfl 1 rfl; have c1_2 := c_at HS.out 1 rfl 2 rfl; have c1_3 := c_at HS.out 1 rfl 3 rfl; have ltc1 := blk_lt (sl_blk HS.out 1 rfl); have c2_0 := c_at HS.out 2 rfl 0 rfl; have c2_1 := c_at HS.out 2 rfl 1 rfl; have c2_2 := c_at HS.out 2 rfl 2 rfl; have c2_3 := c_at HS.out 2 rfl 3 rfl; have ltc2 := blk_lt (sl_blk HS.out 2 rfl); have fzc2_0 := f_at HS.out 2 rfl 0; have fzc2_1 := f_at HS.out 2 rfl 1; have fzc2_2 := f_at HS.out 2 rfl 2; have fzc2_3 := f_at HS.out 2 rfl 3; have c3_0 := c_at HS.out 3 rfl 0 rfl; have c3_1 := c_at HS.out 3 rfl 1 rfl; have ltc3 := blk_lt (sl_blk HS.out 3 rfl); have c4_0 := c_at HS.out 4 rfl 0 rfl; have c4_1 := c_at HS.out 4 rfl 1 rfl; have ltc4 := blk_lt (sl_blk HS.out 4 rfl); have c5_0 := c_at HS.out 5 rfl 0 rfl; have c5_1 := c_at HS.out 5 rfl 1 rfl; have ltc5 := blk_lt (sl_blk HS.out 5 rfl); have c6_0 := c_at HS.out 6 rfl 0 rfl; have c6_1 := c_at HS.out 6 rfl 1 rfl; have ltc6 := blk_lt (sl_blk HS.out 6 rfl))
    | (refine wpList_store_row rfl 52 (.tmp 7) (.tmp 93) rfl _ #[.int .i64 X1, .int .i64 X2] rfl rfl 52 #[.int .i64 px, .int .i64 (px + pw)] (sl_blk (by repeat (with_reducible first | exact HS.out | apply sl_drewN | apply sl_drew | apply sl_box)) 3 rfl) (by kernel_rfl) rfl (by simp [Value.oneCell']) ?_; have hs := sl_row (by repeat (with_reducible first | exact HS.out | apply sl_drewN | apply sl_drew | apply sl_box)) 3 rfl #[.int .i64 X1, .int .i64 X2]; (try simp only [World.size_alloc] at hs); replace HS := Aside0.mk hs; clear hs; have c0_0 := c_at HS.out 0 rfl 0 rfl; have c0_1 := c_at HS.out 0 rfl 1 rfl; have c0_2 := c_at HS.out 0 rfl 2 rfl; have c0_3 := c_at HS.out 0 rfl 3 rfl; have c0_4 := c_at HS.out 0 rfl 4 rfl; have c0_5 := c_at HS.out 0 rfl 5 rfl; have c0_6 := c_at HS.out 0 rfl 6 rfl; have c0_7 := c_at HS.out 0 rfl 7 rfl; have c0_8 := c_at HS.out 0 rfl 8 rfl; have c0_9 := c_at HS.out 0 rfl 9 rfl; have c0_10 := c_at HS.out 0 rfl 10 rfl; have ltc0 := blk_lt (sl_blk HS.out 0 rfl); have c1_0 := c_at HS.out 1 rfl 0 rfl; have c1_1 := c_at HS.out 1 rfl 1 rfl; have c1_2 := c_at HS.out 1 rfl 2 rfl; have c1_3 := c_at HS.out 1 rfl 3 rfl; have ltc1 := blk_lt (sl_blk HS.out 1 rfl); have c2_0 := c_at HS.out 2 rfl 0 rfl; have c2_1 := c_at HS.out 2 rfl 1 rfl; have c2_2 := c_at HS.out 2 rfl 2 rfl; have c2_3 := c_at HS.out 2 rfl 3 rfl; have ltc2 := blk_lt (sl_blk HS.out 2 rfl); have fzc2_0 := f_at HS.out 2 rfl 0; have fzc2_1 := f_at HS.out 2 rfl 1; have fzc2_2 := f_at HS.out 2 rfl 2; have fzc2_3 := f_at HS.out 2 rfl 3; have c3_0 := c_at HS.out 3 rfl 0 rfl; have c3_1 := c_at HS.out 3 rfl 1 rfl; have ltc3 := blk_lt (sl_blk HS.out 3 rfl); have c4_0 := c_at HS.out 4 rfl 0 rfl; have c4_1 := c_at HS.out 4 rfl 1 rfl; have ltc4 := blk_lt (sl_blk HS.out 4 rfl); have c5_0 := c_at HS.out 5 rfl 0 rfl; have c5_1 := c_at HS.out 5 rfl 1 rfl; have ltc5 := blk_lt (sl_blk HS.out 5 rfl); have c6_0 := c_at HS.out 6 rfl 0 rfl; have c6_1 := c_at HS.out 6 rfl 1 rfl; have ltc6 := blk_lt (sl_blk HS.out 6 rfl))
    | (refine wpList_store_row rfl 52 (.tmp 8) (.tmp 113) rfl _ #[.int .i64 Y1, .int .i64 Y2] rfl rfl 52 #[.int .i64 py, .int .i64 (py + ph)] (sl_blk (by repeat (with_reducible first | exact HS.out | apply sl_drewN | apply sl_drew | apply sl_box)) 4 rfl) (by kernel_rfl) rfl (by simp [Value.oneCell']) ?_; have hs := sl_row (by repeat (with_reducible first | exact HS.out | apply sl_drewN | apply sl_drew | apply sl_box)) 4 rfl #[.int .i64 Y1, .int .i64 Y2]; (try simp only [World.size_alloc] at hs); replace HS := Aside0.mk hs; clear hs; have c0_0 := c_at HS.out 0 rfl 0 rfl; have c0_1 := c_at HS.out 0 rfl 1 rfl; have c0_2 := c_at HS.out 0 rfl 2 rfl; have c0_3 := c_at HS.out 0 rfl 3 rfl; have c0_4 := c_at HS.out 0 rfl 4 rfl; have c0_5 := c_at HS.out 0 rfl 5 rfl; have c0_6 := c_at HS.out 0 rfl 6 rfl; have c0_7 := c_at HS.out 0 rfl 7 rfl; have c0_8 := c_at HS.out 0 rfl 8 rfl; have c0_9 := c_at HS.out 0 rfl 9 rfl; have c0_10 := c_at HS.out 0 rfl 10 rfl; have ltc0 := blk_lt (sl_blk HS.out 0 rfl); have c1_0 := c_at HS.out 1 rfl 0 rfl; have c1_1 := c_at HS.out 1 rfl 1 rfl; have c1_2 := c_at HS.out 1 rfl 2 rfl; have c1_3 := c_at HS.out 1 rfl 3 rfl; have ltc1 := blk_lt (sl_blk HS.out 1 rfl); have c2_0 := c_at HS.out 2 rfl 0 rfl; have c2_1 := c_at HS.out 2 rfl 1 rfl; have c2_2 := c_at HS.out 2 rfl 2 rfl; have c2_3 := c_at HS.out 2 rfl 3 rfl; have ltc2 := blk_lt (sl_blk HS.out 2 rfl); have fzc2_0 := f_at HS.out 2 rfl 0; have fzc2_1 := f_at HS.out 2 rfl 1; have fzc2_2 := f_at HS.out 2 rfl 2; have fzc2_3 := f_at HS.out 2 rfl 3; have c3_0 := c_at HS.out 3 rfl 0 rfl; have c3_1 := c_at HS.out 3 rfl 1 rfl; have ltc3 := blk_lt (sl_blk HS.out 3 rfl); have c4_0 := c_at HS.out 4 rfl 0 rfl; have c4_1 := c_at HS.out 4 rfl 1 rfl; have ltc4 := blk_lt (sl_blk HS.out 4 rfl); have c5_0 := c_at HS.out 5 rfl 0 rfl; have c5_1 := c_at HS.out 5 rfl 1 rfl; have ltc5 := blk_lt (sl_blk HS.out 5 rfl); have c6_0 := c_at HS.out 6 rfl 0 rfl; have c6_1 := c_at HS.out 6 rfl 1 rfl; have ltc6 := blk_lt (sl_blk HS.out 6 rfl)))
  have hfin := sl_put (sl_put (sl_put (sl_put HS.out 2 rfl 0 (Value.int .i64 X1)) 2 rfl 1 (Value.int .i64 Y1)) 2 rfl 2 (Value.int .i64 X2)) 2 rfl 3 (Value.int .i64 Y2)
  refine bodyPost_ret (results_ct rfl _ _ (w.heap.size + 1 + 1) 23 #[Value.int .i64 X1, Value.int .i64 Y1, Value.int .i64 X2, Value.int .i64 Y2] (0, 0) _ (by rfl) (by exact sl_blk hfin 2 rfl) (by exact Tryd.underlying23) (by rfl) (by kernel_rfl)) rfl ?_
  exact ⟨rfl, sl_below H.out (sl_below0 hfin)⟩
theorem ConR_c (h : SL w0 w L) (p : Pos) (b0 b1 b2 b3 : Int) : Calls Tryd.prog 19 #[.agg #[.int .i64 p.w, .int .i64 p.h, .int .i64 p.x0, .int .i64 p.y0, .int .i64 p.x1, .int .i64 p.y1, .int .i64 p.ae, .int .i64 p.gr, .int .i64 p.ad, .int .i64 p.ox, .int .i64 p.oy], .agg #[.int .i64 b0, .int .i64 b1, .int .i64 b2, .int .i64 b3]] w fun e w' => e = .returned (.tuple #[.agg #[.int .i64 (conV p b0 b1 b2 b3).1, .int .i64 (conV p b0 b1 b2 b3).2.1, .int .i64 (conV p b0 b1 b2 b3).2.2.1, .int .i64 (conV p b0 b1 b2 b3).2.2.2.1], .int .i64 (conV p b0 b1 b2 b3).2.2.2.2]) ∧ SL w0 w' L := by
  unfold conV
  by_cases hc : chk p = 0
  · rw [if_pos hc]
    cases hb : okrB b0 b1 b2 b3
    · exact ConR_empty h p b0 b1 b2 b3 hc hb
    · exact ConR_yes h p b0 b1 b2 b3 hc hb
  · rw [if_neg hc]
    exact ConR_no h p b0 b1 b2 b3 hc
end
end Go.Proofs.YtinchgipfaefbaaDoor.Q
