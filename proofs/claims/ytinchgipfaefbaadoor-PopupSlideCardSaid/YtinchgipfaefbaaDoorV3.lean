import Derived.Test.YtinchgipfaefbaaDoorV2
namespace Go.Proofs.YtinchgipfaefbaaDoor.Q
open Go.RowKit Go.Proofs.YtinchgipfaefbaaDoorW.PrintWords Go.Proofs.YtinchgipfaefbaaDoorW.PrintLast Go.Proofs.YtinchgipfaefbaaDoorW.PrintMore Go.Proofs.YtinchgipfaefbaaDoor.Sl Go.Proofs.YtinchgipfaefbaaDoor.Hand 
attribute [local go_sem] max2_int min2_int max_two min_two max_three min_three max_four min_four 
set_option linter.unusedVariables false
set_option linter.unusedSimpArgs false

/-- What the walks of adjust are told. -/
structure AH (a0 a1 len an gr off lo hi at_ fl : Int) : Prop where
  h0 : -16384 ≤ a0
  h1 : a0 ≤ 16384
  h2 : -16384 ≤ a1
  h3 : a1 ≤ 16384
  h4 : 1 ≤ len
  h5 : len ≤ 16384
  h6 : -16384 ≤ off
  h7 : off ≤ 16384
  ha : -1 ≤ an ∧ an ≤ 1
  hg : -1 ≤ gr ∧ gr ≤ 1
  l0 : -16384 ≤ lo
  l1 : lo < hi
  l2 : hi ≤ 16384
  eat : plc a0 a1 len an gr off = at_
  efl : plc a0 a1 len (-an) (-gr) (-off) = fl
theorem adj_pre (w : World) {a0 a1 len an gr off lo hi at_ fl : Int} (ah : AH a0 a1 len an gr off lo hi at_ fl) :
    (∀ {w' : World} {M : List Res}, SL w w' M → Calls Tryd.prog 30 #[.agg #[.int .i64 len, .int .i64 a0, .int .i64 a1, .int .i64 an, .int .i64 gr, .int .i64 off]] w' fun e w'' => e = .returned (.int .i64 at_) ∧ SL w w'' M) ∧
    (∀ {w' : World} {M : List Res}, SL w w' M → Calls Tryd.prog 30 #[.agg #[.int .i64 len, .int .i64 a0, .int .i64 a1, .int .i64 (-an), .int .i64 (-gr), .int .i64 (-off)]] w' fun e w'' => e = .returned (.int .i64 fl) ∧ SL w w'' M) ∧
    (∀ {w' : World} {M : List Res}, SL w w' M → Calls Tryd.prog 34 #[.agg #[.int .i64 len, .int .i64 a0, .int .i64 a1, .int .i64 an, .int .i64 gr, .int .i64 off]] w' fun e w'' => e = .returned (.agg #[.int .i64 len, .int .i64 a0, .int .i64 a1, .int .i64 (-an), .int .i64 (-gr), .int .i64 (-off)]) ∧ SL w w'' M) ∧
    (-100000 ≤ at_ ∧ at_ ≤ 100000) ∧ (-100000 ≤ fl ∧ fl ≤ 100000) ∧ wrap64 (at_ + len) = at_ + len ∧ wrap64 (fl + len) = fl + len ∧ wrap64 (hi - len) = hi - len ∧ wrap64 (lo + 1) = lo + 1 ∧ wrap64 (lo + len) = lo + len ∧ wrap64 (hi - 1) = hi - 1 := by
  obtain ⟨h0, h1, h2, h3, h4, h5, h6, h7, ha, hg, l0, l1, l2, eat, efl⟩ := ah
  have B1 := plc_lt a0 a1 len an gr off h0 h1 h2 h3 (by omega) h5 h6 h7
  have B2 := plc_lt a0 a1 len (-an) (-gr) (-off) h0 h1 h2 h3 (by omega) h5 (by omega) (by omega)
  rw [eat] at B1
  rw [efl] at B2
  exact ⟨fun hs => eat ▸ place_c hs a0 a1 len an gr off h0 h1 h2 h3 (by omega) h5 h6 h7, fun hs => efl ▸ place_c hs a0 a1 len (-an) (-gr) (-off) h0 h1 h2 h3 (by omega) h5 (by omega) (by omega), fun hs => flipped_c hs a0 a1 len an gr off ha hg ⟨h6, h7⟩,
    B1, B2, w64 (by omega) (by omega), w64 (by omega) (by omega), w64 (by omega) (by omega), w64 (by omega) (by omega), w64 (by omega) (by omega), w64 (by omega) (by omega)⟩

set_option maxHeartbeats 4000000 in
set_option maxRecDepth 100000 in
theorem adj_A {w0 w : World} {L : List Res} (h : SL w0 w L) (a0 a1 len an gr off b lo hi at_ fl : Int) (ah : AH a0 a1 len an gr off lo hi at_ fl) (f1 : fit lo hi len at_ = true) :
    Calls Tryd.prog 32 #[.agg #[.int .i64 len, .int .i64 a0, .int .i64 a1, .int .i64 an, .int .i64 gr, .int .i64 off], .int .i64 b, .int .i64 lo, .int .i64 hi] w fun e w' => e = .returned (.tuple #[.int .i64 (at_), .int .i64 (at_ + len)]) ∧ SL w0 w' L := by
  obtain ⟨hp1, hp2, hfl, ⟨b10, b11⟩, ⟨b20, b21⟩, wa, wf, wh, wl, wll, wi⟩ := adj_pre w ah
  obtain ⟨h0, h1, h2, h3, h4, h5, h6, h7, ha, hg, l0, l1, l2, eat, efl⟩ := ah
  have H := Aside0.mk h
  have HS := Aside0.mk (sl_start w)
  have HP1 := Aside0.mk @hp1
  have HP2 := Aside0.mk @hp2
  have HFl := Aside0.mk @hfl
  clear h eat efl ha hg hp1 hp2 hfl
  go_enter Tryd.func32, Tryd.ntmps32
  go_wp2_with (first
    | (go_at_call 30; (first | with_reducible refine (HP1.out (by repeat (with_reducible first | exact HS.out | apply sl_drewN | apply sl_drew | apply sl_box))).mono ?_ | with_reducible refine (HP2.out (by repeat (with_reducible first | exact HS.out | apply sl_drewN | apply sl_drew | apply sl_box))).mono ?_); rintro e w1 ⟨rfl, hs⟩; (try simp only [World.size_alloc] at hs); replace HS := Aside0.mk (show SL w w1 [cellsR w.heap.size 47 #[.int .i64 len, .int .i64 a0, .int .i64 a1, .int .i64 an, .int .i64 gr, .int .i64 off], cellsR (w.heap.size + 1) 3 #[.int .i64 lo], cellsR (w.heap.size + 1 + 1) 3 #[.int .i64 hi]] from hs); clear hs; have ca0 := c_at HS.out 0 rfl 0 rfl; have ca1 := c_at HS.out 0 rfl 1 rfl; have ca2 := c_at HS.out 0 rfl 2 rfl; have ca3 := c_at HS.out 0 rfl 3 rfl; have ca4 := c_at HS.out 0 rfl 4 rfl; have ca5 := c_at HS.out 0 rfl 5 rfl; have cl := c_at HS.out 1 rfl 0 rfl; have ch := c_at HS.out 2 rfl 0 rfl)
    | (go_at_call 34; refine (HFl.out (by repeat (with_reducible first | exact HS.out | apply sl_drewN | apply sl_drew | apply sl_box))).mono ?_; rintro e w1 ⟨rfl, hs⟩; (try simp only [World.size_alloc] at hs); replace HS := Aside0.mk (show SL w w1 [cellsR w.heap.size 47 #[.int .i64 len, .int .i64 a0, .int .i64 a1, .int .i64 an, .int .i64 gr, .int .i64 off], cellsR (w.heap.size + 1) 3 #[.int .i64 lo], cellsR (w.heap.size + 1 + 1) 3 #[.int .i64 hi]] from hs); clear hs; have ca0 := c_at HS.out 0 rfl 0 rfl; have ca1 := c_at HS.out 0 rfl 1 rfl; have ca2 := c_at HS.out 0 rfl 2 rfl; have ca3 := c_at HS.out 0 rfl 3 rfl; have ca4 := c_at HS.out 0 rfl 4 rfl; have ca5 := c_at HS.out 0 rfl 5 rfl; have cl := c_at HS.out 1 rfl 0 rfl; have ch := c_at HS.out 2 rfl 0 rfl)
    | (go_at_call 33; refine (fits_s _ _ _ _ lo hi len _ _ _ _ _ (by repeat (with_reducible first | exact HS.out | apply sl_drewN | apply sl_drew | apply sl_box)) (by omega) (by omega) (by omega) (by omega)).mono ?_; rintro e w1 ⟨rfl, hs⟩; (try simp only [World.size_alloc] at hs); replace HS := Aside0.mk (show SL w w1 [cellsR w.heap.size 47 #[.int .i64 len, .int .i64 a0, .int .i64 a1, .int .i64 an, .int .i64 gr, .int .i64 off], cellsR (w.heap.size + 1) 3 #[.int .i64 lo], cellsR (w.heap.size + 1 + 1) 3 #[.int .i64 hi]] from hs); clear hs; have ca0 := c_at HS.out 0 rfl 0 rfl; have ca1 := c_at HS.out 0 rfl 1 rfl; have ca2 := c_at HS.out 0 rfl 2 rfl; have ca3 := c_at HS.out 0 rfl 3 rfl; have ca4 := c_at HS.out 0 rfl 4 rfl; have ca5 := c_at HS.out 0 rfl 5 rfl; have cl := c_at HS.out 1 rfl 0 rfl; have ch := c_at HS.out 2 rfl 0 rfl))
  go_ret2
  exact ⟨rfl, sl_below H.out (sl_below0 (show SL w _ _ from (by repeat (with_reducible first | exact HS.out | apply sl_drewN | apply sl_drew | apply sl_box))))⟩

set_option maxHeartbeats 4000000 in
set_option maxRecDepth 100000 in
theorem adj_B {w0 w : World} {L : List Res} (h : SL w0 w L) (a0 a1 len an gr off b lo hi at_ fl : Int) (ah : AH a0 a1 len an gr off lo hi at_ fl) (f1 : fit lo hi len at_ = false) (e4 : Go.bits .and .i64 b 4 = 4) (f3 : fit lo hi len fl = true) :
    Calls Tryd.prog 32 #[.agg #[.int .i64 len, .int .i64 a0, .int .i64 a1, .int .i64 an, .int .i64 gr, .int .i64 off], .int .i64 b, .int .i64 lo, .int .i64 hi] w fun e w' => e = .returned (.tuple #[.int .i64 (fl), .int .i64 (fl + len)]) ∧ SL w0 w' L := by
  obtain ⟨hp1, hp2, hfl, ⟨b10, b11⟩, ⟨b20, b21⟩, wa, wf, wh, wl, wll, wi⟩ := adj_pre w ah
  obtain ⟨h0, h1, h2, h3, h4, h5, h6, h7, ha, hg, l0, l1, l2, eat, efl⟩ := ah
  have H := Aside0.mk h
  have HS := Aside0.mk (sl_start w)
  have HP1 := Aside0.mk @hp1
  have HP2 := Aside0.mk @hp2
  have HFl := Aside0.mk @hfl
  clear h eat efl ha hg hp1 hp2 hfl
  go_enter Tryd.func32, Tryd.ntmps32
  go_upto_region 9 with (first
    | (go_at_call 30; (first | with_reducible refine (HP1.out (by repeat (with_reducible first | exact HS.out | apply sl_drewN | apply sl_drew | apply sl_box))).mono ?_ | with_reducible refine (HP2.out (by repeat (with_reducible first | exact HS.out | apply sl_drewN | apply sl_drew | apply sl_box))).mono ?_); rintro e w1 ⟨rfl, hs⟩; (try simp only [World.size_alloc] at hs); replace HS := Aside0.mk (show SL w w1 [cellsR w.heap.size 47 #[.int .i64 len, .int .i64 a0, .int .i64 a1, .int .i64 an, .int .i64 gr, .int .i64 off], cellsR (w.heap.size + 1) 3 #[.int .i64 lo], cellsR (w.heap.size + 1 + 1) 3 #[.int .i64 hi]] from hs); clear hs; have ca0 := c_at HS.out 0 rfl 0 rfl; have ca1 := c_at HS.out 0 rfl 1 rfl; have ca2 := c_at HS.out 0 rfl 2 rfl; have ca3 := c_at HS.out 0 rfl 3 rfl; have ca4 := c_at HS.out 0 rfl 4 rfl; have ca5 := c_at HS.out 0 rfl 5 rfl; have cl := c_at HS.out 1 rfl 0 rfl; have ch := c_at HS.out 2 rfl 0 rfl)
    | (go_at_call 34; refine (HFl.out (by repeat (with_reducible first | exact HS.out | apply sl_drewN | apply sl_drew | apply sl_box))).mono ?_; rintro e w1 ⟨rfl, hs⟩; (try simp only [World.size_alloc] at hs); replace HS := Aside0.mk (show SL w w1 [cellsR w.heap.size 47 #[.int .i64 len, .int .i64 a0, .int .i64 a1, .int .i64 an, .int .i64 gr, .int .i64 off], cellsR (w.heap.size + 1) 3 #[.int .i64 lo], cellsR (w.heap.size + 1 + 1) 3 #[.int .i64 hi]] from hs); clear hs; have ca0 := c_at HS.out 0 rfl 0 rfl; have ca1 := c_at HS.out 0 rfl 1 rfl; have ca2 := c_at HS.out 0 rfl 2 rfl; have ca3 := c_at HS.out 0 rfl 3 rfl; have ca4 := c_at HS.out 0 rfl 4 rfl; have ca5 := c_at HS.out 0 rfl 5 rfl; have cl := c_at HS.out 1 rfl 0 rfl; have ch := c_at HS.out 2 rfl 0 rfl)
    | (go_at_call 33; refine (fits_s _ _ _ _ lo hi len _ _ _ _ _ (by repeat (with_reducible first | exact HS.out | apply sl_drewN | apply sl_drew | apply sl_box)) (by omega) (by omega) (by omega) (by omega)).mono ?_; rintro e w1 ⟨rfl, hs⟩; (try simp only [World.size_alloc] at hs); replace HS := Aside0.mk (show SL w w1 [cellsR w.heap.size 47 #[.int .i64 len, .int .i64 a0, .int .i64 a1, .int .i64 an, .int .i64 gr, .int .i64 off], cellsR (w.heap.size + 1) 3 #[.int .i64 lo], cellsR (w.heap.size + 1 + 1) 3 #[.int .i64 hi]] from hs); clear hs; have ca0 := c_at HS.out 0 rfl 0 rfl; have ca1 := c_at HS.out 0 rfl 1 rfl; have ca2 := c_at HS.out 0 rfl 2 rfl; have ca3 := c_at HS.out 0 rfl 3 rfl; have ca4 := c_at HS.out 0 rfl 4 rfl; have ca5 := c_at HS.out 0 rfl 5 rfl; have cl := c_at HS.out 1 rfl 0 rfl; have ch := c_at HS.out 2 rfl 0 rfl))
  go_quiet (fail)
  go_wp2
  go_ret2
  exact ⟨rfl, sl_below H.out (sl_below0 (show SL w _ _ from (by repeat (with_reducible first | exact HS.out | apply sl_drewN | apply sl_drew | apply sl_box))))⟩

set_option maxHeartbeats 4000000 in
set_option maxRecDepth 100000 in
theorem adj_F0NK0 {w0 w : World} {L : List Res} (h : SL w0 w L) (a0 a1 len an gr off b lo hi at_ fl : Int) (ah : AH a0 a1 len an gr off lo hi at_ fl) (f1 : fit lo hi len at_ = false) (e4 : Go.bits .and .i64 b 4 = 0) (e1 : Go.bits .and .i64 b 1 = 0) (e16 : Go.bits .and .i64 b 16 = 0) :
    Calls Tryd.prog 32 #[.agg #[.int .i64 len, .int .i64 a0, .int .i64 a1, .int .i64 an, .int .i64 gr, .int .i64 off], .int .i64 b, .int .i64 lo, .int .i64 hi] w fun e w' => e = .returned (.tuple #[.int .i64 (at_), .int .i64 (at_ + len)]) ∧ SL w0 w' L := by
  obtain ⟨hp1, hp2, hfl, ⟨b10, b11⟩, ⟨b20, b21⟩, wa, wf, wh, wl, wll, wi⟩ := adj_pre w ah
  obtain ⟨h0, h1, h2, h3, h4, h5, h6, h7, ha, hg, l0, l1, l2, eat, efl⟩ := ah
  have H := Aside0.mk h
  have HS := Aside0.mk (sl_start w)
  have HP1 := Aside0.mk @hp1
  have HP2 := Aside0.mk @hp2
  have HFl := Aside0.mk @hfl
  clear h eat efl ha hg hp1 hp2 hfl
  go_enter Tryd.func32, Tryd.ntmps32
  go_wp2_with (first
    | (go_at_call 30; (first | with_reducible refine (HP1.out (by repeat (with_reducible first | exact HS.out | apply sl_drewN | apply sl_drew | apply sl_box))).mono ?_ | with_reducible refine (HP2.out (by repeat (with_reducible first | exact HS.out | apply sl_drewN | apply sl_drew | apply sl_box))).mono ?_); rintro e w1 ⟨rfl, hs⟩; (try simp only [World.size_alloc] at hs); replace HS := Aside0.mk (show SL w w1 [cellsR w.heap.size 47 #[.int .i64 len, .int .i64 a0, .int .i64 a1, .int .i64 an, .int .i64 gr, .int .i64 off], cellsR (w.heap.size + 1) 3 #[.int .i64 lo], cellsR (w.heap.size + 1 + 1) 3 #[.int .i64 hi]] from hs); clear hs; have ca0 := c_at HS.out 0 rfl 0 rfl; have ca1 := c_at HS.out 0 rfl 1 rfl; have ca2 := c_at HS.out 0 rfl 2 rfl; have ca3 := c_at HS.out 0 rfl 3 rfl; have ca4 := c_at HS.out 0 rfl 4 rfl; have ca5 := c_at HS.out 0 rfl 5 rfl; have cl := c_at HS.out 1 rfl 0 rfl; have ch := c_at HS.out 2 rfl 0 rfl)
    | (go_at_call 34; refine (HFl.out (by repeat (with_reducible first | exact HS.out | apply sl_drewN | apply sl_drew | apply sl_box))).mono ?_; rintro e w1 ⟨rfl, hs⟩; (try simp only [World.size_alloc] at hs); replace HS := Aside0.mk (show SL w w1 [cellsR w.heap.size 47 #[.int .i64 len, .int .i64 a0, .int .i64 a1, .int .i64 an, .int .i64 gr, .int .i64 off], cellsR (w.heap.size + 1) 3 #[.int .i64 lo], cellsR (w.heap.size + 1 + 1) 3 #[.int .i64 hi]] from hs); clear hs; have ca0 := c_at HS.out 0 rfl 0 rfl; have ca1 := c_at HS.out 0 rfl 1 rfl; have ca2 := c_at HS.out 0 rfl 2 rfl; have ca3 := c_at HS.out 0 rfl 3 rfl; have ca4 := c_at HS.out 0 rfl 4 rfl; have ca5 := c_at HS.out 0 rfl 5 rfl; have cl := c_at HS.out 1 rfl 0 rfl; have ch := c_at HS.out 2 rfl 0 rfl)
    | (go_at_call 33; refine (fits_s _ _ _ _ lo hi len _ _ _ _ _ (by repeat (with_reducible first | exact HS.out | apply sl_drewN | apply sl_drew | apply sl_box)) (by omega) (by omega) (by omega) (by omega)).mono ?_; rintro e w1 ⟨rfl, hs⟩; (try simp only [World.size_alloc] at hs); replace HS := Aside0.mk (show SL w w1 [cellsR w.heap.size 47 #[.int .i64 len, .int .i64 a0, .int .i64 a1, .int .i64 an, .int .i64 gr, .int .i64 off], cellsR (w.heap.size + 1) 3 #[.int .i64 lo], cellsR (w.heap.size + 1 + 1) 3 #[.int .i64 hi]] from hs); clear hs; have ca0 := c_at HS.out 0 rfl 0 rfl; have ca1 := c_at HS.out 0 rfl 1 rfl; have ca2 := c_at HS.out 0 rfl 2 rfl; have ca3 := c_at HS.out 0 rfl 3 rfl; have ca4 := c_at HS.out 0 rfl 4 rfl; have ca5 := c_at HS.out 0 rfl 5 rfl; have cl := c_at HS.out 1 rfl 0 rfl; have ch := c_at HS.out 2 rfl 0 rfl))
  go_ret2
  exact ⟨rfl, sl_below H.out (sl_below0 (show SL w _ _ from (by repeat (with_reducible first | exact HS.out | apply sl_drewN | apply sl_drew | apply sl_box))))⟩

set_option maxHeartbeats 4000000 in
set_option maxRecDepth 100000 in
theorem adj_F0NR1 {w0 w : World} {L : List Res} (h : SL w0 w L) (a0 a1 len an gr off b lo hi at_ fl n y : Int) (ah : AH a0 a1 len an gr off lo hi at_ fl) (f1 : fit lo hi len at_ = false) (e4 : Go.bits .and .i64 b 4 = 0) (e1 : Go.bits .and .i64 b 1 = 0) (e16 : Go.bits .and .i64 b 16 = 16) (en : (if hi < at_ + len then hi else at_ + len) = n) (hn : (n ≤ lo) = True) (ey : (if at_ < lo then lo else at_) = y) :
    Calls Tryd.prog 32 #[.agg #[.int .i64 len, .int .i64 a0, .int .i64 a1, .int .i64 an, .int .i64 gr, .int .i64 off], .int .i64 b, .int .i64 lo, .int .i64 hi] w fun e w' => e = .returned (.tuple #[.int .i64 (lo), .int .i64 (lo + 1)]) ∧ SL w0 w' L := by
  obtain ⟨hp1, hp2, hfl, ⟨b10, b11⟩, ⟨b20, b21⟩, wa, wf, wh, wl, wll, wi⟩ := adj_pre w ah
  obtain ⟨h0, h1, h2, h3, h4, h5, h6, h7, ha, hg, l0, l1, l2, eat, efl⟩ := ah
  have H := Aside0.mk h
  have HS := Aside0.mk (sl_start w)
  have HP1 := Aside0.mk @hp1
  have HP2 := Aside0.mk @hp2
  have HFl := Aside0.mk @hfl
  clear h eat efl ha hg hp1 hp2 hfl
  go_enter Tryd.func32, Tryd.ntmps32
  go_upto_region 14 with (first
    | (go_at_call 30; (first | with_reducible refine (HP1.out (by repeat (with_reducible first | exact HS.out | apply sl_drewN | apply sl_drew | apply sl_box))).mono ?_ | with_reducible refine (HP2.out (by repeat (with_reducible first | exact HS.out | apply sl_drewN | apply sl_drew | apply sl_box))).mono ?_); rintro e w1 ⟨rfl, hs⟩; (try simp only [World.size_alloc] at hs); replace HS := Aside0.mk (show SL w w1 [cellsR w.heap.size 47 #[.int .i64 len, .int .i64 a0, .int .i64 a1, .int .i64 an, .int .i64 gr, .int .i64 off], cellsR (w.heap.size + 1) 3 #[.int .i64 lo], cellsR (w.heap.size + 1 + 1) 3 #[.int .i64 hi]] from hs); clear hs; have ca0 := c_at HS.out 0 rfl 0 rfl; have ca1 := c_at HS.out 0 rfl 1 rfl; have ca2 := c_at HS.out 0 rfl 2 rfl; have ca3 := c_at HS.out 0 rfl 3 rfl; have ca4 := c_at HS.out 0 rfl 4 rfl; have ca5 := c_at HS.out 0 rfl 5 rfl; have cl := c_at HS.out 1 rfl 0 rfl; have ch := c_at HS.out 2 rfl 0 rfl)
    | (go_at_call 34; refine (HFl.out (by repeat (with_reducible first | exact HS.out | apply sl_drewN | apply sl_drew | apply sl_box))).mono ?_; rintro e w1 ⟨rfl, hs⟩; (try simp only [World.size_alloc] at hs); replace HS := Aside0.mk (show SL w w1 [cellsR w.heap.size 47 #[.int .i64 len, .int .i64 a0, .int .i64 a1, .int .i64 an, .int .i64 gr, .int .i64 off], cellsR (w.heap.size + 1) 3 #[.int .i64 lo], cellsR (w.heap.size + 1 + 1) 3 #[.int .i64 hi]] from hs); clear hs; have ca0 := c_at HS.out 0 rfl 0 rfl; have ca1 := c_at HS.out 0 rfl 1 rfl; have ca2 := c_at HS.out 0 rfl 2 rfl; have ca3 := c_at HS.out 0 rfl 3 rfl; have ca4 := c_at HS.out 0 rfl 4 rfl; have ca5 := c_at HS.out 0 rfl 5 rfl; have cl := c_at HS.out 1 rfl 0 rfl; have ch := c_at HS.out 2 rfl 0 rfl)
    | (go_at_call 33; refine (fits_s _ _ _ _ lo hi len _ _ _ _ _ (by repeat (with_reducible first | exact HS.out | apply sl_drewN | apply sl_drew | apply sl_box)) (by omega) (by omega) (by omega) (by omega)).mono ?_; rintro e w1 ⟨rfl, hs⟩; (try simp only [World.size_alloc] at hs); replace HS := Aside0.mk (show SL w w1 [cellsR w.heap.size 47 #[.int .i64 len, .int .i64 a0, .int .i64 a1, .int .i64 an, .int .i64 gr, .int .i64 off], cellsR (w.heap.size + 1) 3 #[.int .i64 lo], cellsR (w.heap.size + 1 + 1) 3 #[.int .i64 hi]] from hs); clear hs; have ca0 := c_at HS.out 0 rfl 0 rfl; have ca1 := c_at HS.out 0 rfl 1 rfl; have ca2 := c_at HS.out 0 rfl 2 rfl; have ca3 := c_at HS.out 0 rfl 3 rfl; have ca4 := c_at HS.out 0 rfl 4 rfl; have ca5 := c_at HS.out 0 rfl 5 rfl; have cl := c_at HS.out 1 rfl 0 rfl; have ch := c_at HS.out 2 rfl 0 rfl))
  refine start_ (n := 8) (S := fun w' => w'.cell? ⟨w.heap.size + 1, 0, none⟩ = some (.int .i64 lo) ∧ w'.cell? ⟨w.heap.size + 1 + 1, 0, none⟩ = some (.int .i64 hi)) (ds := []) #[false, false, false, false, false, false, false, false] (by kernel_rfl) rfl rfl ⟨(blk_cell (sl_blk (sl_drew HS.out) 1 rfl) 0).trans (show _ = some (Value.int .i64 lo) from rfl), (blk_cell (sl_blk (sl_drew HS.out) 2 rfl) 0).trans (show _ = some (Value.int .i64 hi) from rfl)⟩ (fun hHeld => ?_)
  refine pure_ (i := 0) (N := some 64) (v := ?_) (a' := ?_) #[true, false, false, false, false, false, false, false] rfl rfl (by kernel_rfl) (fun _ _ _ h => h) (Or.inl ⟨by rfl, ?_⟩) ?_ ?_
  rotate_left
  · intro w'
    go_simp
    with_reducible rfl
  rotate_left
  · simp only [Act.put, List.setIfInBounds_toArray, List.set_cons_zero, List.set_cons_succ, i64_w, i32_w, IntKind.wrap_u32, IntKind.wrap_u8, IntKind.wrap_u16]
    rfl
  refine pure_ (i := 3) (N := some 67) (v := ?_) (a' := ?_) #[true, false, false, true, false, false, false, false] rfl rfl (by kernel_rfl) (fun _ _ _ h => h) (Or.inl ⟨by rfl, ?_⟩) ?_ ?_
  rotate_left
  · intro w'
    go_simp
    with_reducible rfl
  rotate_left
  · simp only [Act.put, List.setIfInBounds_toArray, List.set_cons_zero, List.set_cons_succ, i64_w, i32_w, IntKind.wrap_u32, IntKind.wrap_u8, IntKind.wrap_u16]
    rfl
  refine take_ (i := 1) (N := some 65) (v := ?_) (a' := ?_) #[true, true, false, true, false, false, false, false] rfl rfl (by kernel_rfl) (fun _ _ _ h => h) (Or.inl ⟨by rfl, ?_⟩) hHeld ?_ ?_
  rotate_left
  · rintro w' ⟨s0, s1⟩
    go_simp
    with_reducible rfl
  rotate_left
  · simp only [Act.put, List.setIfInBounds_toArray, List.set_cons_zero, List.set_cons_succ, i64_w, i32_w, IntKind.wrap_u32, IntKind.wrap_u8, IntKind.wrap_u16]
    rfl
  refine pure_ (i := 2) (N := some 66) (v := ?_) (a' := ?_) #[true, true, true, true, false, false, false, false] rfl rfl (by kernel_rfl) (fun _ _ _ h => h) (Or.inl ⟨by rfl, ?_⟩) ?_ ?_
  rotate_left
  · intro w'
    go_simp
    with_reducible rfl
  rotate_left
  · simp only [Act.put, List.setIfInBounds_toArray, List.set_cons_zero, List.set_cons_succ, i64_w, i32_w, IntKind.wrap_u32, IntKind.wrap_u8, IntKind.wrap_u16]
    rfl
  refine pure_ (i := 6) (N := some 11) (v := ?_) (a' := ?_) #[true, true, true, true, false, false, true, false] rfl rfl (by kernel_rfl) (fun _ _ _ h => h) (Or.inl ⟨by rfl, ?_⟩) ?_ ?_
  rotate_left
  · intro w'
    go_simp
    with_reducible rfl
  rotate_left
  · simp only [Act.put, List.setIfInBounds_toArray, List.set_cons_zero, List.set_cons_succ, i64_w, i32_w, IntKind.wrap_u32, IntKind.wrap_u8, IntKind.wrap_u16]
    rfl
  refine take_ (i := 4) (N := some 68) (v := ?_) (a' := ?_) #[true, true, true, true, true, false, true, false] rfl rfl (by kernel_rfl) (fun _ _ _ h => h) (Or.inl ⟨by rfl, ?_⟩) hHeld ?_ ?_
  rotate_left
  · rintro w' ⟨s0, s1⟩
    go_simp
    with_reducible rfl
  rotate_left
  · simp only [Act.put, List.setIfInBounds_toArray, List.set_cons_zero, List.set_cons_succ, i64_w, i32_w, IntKind.wrap_u32, IntKind.wrap_u8, IntKind.wrap_u16]
    rfl
  refine pure_ (i := 5) (N := some 69) (v := ?_) (a' := ?_) #[true, true, true, true, true, true, true, false] rfl rfl (by kernel_rfl) (fun _ _ _ h => h) (Or.inl ⟨by rfl, ?_⟩) ?_ ?_
  rotate_left
  · intro w'
    go_simp
    with_reducible rfl
  rotate_left
  · simp only [Act.put, List.setIfInBounds_toArray, List.set_cons_zero, List.set_cons_succ, i64_w, i32_w, IntKind.wrap_u32, IntKind.wrap_u8, IntKind.wrap_u16]
    rfl
  refine pure_ (i := 7) (N := some 12) (v := ?_) (a' := ?_) #[true, true, true, true, true, true, true, true] rfl rfl (by kernel_rfl) (fun _ _ _ h => h) (Or.inl ⟨by rfl, ?_⟩) ?_ ?_
  rotate_left
  · intro w'
    go_simp
    with_reducible rfl
  rotate_left
  · simp only [Act.put, List.setIfInBounds_toArray, List.set_cons_zero, List.set_cons_succ, i64_w, i32_w, IntKind.wrap_u32, IntKind.wrap_u8, IntKind.wrap_u16]
    rfl
  refine done_ (by kernel_rfl) ?_
  go_upto_region 16 with (fail)
  go_quiet (fail)
  go_wp2
  go_ret2
  exact ⟨rfl, sl_below H.out (sl_below0 (show SL w _ _ from (by repeat (with_reducible first | exact HS.out | apply sl_drewN | apply sl_drew | apply sl_box))))⟩

set_option maxHeartbeats 4000000 in
set_option maxRecDepth 100000 in
theorem adj_F0NR2 {w0 w : World} {L : List Res} (h : SL w0 w L) (a0 a1 len an gr off b lo hi at_ fl n y : Int) (ah : AH a0 a1 len an gr off lo hi at_ fl) (f1 : fit lo hi len at_ = false) (e4 : Go.bits .and .i64 b 4 = 0) (e1 : Go.bits .and .i64 b 1 = 0) (e16 : Go.bits .and .i64 b 16 = 16) (en : (if hi < at_ + len then hi else at_ + len) = n) (hn : (n ≤ lo) = False) (ey : (if at_ < lo then lo else at_) = y) (hy : (hi ≤ y) = True) :
    Calls Tryd.prog 32 #[.agg #[.int .i64 len, .int .i64 a0, .int .i64 a1, .int .i64 an, .int .i64 gr, .int .i64 off], .int .i64 b, .int .i64 lo, .int .i64 hi] w fun e w' => e = .returned (.tuple #[.int .i64 (hi - 1), .int .i64 (hi)]) ∧ SL w0 w' L := by
  obtain ⟨hp1, hp2, hfl, ⟨b10, b11⟩, ⟨b20, b21⟩, wa, wf, wh, wl, wll, wi⟩ := adj_pre w ah
  obtain ⟨h0, h1, h2, h3, h4, h5, h6, h7, ha, hg, l0, l1, l2, eat, efl⟩ := ah
  have H := Aside0.mk h
  have HS := Aside0.mk (sl_start w)
  have HP1 := Aside0.mk @hp1
  have HP2 := Aside0.mk @hp2
  have HFl := Aside0.mk @hfl
  clear h eat efl ha hg hp1 hp2 hfl
  go_enter Tryd.func32, Tryd.ntmps32
  go_upto_region 14 with (first
    | (go_at_call 30; (first | with_reducible refine (HP1.out (by repeat (with_reducible first | exact HS.out | apply sl_drewN | apply sl_drew | apply sl_box))).mono ?_ | with_reducible refine (HP2.out (by repeat (with_reducible first | exact HS.out | apply sl_drewN | apply sl_drew | apply sl_box))).mono ?_); rintro e w1 ⟨rfl, hs⟩; (try simp only [World.size_alloc] at hs); replace HS := Aside0.mk (show SL w w1 [cellsR w.heap.size 47 #[.int .i64 len, .int .i64 a0, .int .i64 a1, .int .i64 an, .int .i64 gr, .int .i64 off], cellsR (w.heap.size + 1) 3 #[.int .i64 lo], cellsR (w.heap.size + 1 + 1) 3 #[.int .i64 hi]] from hs); clear hs; have ca0 := c_at HS.out 0 rfl 0 rfl; have ca1 := c_at HS.out 0 rfl 1 rfl; have ca2 := c_at HS.out 0 rfl 2 rfl; have ca3 := c_at HS.out 0 rfl 3 rfl; have ca4 := c_at HS.out 0 rfl 4 rfl; have ca5 := c_at HS.out 0 rfl 5 rfl; have cl := c_at HS.out 1 rfl 0 rfl; have ch := c_at HS.out 2 rfl 0 rfl)
    | (go_at_call 34; refine (HFl.out (by repeat (with_reducible first | exact HS.out | apply sl_drewN | apply sl_drew | apply sl_box))).mono ?_; rintro e w1 ⟨rfl, hs⟩; (try simp only [World.size_alloc] at hs); replace HS := Aside0.mk (show SL w w1 [cellsR w.heap.size 47 #[.int .i64 len, .int .i64 a0, .int .i64 a1, .int .i64 an, .int .i64 gr, .int .i64 off], cellsR (w.heap.size + 1) 3 #[.int .i64 lo], cellsR (w.heap.size + 1 + 1) 3 #[.int .i64 hi]] from hs); clear hs; have ca0 := c_at HS.out 0 rfl 0 rfl; have ca1 := c_at HS.out 0 rfl 1 rfl; have ca2 := c_at HS.out 0 rfl 2 rfl; have ca3 := c_at HS.out 0 rfl 3 rfl; have ca4 := c_at HS.out 0 rfl 4 rfl; have ca5 := c_at HS.out 0 rfl 5 rfl; have cl := c_at HS.out 1 rfl 0 rfl; have ch := c_at HS.out 2 rfl 0 rfl)
    | (go_at_call 33; refine (fits_s _ _ _ _ lo hi len _ _ _ _ _ (by repeat (with_reducible first | exact HS.out | apply sl_drewN | apply sl_drew | apply sl_box)) (by omega) (by omega) (by omega) (by omega)).mono ?_; rintro e w1 ⟨rfl, hs⟩; (try simp only [World.size_alloc] at hs); replace HS := Aside0.mk (show SL w w1 [cellsR w.heap.size 47 #[.int .i64 len, .int .i64 a0, .int .i64 a1, .int .i64 an, .int .i64 gr, .int .i64 off], cellsR (w.heap.size + 1) 3 #[.int .i64 lo], cellsR (w.heap.size + 1 + 1) 3 #[.int .i64 hi]] from hs); clear hs; have ca0 := c_at HS.out 0 rfl 0 rfl; have ca1 := c_at HS.out 0 rfl 1 rfl; have ca2 := c_at HS.out 0 rfl 2 rfl; have ca3 := c_at HS.out 0 rfl 3 rfl; have ca4 := c_at HS.out 0 rfl 4 rfl; have ca5 := c_at HS.out 0 rfl 5 rfl; have cl := c_at HS.out 1 rfl 0 rfl; have ch := c_at HS.out 2 rfl 0 rfl))
  refine start_ (n := 8) (S := fun w' => w'.cell? ⟨w.heap.size + 1, 0, none⟩ = some (.int .i64 lo) ∧ w'.cell? ⟨w.heap.size + 1 + 1, 0, none⟩ = some (.int .i64 hi)) (ds := []) #[false, false, false, false, false, false, false, false] (by kernel_rfl) rfl rfl ⟨(blk_cell (sl_blk (sl_drew HS.out) 1 rfl) 0).trans (show _ = some (Value.int .i64 lo) from rfl), (blk_cell (sl_blk (sl_drew HS.out) 2 rfl) 0).trans (show _ = some (Value.int .i64 hi) from rfl)⟩ (fun hHeld => ?_)
  refine pure_ (i := 0) (N := some 64) (v := ?_) (a' := ?_) #[true, false, false, false, false, false, false, false] rfl rfl (by kernel_rfl) (fun _ _ _ h => h) (Or.inl ⟨by rfl, ?_⟩) ?_ ?_
  rotate_left
  · intro w'
    go_simp
    with_reducible rfl
  rotate_left
  · simp only [Act.put, List.setIfInBounds_toArray, List.set_cons_zero, List.set_cons_succ, i64_w, i32_w, IntKind.wrap_u32, IntKind.wrap_u8, IntKind.wrap_u16]
    rfl
  refine pure_ (i := 3) (N := some 67) (v := ?_) (a' := ?_) #[true, false, false, true, false, false, false, false] rfl rfl (by kernel_rfl) (fun _ _ _ h => h) (Or.inl ⟨by rfl, ?_⟩) ?_ ?_
  rotate_left
  · intro w'
    go_simp
    with_reducible rfl
  rotate_left
  · simp only [Act.put, List.setIfInBounds_toArray, List.set_cons_zero, List.set_cons_succ, i64_w, i32_w, IntKind.wrap_u32, IntKind.wrap_u8, IntKind.wrap_u16]
    rfl
  refine take_ (i := 1) (N := some 65) (v := ?_) (a' := ?_) #[true, true, false, true, false, false, false, false] rfl rfl (by kernel_rfl) (fun _ _ _ h => h) (Or.inl ⟨by rfl, ?_⟩) hHeld ?_ ?_
  rotate_left
  · rintro w' ⟨s0, s1⟩
    go_simp
    with_reducible rfl
  rotate_left
  · simp only [Act.put, List.setIfInBounds_toArray, List.set_cons_zero, List.set_cons_succ, i64_w, i32_w, IntKind.wrap_u32, IntKind.wrap_u8, IntKind.wrap_u16]
    rfl
  refine pure_ (i := 2) (N := some 66) (v := ?_) (a' := ?_) #[true, true, true, true, false, false, false, false] rfl rfl (by kernel_rfl) (fun _ _ _ h => h) (Or.inl ⟨by rfl, ?_⟩) ?_ ?_
  rotate_left
  · intro w'
    go_simp
    with_reducible rfl
  rotate_left
  · simp only [Act.put, List.setIfInBounds_toArray, List.set_cons_zero, List.set_cons_succ, i64_w, i32_w, IntKind.wrap_u32, IntKind.wrap_u8, IntKind.wrap_u16]
    rfl
  refine pure_ (i := 6) (N := some 11) (v := ?_) (a' := ?_) #[true, true, true, true, false, false, true, false] rfl rfl (by kernel_rfl) (fun _ _ _ h => h) (Or.inl ⟨by rfl, ?_⟩) ?_ ?_
  rotate_left
  · intro w'
    go_simp
    with_reducible rfl
  rotate_left
  · simp only [Act.put, List.setIfInBounds_toArray, List.set_cons_zero, List.set_cons_succ, i64_w, i32_w, IntKind.wrap_u32, IntKind.wrap_u8, IntKind.wrap_u16]
    rfl
  refine take_ (i := 4) (N := some 68) (v := ?_) (a' := ?_) #[true, true, true, true, true, false, true, false] rfl rfl (by kernel_rfl) (fun _ _ _ h => h) (Or.inl ⟨by rfl, ?_⟩) hHeld ?_ ?_
  rotate_left
  · rintro w' ⟨s0, s1⟩
    go_simp
    with_reducible rfl
  rotate_left
  · simp only [Act.put, List.setIfInBounds_toArray, List.set_cons_zero, List.set_cons_succ, i64_w, i32_w, IntKind.wrap_u32, IntKind.wrap_u8, IntKind.wrap_u16]
    rfl
  refine pure_ (i := 5) (N := some 69) (v := ?_) (a' := ?_) #[true, true, true, true, true, true, true, false] rfl rfl (by kernel_rfl) (fun _ _ _ h => h) (Or.inl ⟨by rfl, ?_⟩) ?_ ?_
  rotate_left
  · intro w'
    go_simp
    with_reducible rfl
  rotate_left
  · simp only [Act.put, List.setIfInBounds_toArray, List.set_cons_zero, List.set_cons_succ, i64_w, i32_w, IntKind.wrap_u32, IntKind.wrap_u8, IntKind.wrap_u16]
    rfl
  refine pure_ (i := 7) (N := some 12) (v := ?_) (a' := ?_) #[true, true, true, true, true, true, true, true] rfl rfl (by kernel_rfl) (fun _ _ _ h => h) (Or.inl ⟨by rfl, ?_⟩) ?_ ?_
  rotate_left
  · intro w'
    go_simp
    with_reducible rfl
  rotate_left
  · simp only [Act.put, List.setIfInBounds_toArray, List.set_cons_zero, List.set_cons_succ, i64_w, i32_w, IntKind.wrap_u32, IntKind.wrap_u8, IntKind.wrap_u16]
    rfl
  refine done_ (by kernel_rfl) ?_
  go_upto_region 18 with (fail)
  go_quiet (fail)
  go_wp2
  go_ret2
  exact ⟨rfl, sl_below H.out (sl_below0 (show SL w _ _ from (by repeat (with_reducible first | exact HS.out | apply sl_drewN | apply sl_drew | apply sl_box))))⟩

set_option maxHeartbeats 4000000 in
set_option maxRecDepth 100000 in
theorem adj_F0NR3 {w0 w : World} {L : List Res} (h : SL w0 w L) (a0 a1 len an gr off b lo hi at_ fl n y : Int) (ah : AH a0 a1 len an gr off lo hi at_ fl) (f1 : fit lo hi len at_ = false) (e4 : Go.bits .and .i64 b 4 = 0) (e1 : Go.bits .and .i64 b 1 = 0) (e16 : Go.bits .and .i64 b 16 = 16) (en : (if hi < at_ + len then hi else at_ + len) = n) (hn : (n ≤ lo) = False) (ey : (if at_ < lo then lo else at_) = y) (hy : (hi ≤ y) = False) :
    Calls Tryd.prog 32 #[.agg #[.int .i64 len, .int .i64 a0, .int .i64 a1, .int .i64 an, .int .i64 gr, .int .i64 off], .int .i64 b, .int .i64 lo, .int .i64 hi] w fun e w' => e = .returned (.tuple #[.int .i64 (y), .int .i64 (n)]) ∧ SL w0 w' L := by
  obtain ⟨hp1, hp2, hfl, ⟨b10, b11⟩, ⟨b20, b21⟩, wa, wf, wh, wl, wll, wi⟩ := adj_pre w ah
  obtain ⟨h0, h1, h2, h3, h4, h5, h6, h7, ha, hg, l0, l1, l2, eat, efl⟩ := ah
  have H := Aside0.mk h
  have HS := Aside0.mk (sl_start w)
  have HP1 := Aside0.mk @hp1
  have HP2 := Aside0.mk @hp2
  have HFl := Aside0.mk @hfl
  clear h eat efl ha hg hp1 hp2 hfl
  go_enter Tryd.func32, Tryd.ntmps32
  go_upto_region 14 with (first
    | (go_at_call 30; (first | with_reducible refine (HP1.out (by repeat (with_reducible first | exact HS.out | apply sl_drewN | apply sl_drew | apply sl_box))).mono ?_ | with_reducible refine (HP2.out (by repeat (with_reducible first | exact HS.out | apply sl_drewN | apply sl_drew | apply sl_box))).mono ?_); rintro e w1 ⟨rfl, hs⟩; (try simp only [World.size_alloc] at hs); replace HS := Aside0.mk (show SL w w1 [cellsR w.heap.size 47 #[.int .i64 len, .int .i64 a0, .int .i64 a1, .int .i64 an, .int .i64 gr, .int .i64 off], cellsR (w.heap.size + 1) 3 #[.int .i64 lo], cellsR (w.heap.size + 1 + 1) 3 #[.int .i64 hi]] from hs); clear hs; have ca0 := c_at HS.out 0 rfl 0 rfl; have ca1 := c_at HS.out 0 rfl 1 rfl; have ca2 := c_at HS.out 0 rfl 2 rfl; have ca3 := c_at HS.out 0 rfl 3 rfl; have ca4 := c_at HS.out 0 rfl 4 rfl; have ca5 := c_at HS.out 0 rfl 5 rfl; have cl := c_at HS.out 1 rfl 0 rfl; have ch := c_at HS.out 2 rfl 0 rfl)
    | (go_at_call 34; refine (HFl.out (by repeat (with_reducible first | exact HS.out | apply sl_drewN | apply sl_drew | apply sl_box))).mono ?_; rintro e w1 ⟨rfl, hs⟩; (try simp only [World.size_alloc] at hs); replace HS := Aside0.mk (show SL w w1 [cellsR w.heap.size 47 #[.int .i64 len, .int .i64 a0, .int .i64 a1, .int .i64 an, .int .i64 gr, .int .i64 off], cellsR (w.heap.size + 1) 3 #[.int .i64 lo], cellsR (w.heap.size + 1 + 1) 3 #[.int .i64 hi]] from hs); clear hs; have ca0 := c_at HS.out 0 rfl 0 rfl; have ca1 := c_at HS.out 0 rfl 1 rfl; have ca2 := c_at HS.out 0 rfl 2 rfl; have ca3 := c_at HS.out 0 rfl 3 rfl; have ca4 := c_at HS.out 0 rfl 4 rfl; have ca5 := c_at HS.out 0 rfl 5 rfl; have cl := c_at HS.out 1 rfl 0 rfl; have ch := c_at HS.out 2 rfl 0 rfl)
    | (go_at_call 33; refine (fits_s _ _ _ _ lo hi len _ _ _ _ _ (by repeat (with_reducible first | exact HS.out | apply sl_drewN | apply sl_drew | apply sl_box)) (by omega) (by omega) (by omega) (by omega)).mono ?_; rintro e w1 ⟨rfl, hs⟩; (try simp only [World.size_alloc] at hs); replace HS := Aside0.mk (show SL w w1 [cellsR w.heap.size 47 #[.int .i64 len, .int .i64 a0, .int .i64 a1, .int .i64 an, .int .i64 gr, .int .i64 off], cellsR (w.heap.size + 1) 3 #[.int .i64 lo], cellsR (w.heap.size + 1 + 1) 3 #[.int .i64 hi]] from hs); clear hs; have ca0 := c_at HS.out 0 rfl 0 rfl; have ca1 := c_at HS.out 0 rfl 1 rfl; have ca2 := c_at HS.out 0 rfl 2 rfl; have ca3 := c_at HS.out 0 rfl 3 rfl; have ca4 := c_at HS.out 0 rfl 4 rfl; have ca5 := c_at HS.out 0 rfl 5 rfl; have cl := c_at HS.out 1 rfl 0 rfl; have ch := c_at HS.out 2 rfl 0 rfl))
  refine start_ (n := 8) (S := fun w' => w'.cell? ⟨w.heap.size + 1, 0, none⟩ = some (.int .i64 lo) ∧ w'.cell? ⟨w.heap.size + 1 + 1, 0, none⟩ = some (.int .i64 hi)) (ds := []) #[false, false, false, false, false, false, false, false] (by kernel_rfl) rfl rfl ⟨(blk_cell (sl_blk (sl_drew HS.out) 1 rfl) 0).trans (show _ = some (Value.int .i64 lo) from rfl), (blk_cell (sl_blk (sl_drew HS.out) 2 rfl) 0).trans (show _ = some (Value.int .i64 hi) from rfl)⟩ (fun hHeld => ?_)
  refine pure_ (i := 0) (N := some 64) (v := ?_) (a' := ?_) #[true, false, false, false, false, false, false, false] rfl rfl (by kernel_rfl) (fun _ _ _ h => h) (Or.inl ⟨by rfl, ?_⟩) ?_ ?_
  rotate_left
  · intro w'
    go_simp
    with_reducible rfl
  rotate_left
  · simp only [Act.put, List.setIfInBounds_toArray, List.set_cons_zero, List.set_cons_succ, i64_w, i32_w, IntKind.wrap_u32, IntKind.wrap_u8, IntKind.wrap_u16]
    rfl
  refine pure_ (i := 3) (N := some 67) (v := ?_) (a' := ?_) #[true, false, false, true, false, false, false, false] rfl rfl (by kernel_rfl) (fun _ _ _ h => h) (Or.inl ⟨by rfl, ?_⟩) ?_ ?_
  rotate_left
  · intro w'
    go_simp
    with_reducible rfl
  rotate_left
  · simp only [Act.put, List.setIfInBounds_toArray, List.set_cons_zero, List.set_cons_succ, i64_w, i32_w, IntKind.wrap_u32, IntKind.wrap_u8, IntKind.wrap_u16]
    rfl
  refine take_ (i := 1) (N := some 65) (v := ?_) (a' := ?_) #[true, true, false, true, false, false, false, false] rfl rfl (by kernel_rfl) (fun _ _ _ h => h) (Or.inl ⟨by rfl, ?_⟩) hHeld ?_ ?_
  rotate_left
  · rintro w' ⟨s0, s1⟩
    go_simp
    with_reducible rfl
  rotate_left
  · simp only [Act.put, List.setIfInBounds_toArray, List.set_cons_zero, List.set_cons_succ, i64_w, i32_w, IntKind.wrap_u32, IntKind.wrap_u8, IntKind.wrap_u16]
    rfl
  refine pure_ (i := 2) (N := some 66) (v := ?_) (a' := ?_) #[true, true, true, true, false, false, false, false] rfl rfl (by kernel_rfl) (fun _ _ _ h => h) (Or.inl ⟨by rfl, ?_⟩) ?_ ?_
  rotate_left
  · intro w'
    go_simp
    with_reducible rfl
  rotate_left
  · simp only [Act.put, List.setIfInBounds_toArray, List.set_cons_zero, List.set_cons_succ, i64_w, i32_w, IntKind.wrap_u32, IntKind.wrap_u8, IntKind.wrap_u16]
    rfl
  refine pure_ (i := 6) (N := some 11) (v := ?_) (a' := ?_) #[true, true, true, true, false, false, true, false] rfl rfl (by kernel_rfl) (fun _ _ _ h => h) (Or.inl ⟨by rfl, ?_⟩) ?_ ?_
  rotate_left
  · intro w'
    go_simp
    with_reducible rfl
  rotate_left
  · simp only [Act.put, List.setIfInBounds_toArray, List.set_cons_zero, List.set_cons_succ, i64_w, i32_w, IntKind.wrap_u32, IntKind.wrap_u8, IntKind.wrap_u16]
    rfl
  refine take_ (i := 4) (N := some 68) (v := ?_) (a' := ?_) #[true, true, true, true, true, false, true, false] rfl rfl (by kernel_rfl) (fun _ _ _ h => h) (Or.inl ⟨by rfl, ?_⟩) hHeld ?_ ?_
  rotate_left
  · rintro w' ⟨s0, s1⟩
    go_simp
    with_reducible rfl
  rotate_left
  · simp only [Act.put, List.setIfInBounds_toArray, List.set_cons_zero, List.set_cons_succ, i64_w, i32_w, IntKind.wrap_u32, IntKind.wrap_u8, IntKind.wrap_u16]
    rfl
  refine pure_ (i := 5) (N := some 69) (v := ?_) (a' := ?_) #[true, true, true, true, true, true, true, false] rfl rfl (by kernel_rfl) (fun _ _ _ h => h) (Or.inl ⟨by rfl, ?_⟩) ?_ ?_
  rotate_left
  · intro w'
    go_simp
    with_reducible rfl
  rotate_left
  · simp only [Act.put, List.setIfInBounds_toArray, List.set_cons_zero, List.set_cons_succ, i64_w, i32_w, IntKind.wrap_u32, IntKind.wrap_u8, IntKind.wrap_u16]
    rfl
  refine pure_ (i := 7) (N := some 12) (v := ?_) (a' := ?_) #[true, true, true, true, true, true, true, true] rfl rfl (by kernel_rfl) (fun _ _ _ h => h) (Or.inl ⟨by rfl, ?_⟩) ?_ ?_
  rotate_left
  · intro w'
    go_simp
    with_reducible rfl
  rotate_left
  · simp only [Act.put, List.setIfInBounds_toArray, List.set_cons_zero, List.set_cons_succ, i64_w, i32_w, IntKind.wrap_u32, IntKind.wrap_u8, IntKind.wrap_u16]
    rfl
  refine done_ (by kernel_rfl) ?_
  go_wp2
  go_ret2
  exact ⟨rfl, sl_below H.out (sl_below0 (show SL w _ _ from (by repeat (with_reducible first | exact HS.out | apply sl_drewN | apply sl_drew | apply sl_box))))⟩

set_option maxHeartbeats 4000000 in
set_option maxRecDepth 100000 in
theorem adj_F0S1K0 {w0 w : World} {L : List Res} (h : SL w0 w L) (a0 a1 len an gr off b lo hi at_ fl m : Int) (ah : AH a0 a1 len an gr off lo hi at_ fl) (f1 : fit lo hi len at_ = false) (e4 : Go.bits .and .i64 b 4 = 0) (e1 : Go.bits .and .i64 b 1 = 1) (em : (if hi - len < at_ then hi - len else at_) = m) (hm : (m < lo) = True) (e16 : Go.bits .and .i64 b 16 = 0) :
    Calls Tryd.prog 32 #[.agg #[.int .i64 len, .int .i64 a0, .int .i64 a1, .int .i64 an, .int .i64 gr, .int .i64 off], .int .i64 b, .int .i64 lo, .int .i64 hi] w fun e w' => e = .returned (.tuple #[.int .i64 (lo), .int .i64 (lo + len)]) ∧ SL w0 w' L := by
  obtain ⟨hp1, hp2, hfl, ⟨b10, b11⟩, ⟨b20, b21⟩, wa, wf, wh, wl, wll, wi⟩ := adj_pre w ah
  obtain ⟨h0, h1, h2, h3, h4, h5, h6, h7, ha, hg, l0, l1, l2, eat, efl⟩ := ah
  have H := Aside0.mk h
  have HS := Aside0.mk (sl_start w)
  have HP1 := Aside0.mk @hp1
  have HP2 := Aside0.mk @hp2
  have HFl := Aside0.mk @hfl
  clear h eat efl ha hg hp1 hp2 hfl
  go_enter Tryd.func32, Tryd.ntmps32
  go_wp2_with (first
    | (go_at_call 30; (first | with_reducible refine (HP1.out (by repeat (with_reducible first | exact HS.out | apply sl_drewN | apply sl_drew | apply sl_box))).mono ?_ | with_reducible refine (HP2.out (by repeat (with_reducible first | exact HS.out | apply sl_drewN | apply sl_drew | apply sl_box))).mono ?_); rintro e w1 ⟨rfl, hs⟩; (try simp only [World.size_alloc] at hs); replace HS := Aside0.mk (show SL w w1 [cellsR w.heap.size 47 #[.int .i64 len, .int .i64 a0, .int .i64 a1, .int .i64 an, .int .i64 gr, .int .i64 off], cellsR (w.heap.size + 1) 3 #[.int .i64 lo], cellsR (w.heap.size + 1 + 1) 3 #[.int .i64 hi]] from hs); clear hs; have ca0 := c_at HS.out 0 rfl 0 rfl; have ca1 := c_at HS.out 0 rfl 1 rfl; have ca2 := c_at HS.out 0 rfl 2 rfl; have ca3 := c_at HS.out 0 rfl 3 rfl; have ca4 := c_at HS.out 0 rfl 4 rfl; have ca5 := c_at HS.out 0 rfl 5 rfl; have cl := c_at HS.out 1 rfl 0 rfl; have ch := c_at HS.out 2 rfl 0 rfl)
    | (go_at_call 34; refine (HFl.out (by repeat (with_reducible first | exact HS.out | apply sl_drewN | apply sl_drew | apply sl_box))).mono ?_; rintro e w1 ⟨rfl, hs⟩; (try simp only [World.size_alloc] at hs); replace HS := Aside0.mk (show SL w w1 [cellsR w.heap.size 47 #[.int .i64 len, .int .i64 a0, .int .i64 a1, .int .i64 an, .int .i64 gr, .int .i64 off], cellsR (w.heap.size + 1) 3 #[.int .i64 lo], cellsR (w.heap.size + 1 + 1) 3 #[.int .i64 hi]] from hs); clear hs; have ca0 := c_at HS.out 0 rfl 0 rfl; have ca1 := c_at HS.out 0 rfl 1 rfl; have ca2 := c_at HS.out 0 rfl 2 rfl; have ca3 := c_at HS.out 0 rfl 3 rfl; have ca4 := c_at HS.out 0 rfl 4 rfl; have ca5 := c_at HS.out 0 rfl 5 rfl; have cl := c_at HS.out 1 rfl 0 rfl; have ch := c_at HS.out 2 rfl 0 rfl)
    | (go_at_call 33; refine (fits_s _ _ _ _ lo hi len _ _ _ _ _ (by repeat (with_reducible first | exact HS.out | apply sl_drewN | apply sl_drew | apply sl_box)) (by omega) (by omega) (by omega) (by omega)).mono ?_; rintro e w1 ⟨rfl, hs⟩; (try simp only [World.size_alloc] at hs); replace HS := Aside0.mk (show SL w w1 [cellsR w.heap.size 47 #[.int .i64 len, .int .i64 a0, .int .i64 a1, .int .i64 an, .int .i64 gr, .int .i64 off], cellsR (w.heap.size + 1) 3 #[.int .i64 lo], cellsR (w.heap.size + 1 + 1) 3 #[.int .i64 hi]] from hs); clear hs; have ca0 := c_at HS.out 0 rfl 0 rfl; have ca1 := c_at HS.out 0 rfl 1 rfl; have ca2 := c_at HS.out 0 rfl 2 rfl; have ca3 := c_at HS.out 0 rfl 3 rfl; have ca4 := c_at HS.out 0 rfl 4 rfl; have ca5 := c_at HS.out 0 rfl 5 rfl; have cl := c_at HS.out 1 rfl 0 rfl; have ch := c_at HS.out 2 rfl 0 rfl))
  go_ret2
  exact ⟨rfl, sl_below H.out (sl_below0 (show SL w _ _ from (by repeat (with_reducible first | exact HS.out | apply sl_drewN | apply sl_drew | apply sl_box))))⟩

set_option maxHeartbeats 4000000 in
set_option maxRecDepth 100000 in
theorem adj_F0S1KF {w0 w : World} {L : List Res} (h : SL w0 w L) (a0 a1 len an gr off b lo hi at_ fl m : Int) (ah : AH a0 a1 len an gr off lo hi at_ fl) (f1 : fit lo hi len at_ = false) (e4 : Go.bits .and .i64 b 4 = 0) (e1 : Go.bits .and .i64 b 1 = 1) (em : (if hi - len < at_ then hi - len else at_) = m) (hm : (m < lo) = True) (e16 : Go.bits .and .i64 b 16 = 16) (f2 : fit lo hi len lo = true) :
    Calls Tryd.prog 32 #[.agg #[.int .i64 len, .int .i64 a0, .int .i64 a1, .int .i64 an, .int .i64 gr, .int .i64 off], .int .i64 b, .int .i64 lo, .int .i64 hi] w fun e w' => e = .returned (.tuple #[.int .i64 (lo), .int .i64 (lo + len)]) ∧ SL w0 w' L := by
  obtain ⟨hp1, hp2, hfl, ⟨b10, b11⟩, ⟨b20, b21⟩, wa, wf, wh, wl, wll, wi⟩ := adj_pre w ah
  obtain ⟨h0, h1, h2, h3, h4, h5, h6, h7, ha, hg, l0, l1, l2, eat, efl⟩ := ah
  have H := Aside0.mk h
  have HS := Aside0.mk (sl_start w)
  have HP1 := Aside0.mk @hp1
  have HP2 := Aside0.mk @hp2
  have HFl := Aside0.mk @hfl
  clear h eat efl ha hg hp1 hp2 hfl
  go_enter Tryd.func32, Tryd.ntmps32
  go_wp2_with (first
    | (go_at_call 30; (first | with_reducible refine (HP1.out (by repeat (with_reducible first | exact HS.out | apply sl_drewN | apply sl_drew | apply sl_box))).mono ?_ | with_reducible refine (HP2.out (by repeat (with_reducible first | exact HS.out | apply sl_drewN | apply sl_drew | apply sl_box))).mono ?_); rintro e w1 ⟨rfl, hs⟩; (try simp only [World.size_alloc] at hs); replace HS := Aside0.mk (show SL w w1 [cellsR w.heap.size 47 #[.int .i64 len, .int .i64 a0, .int .i64 a1, .int .i64 an, .int .i64 gr, .int .i64 off], cellsR (w.heap.size + 1) 3 #[.int .i64 lo], cellsR (w.heap.size + 1 + 1) 3 #[.int .i64 hi]] from hs); clear hs; have ca0 := c_at HS.out 0 rfl 0 rfl; have ca1 := c_at HS.out 0 rfl 1 rfl; have ca2 := c_at HS.out 0 rfl 2 rfl; have ca3 := c_at HS.out 0 rfl 3 rfl; have ca4 := c_at HS.out 0 rfl 4 rfl; have ca5 := c_at HS.out 0 rfl 5 rfl; have cl := c_at HS.out 1 rfl 0 rfl; have ch := c_at HS.out 2 rfl 0 rfl)
    | (go_at_call 34; refine (HFl.out (by repeat (with_reducible first | exact HS.out | apply sl_drewN | apply sl_drew | apply sl_box))).mono ?_; rintro e w1 ⟨rfl, hs⟩; (try simp only [World.size_alloc] at hs); replace HS := Aside0.mk (show SL w w1 [cellsR w.heap.size 47 #[.int .i64 len, .int .i64 a0, .int .i64 a1, .int .i64 an, .int .i64 gr, .int .i64 off], cellsR (w.heap.size + 1) 3 #[.int .i64 lo], cellsR (w.heap.size + 1 + 1) 3 #[.int .i64 hi]] from hs); clear hs; have ca0 := c_at HS.out 0 rfl 0 rfl; have ca1 := c_at HS.out 0 rfl 1 rfl; have ca2 := c_at HS.out 0 rfl 2 rfl; have ca3 := c_at HS.out 0 rfl 3 rfl; have ca4 := c_at HS.out 0 rfl 4 rfl; have ca5 := c_at HS.out 0 rfl 5 rfl; have cl := c_at HS.out 1 rfl 0 rfl; have ch := c_at HS.out 2 rfl 0 rfl)
    | (go_at_call 33; refine (fits_s _ _ _ _ lo hi len _ _ _ _ _ (by repeat (with_reducible first | exact HS.out | apply sl_drewN | apply sl_drew | apply sl_box)) (by omega) (by omega) (by omega) (by omega)).mono ?_; rintro e w1 ⟨rfl, hs⟩; (try simp only [World.size_alloc] at hs); replace HS := Aside0.mk (show SL w w1 [cellsR w.heap.size 47 #[.int .i64 len, .int .i64 a0, .int .i64 a1, .int .i64 an, .int .i64 gr, .int .i64 off], cellsR (w.heap.size + 1) 3 #[.int .i64 lo], cellsR (w.heap.size + 1 + 1) 3 #[.int .i64 hi]] from hs); clear hs; have ca0 := c_at HS.out 0 rfl 0 rfl; have ca1 := c_at HS.out 0 rfl 1 rfl; have ca2 := c_at HS.out 0 rfl 2 rfl; have ca3 := c_at HS.out 0 rfl 3 rfl; have ca4 := c_at HS.out 0 rfl 4 rfl; have ca5 := c_at HS.out 0 rfl 5 rfl; have cl := c_at HS.out 1 rfl 0 rfl; have ch := c_at HS.out 2 rfl 0 rfl))
  go_ret2
  exact ⟨rfl, sl_below H.out (sl_below0 (show SL w _ _ from (by repeat (with_reducible first | exact HS.out | apply sl_drewN | apply sl_drew | apply sl_box))))⟩

set_option maxHeartbeats 4000000 in
set_option maxRecDepth 100000 in
theorem adj_F0S1R3 {w0 w : World} {L : List Res} (h : SL w0 w L) (a0 a1 len an gr off b lo hi at_ fl m n : Int) (ah : AH a0 a1 len an gr off lo hi at_ fl) (f1 : fit lo hi len at_ = false) (e4 : Go.bits .and .i64 b 4 = 0) (e1 : Go.bits .and .i64 b 1 = 1) (em : (if hi - len < at_ then hi - len else at_) = m) (hm : (m < lo) = True) (e16 : Go.bits .and .i64 b 16 = 16) (f2 : fit lo hi len lo = false) (en : (if hi < lo + len then hi else lo + len) = n) (hn : (n ≤ lo) = False) (hy : (hi ≤ lo) = False) :
    Calls Tryd.prog 32 #[.agg #[.int .i64 len, .int .i64 a0, .int .i64 a1, .int .i64 an, .int .i64 gr, .int .i64 off], .int .i64 b, .int .i64 lo, .int .i64 hi] w fun e w' => e = .returned (.tuple #[.int .i64 (lo), .int .i64 (n)]) ∧ SL w0 w' L := by
  obtain ⟨hp1, hp2, hfl, ⟨b10, b11⟩, ⟨b20, b21⟩, wa, wf, wh, wl, wll, wi⟩ := adj_pre w ah
  obtain ⟨h0, h1, h2, h3, h4, h5, h6, h7, ha, hg, l0, l1, l2, eat, efl⟩ := ah
  have H := Aside0.mk h
  have HS := Aside0.mk (sl_start w)
  have HP1 := Aside0.mk @hp1
  have HP2 := Aside0.mk @hp2
  have HFl := Aside0.mk @hfl
  clear h eat efl ha hg hp1 hp2 hfl
  go_enter Tryd.func32, Tryd.ntmps32
  go_upto_region 14 with (first
    | (go_at_call 30; (first | with_reducible refine (HP1.out (by repeat (with_reducible first | exact HS.out | apply sl_drewN | apply sl_drew | apply sl_box))).mono ?_ | with_reducible refine (HP2.out (by repeat (with_reducible first | exact HS.out | apply sl_drewN | apply sl_drew | apply sl_box))).mono ?_); rintro e w1 ⟨rfl, hs⟩; (try simp only [World.size_alloc] at hs); replace HS := Aside0.mk (show SL w w1 [cellsR w.heap.size 47 #[.int .i64 len, .int .i64 a0, .int .i64 a1, .int .i64 an, .int .i64 gr, .int .i64 off], cellsR (w.heap.size + 1) 3 #[.int .i64 lo], cellsR (w.heap.size + 1 + 1) 3 #[.int .i64 hi]] from hs); clear hs; have ca0 := c_at HS.out 0 rfl 0 rfl; have ca1 := c_at HS.out 0 rfl 1 rfl; have ca2 := c_at HS.out 0 rfl 2 rfl; have ca3 := c_at HS.out 0 rfl 3 rfl; have ca4 := c_at HS.out 0 rfl 4 rfl; have ca5 := c_at HS.out 0 rfl 5 rfl; have cl := c_at HS.out 1 rfl 0 rfl; have ch := c_at HS.out 2 rfl 0 rfl)
    | (go_at_call 34; refine (HFl.out (by repeat (with_reducible first | exact HS.out | apply sl_drewN | apply sl_drew | apply sl_box))).mono ?_; rintro e w1 ⟨rfl, hs⟩; (try simp only [World.size_alloc] at hs); replace HS := Aside0.mk (show SL w w1 [cellsR w.heap.size 47 #[.int .i64 len, .int .i64 a0, .int .i64 a1, .int .i64 an, .int .i64 gr, .int .i64 off], cellsR (w.heap.size + 1) 3 #[.int .i64 lo], cellsR (w.heap.size + 1 + 1) 3 #[.int .i64 hi]] from hs); clear hs; have ca0 := c_at HS.out 0 rfl 0 rfl; have ca1 := c_at HS.out 0 rfl 1 rfl; have ca2 := c_at HS.out 0 rfl 2 rfl; have ca3 := c_at HS.out 0 rfl 3 rfl; have ca4 := c_at HS.out 0 rfl 4 rfl; have ca5 := c_at HS.out 0 rfl 5 rfl; have cl := c_at HS.out 1 rfl 0 rfl; have ch := c_at HS.out 2 rfl 0 rfl)
    | (go_at_call 33; refine (fits_s _ _ _ _ lo hi len _ _ _ _ _ (by repeat (with_reducible first | exact HS.out | apply sl_drewN | apply sl_drew | apply sl_box)) (by omega) (by omega) (by omega) (by omega)).mono ?_; rintro e w1 ⟨rfl, hs⟩; (try simp only [World.size_alloc] at hs); replace HS := Aside0.mk (show SL w w1 [cellsR w.heap.size 47 #[.int .i64 len, .int .i64 a0, .int .i64 a1, .int .i64 an, .int .i64 gr, .int .i64 off], cellsR (w.heap.size + 1) 3 #[.int .i64 lo], cellsR (w.heap.size + 1 + 1) 3 #[.int .i64 hi]] from hs); clear hs; have ca0 := c_at HS.out 0 rfl 0 rfl; have ca1 := c_at HS.out 0 rfl 1 rfl; have ca2 := c_at HS.out 0 rfl 2 rfl; have ca3 := c_at HS.out 0 rfl 3 rfl; have ca4 := c_at HS.out 0 rfl 4 rfl; have ca5 := c_at HS.out 0 rfl 5 rfl; have cl := c_at HS.out 1 rfl 0 rfl; have ch := c_at HS.out 2 rfl 0 rfl))
  refine start_ (n := 8) (S := fun w' => w'.cell? ⟨w.heap.size + 1, 0, none⟩ = some (.int .i64 lo) ∧ w'.cell? ⟨w.heap.size + 1 + 1, 0, none⟩ = some (.int .i64 hi)) (ds := []) #[false, false, false, false, false, false, false, false] (by kernel_rfl) rfl rfl ⟨(blk_cell (sl_blk (sl_drew HS.out) 1 rfl) 0).trans (show _ = some (Value.int .i64 lo) from rfl), (blk_cell (sl_blk (sl_drew HS.out) 2 rfl) 0).trans (show _ = some (Value.int .i64 hi) from rfl)⟩ (fun hHeld => ?_)
  refine pure_ (i := 0) (N := some 64) (v := ?_) (a' := ?_) #[true, false, false, false, false, false, false, false] rfl rfl (by kernel_rfl) (fun _ _ _ h => h) (Or.inl ⟨by rfl, ?_⟩) ?_ ?_
  rotate_left
  · intro w'
    go_simp
    with_reducible rfl
  rotate_left
  · simp only [Act.put, List.setIfInBounds_toArray, List.set_cons_zero, List.set_cons_succ, i64_w, i32_w, IntKind.wrap_u32, IntKind.wrap_u8, IntKind.wrap_u16]
    rfl
  refine pure_ (i := 3) (N := some 67) (v := ?_) (a' := ?_) #[true, false, false, true, false, false, false, false] rfl rfl (by kernel_rfl) (fun _ _ _ h => h) (Or.inl ⟨by rfl, ?_⟩) ?_ ?_
  rotate_left
  · intro w'
    go_simp
    with_reducible rfl
  rotate_left
  · simp only [Act.put, List.setIfInBounds_toArray, List.set_cons_zero, List.set_cons_succ, i64_w, i32_w, IntKind.wrap_u32, IntKind.wrap_u8, IntKind.wrap_u16]
    rfl
  refine take_ (i := 1) (N := some 65) (v := ?_) (a' := ?_) #[true, true, false, true, false, false, false, false] rfl rfl (by kernel_rfl) (fun _ _ _ h => h) (Or.inl ⟨by rfl, ?_⟩) hHeld ?_ ?_
  rotate_left
  · rintro w' ⟨s0, s1⟩
    go_simp
    with_reducible rfl
  rotate_left
  · simp only [Act.put, List.setIfInBounds_toArray, List.set_cons_zero, List.set_cons_succ, i64_w, i32_w, IntKind.wrap_u32, IntKind.wrap_u8, IntKind.wrap_u16]
    rfl
  refine pure_ (i := 2) (N := some 66) (v := ?_) (a' := ?_) #[true, true, true, true, false, false, false, false] rfl rfl (by kernel_rfl) (fun _ _ _ h => h) (Or.inl ⟨by rfl, ?_⟩) ?_ ?_
  rotate_left
  · intro w'
    go_simp
    with_reducible rfl
  rotate_left
  · simp only [Act.put, List.setIfInBounds_toArray, List.set_cons_zero, List.set_cons_succ, i64_w, i32_w, IntKind.wrap_u32, IntKind.wrap_u8, IntKind.wrap_u16]
    rfl
  refine pure_ (i := 6) (N := some 11) (v := ?_) (a' := ?_) #[true, true, true, true, false, false, true, false] rfl rfl (by kernel_rfl) (fun _ _ _ h => h) (Or.inl ⟨by rfl, ?_⟩) ?_ ?_
  rotate_left
  · intro w'
    go_simp
    with_reducible rfl
  rotate_left
  · simp only [Act.put, List.setIfInBounds_toArray, List.set_cons_zero, List.set_cons_succ, i64_w, i32_w, IntKind.wrap_u32, IntKind.wrap_u8, IntKind.wrap_u16]
    rfl
  refine take_ (i := 4) (N := some 68) (v := ?_) (a' := ?_) #[true, true, true, true, true, false, true, false] rfl rfl (by kernel_rfl) (fun _ _ _ h => h) (Or.inl ⟨by rfl, ?_⟩) hHeld ?_ ?_
  rotate_left
  · rintro w' ⟨s0, s1⟩
    go_simp
    with_reducible rfl
  rotate_left
  · simp only [Act.put, List.setIfInBounds_toArray, List.set_cons_zero, List.set_cons_succ, i64_w, i32_w, IntKind.wrap_u32, IntKind.wrap_u8, IntKind.wrap_u16]
    rfl
  refine pure_ (i := 5) (N := some 69) (v := ?_) (a' := ?_) #[true, true, true, true, true, true, true, false] rfl rfl (by kernel_rfl) (fun _ _ _ h => h) (Or.inl ⟨by rfl, ?_⟩) ?_ ?_
  rotate_left
  · intro w'
    go_simp
    with_reducible rfl
  rotate_left
  · simp only [Act.put, List.setIfInBounds_toArray, List.set_cons_zero, List.set_cons_succ, i64_w, i32_w, IntKind.wrap_u32, IntKind.wrap_u8, IntKind.wrap_u16]
    rfl
  refine pure_ (i := 7) (N := some 12) (v := ?_) (a' := ?_) #[true, true, true, true, true, true, true, true] rfl rfl (by kernel_rfl) (fun _ _ _ h => h) (Or.inl ⟨by rfl, ?_⟩) ?_ ?_
  rotate_left
  · intro w'
    go_simp
    with_reducible rfl
  rotate_left
  · simp only [Act.put, List.setIfInBounds_toArray, List.set_cons_zero, List.set_cons_succ, i64_w, i32_w, IntKind.wrap_u32, IntKind.wrap_u8, IntKind.wrap_u16]
    rfl
  refine done_ (by kernel_rfl) ?_
  go_wp2
  go_ret2
  exact ⟨rfl, sl_below H.out (sl_below0 (show SL w _ _ from (by repeat (with_reducible first | exact HS.out | apply sl_drewN | apply sl_drew | apply sl_box))))⟩

set_option maxHeartbeats 4000000 in
set_option maxRecDepth 100000 in
theorem adj_F0S2K0 {w0 w : World} {L : List Res} (h : SL w0 w L) (a0 a1 len an gr off b lo hi at_ fl m : Int) (ah : AH a0 a1 len an gr off lo hi at_ fl) (f1 : fit lo hi len at_ = false) (e4 : Go.bits .and .i64 b 4 = 0) (e1 : Go.bits .and .i64 b 1 = 1) (em : (if hi - len < at_ then hi - len else at_) = m) (hm : (m < lo) = False) (mb : m ≤ 100000) (e16 : Go.bits .and .i64 b 16 = 0) :
    Calls Tryd.prog 32 #[.agg #[.int .i64 len, .int .i64 a0, .int .i64 a1, .int .i64 an, .int .i64 gr, .int .i64 off], .int .i64 b, .int .i64 lo, .int .i64 hi] w fun e w' => e = .returned (.tuple #[.int .i64 (m), .int .i64 (m + len)]) ∧ SL w0 w' L := by
  obtain ⟨hp1, hp2, hfl, ⟨b10, b11⟩, ⟨b20, b21⟩, wa, wf, wh, wl, wll, wi⟩ := adj_pre w ah
  obtain ⟨h0, h1, h2, h3, h4, h5, h6, h7, ha, hg, l0, l1, l2, eat, efl⟩ := ah
  have H := Aside0.mk h
  have HS := Aside0.mk (sl_start w)
  have HP1 := Aside0.mk @hp1
  have HP2 := Aside0.mk @hp2
  have HFl := Aside0.mk @hfl
  have hm2 : lo ≤ m := Int.not_lt.1 (of_eq_false hm)
  have wm : wrap64 (m + len) = m + len := w64 (by omega) (by omega)
  clear h eat efl ha hg hp1 hp2 hfl
  go_enter Tryd.func32, Tryd.ntmps32
  go_wp2_with (first
    | (go_at_call 30; (first | with_reducible refine (HP1.out (by repeat (with_reducible first | exact HS.out | apply sl_drewN | apply sl_drew | apply sl_box))).mono ?_ | with_reducible refine (HP2.out (by repeat (with_reducible first | exact HS.out | apply sl_drewN | apply sl_drew | apply sl_box))).mono ?_); rintro e w1 ⟨rfl, hs⟩; (try simp only [World.size_alloc] at hs); replace HS := Aside0.mk (show SL w w1 [cellsR w.heap.size 47 #[.int .i64 len, .int .i64 a0, .int .i64 a1, .int .i64 an, .int .i64 gr, .int .i64 off], cellsR (w.heap.size + 1) 3 #[.int .i64 lo], cellsR (w.heap.size + 1 + 1) 3 #[.int .i64 hi]] from hs); clear hs; have ca0 := c_at HS.out 0 rfl 0 rfl; have ca1 := c_at HS.out 0 rfl 1 rfl; have ca2 := c_at HS.out 0 rfl 2 rfl; have ca3 := c_at HS.out 0 rfl 3 rfl; have ca4 := c_at HS.out 0 rfl 4 rfl; have ca5 := c_at HS.out 0 rfl 5 rfl; have cl := c_at HS.out 1 rfl 0 rfl; have ch := c_at HS.out 2 rfl 0 rfl)
    | (go_at_call 34; refine (HFl.out (by repeat (with_reducible first | exact HS.out | apply sl_drewN | apply sl_drew | apply sl_box))).mono ?_; rintro e w1 ⟨rfl, hs⟩; (try simp only [World.size_alloc] at hs); replace HS := Aside0.mk (show SL w w1 [cellsR w.heap.size 47 #[.int .i64 len, .int .i64 a0, .int .i64 a1, .int .i64 an, .int .i64 gr, .int .i64 off], cellsR (w.heap.size + 1) 3 #[.int .i64 lo], cellsR (w.heap.size + 1 + 1) 3 #[.int .i64 hi]] from hs); clear hs; have ca0 := c_at HS.out 0 rfl 0 rfl; have ca1 := c_at HS.out 0 rfl 1 rfl; have ca2 := c_at HS.out 0 rfl 2 rfl; have ca3 := c_at HS.out 0 rfl 3 rfl; have ca4 := c_at HS.out 0 rfl 4 rfl; have ca5 := c_at HS.out 0 rfl 5 rfl; have cl := c_at HS.out 1 rfl 0 rfl; have ch := c_at HS.out 2 rfl 0 rfl)
    | (go_at_call 33; refine (fits_s _ _ _ _ lo hi len _ _ _ _ _ (by repeat (with_reducible first | exact HS.out | apply sl_drewN | apply sl_drew | apply sl_box)) (by omega) (by omega) (by omega) (by omega)).mono ?_; rintro e w1 ⟨rfl, hs⟩; (try simp only [World.size_alloc] at hs); replace HS := Aside0.mk (show SL w w1 [cellsR w.heap.size 47 #[.int .i64 len, .int .i64 a0, .int .i64 a1, .int .i64 an, .int .i64 gr, .int .i64 off], cellsR (w.heap.size + 1) 3 #[.int .i64 lo], cellsR (w.heap.size + 1 + 1) 3 #[.int .i64 hi]] from hs); clear hs; have ca0 := c_at HS.out 0 rfl 0 rfl; have ca1 := c_at HS.out 0 rfl 1 rfl; have ca2 := c_at HS.out 0 rfl 2 rfl; have ca3 := c_at HS.out 0 rfl 3 rfl; have ca4 := c_at HS.out 0 rfl 4 rfl; have ca5 := c_at HS.out 0 rfl 5 rfl; have cl := c_at HS.out 1 rfl 0 rfl; have ch := c_at HS.out 2 rfl 0 rfl))
  go_ret2
  exact ⟨rfl, sl_below H.out (sl_below0 (show SL w _ _ from (by repeat (with_reducible first | exact HS.out | apply sl_drewN | apply sl_drew | apply sl_box))))⟩

set_option maxHeartbeats 4000000 in
set_option maxRecDepth 100000 in
theorem adj_F0S2KF {w0 w : World} {L : List Res} (h : SL w0 w L) (a0 a1 len an gr off b lo hi at_ fl m : Int) (ah : AH a0 a1 len an gr off lo hi at_ fl) (f1 : fit lo hi len at_ = false) (e4 : Go.bits .and .i64 b 4 = 0) (e1 : Go.bits .and .i64 b 1 = 1) (em : (if hi - len < at_ then hi - len else at_) = m) (hm : (m < lo) = False) (mb : m ≤ 100000) (e16 : Go.bits .and .i64 b 16 = 16) (f2 : fit lo hi len m = true) :
    Calls Tryd.prog 32 #[.agg #[.int .i64 len, .int .i64 a0, .int .i64 a1, .int .i64 an, .int .i64 gr, .int .i64 off], .int .i64 b, .int .i64 lo, .int .i64 hi] w fun e w' => e = .returned (.tuple #[.int .i64 (m), .int .i64 (m + len)]) ∧ SL w0 w' L := by
  obtain ⟨hp1, hp2, hfl, ⟨b10, b11⟩, ⟨b20, b21⟩, wa, wf, wh, wl, wll, wi⟩ := adj_pre w ah
  obtain ⟨h0, h1, h2, h3, h4, h5, h6, h7, ha, hg, l0, l1, l2, eat, efl⟩ := ah
  have H := Aside0.mk h
  have HS := Aside0.mk (sl_start w)
  have HP1 := Aside0.mk @hp1
  have HP2 := Aside0.mk @hp2
  have HFl := Aside0.mk @hfl
  have hm2 : lo ≤ m := Int.not_lt.1 (of_eq_false hm)
  have wm : wrap64 (m + len) = m + len := w64 (by omega) (by omega)
  clear h eat efl ha hg hp1 hp2 hfl
  go_enter Tryd.func32, Tryd.ntmps32
  go_wp2_with (first
    | (go_at_call 30; (first | with_reducible refine (HP1.out (by repeat (with_reducible first | exact HS.out | apply sl_drewN | apply sl_drew | apply sl_box))).mono ?_ | with_reducible refine (HP2.out (by repeat (with_reducible first | exact HS.out | apply sl_drewN | apply sl_drew | apply sl_box))).mono ?_); rintro e w1 ⟨rfl, hs⟩; (try simp only [World.size_alloc] at hs); replace HS := Aside0.mk (show SL w w1 [cellsR w.heap.size 47 #[.int .i64 len, .int .i64 a0, .int .i64 a1, .int .i64 an, .int .i64 gr, .int .i64 off], cellsR (w.heap.size + 1) 3 #[.int .i64 lo], cellsR (w.heap.size + 1 + 1) 3 #[.int .i64 hi]] from hs); clear hs; have ca0 := c_at HS.out 0 rfl 0 rfl; have ca1 := c_at HS.out 0 rfl 1 rfl; have ca2 := c_at HS.out 0 rfl 2 rfl; have ca3 := c_at HS.out 0 rfl 3 rfl; have ca4 := c_at HS.out 0 rfl 4 rfl; have ca5 := c_at HS.out 0 rfl 5 rfl; have cl := c_at HS.out 1 rfl 0 rfl; have ch := c_at HS.out 2 rfl 0 rfl)
    | (go_at_call 34; refine (HFl.out (by repeat (with_reducible first | exact HS.out | apply sl_drewN | apply sl_drew | apply sl_box))).mono ?_; rintro e w1 ⟨rfl, hs⟩; (try simp only [World.size_alloc] at hs); replace HS := Aside0.mk (show SL w w1 [cellsR w.heap.size 47 #[.int .i64 len, .int .i64 a0, .int .i64 a1, .int .i64 an, .int .i64 gr, .int .i64 off], cellsR (w.heap.size + 1) 3 #[.int .i64 lo], cellsR (w.heap.size + 1 + 1) 3 #[.int .i64 hi]] from hs); clear hs; have ca0 := c_at HS.out 0 rfl 0 rfl; have ca1 := c_at HS.out 0 rfl 1 rfl; have ca2 := c_at HS.out 0 rfl 2 rfl; have ca3 := c_at HS.out 0 rfl 3 rfl; have ca4 := c_at HS.out 0 rfl 4 rfl; have ca5 := c_at HS.out 0 rfl 5 rfl; have cl := c_at HS.out 1 rfl 0 rfl; have ch := c_at HS.out 2 rfl 0 rfl)
    | (go_at_call 33; refine (fits_s _ _ _ _ lo hi len _ _ _ _ _ (by repeat (with_reducible first | exact HS.out | apply sl_drewN | apply sl_drew | apply sl_box)) (by omega) (by omega) (by omega) (by omega)).mono ?_; rintro e w1 ⟨rfl, hs⟩; (try simp only [World.size_alloc] at hs); replace HS := Aside0.mk (show SL w w1 [cellsR w.heap.size 47 #[.int .i64 len, .int .i64 a0, .int .i64 a1, .int .i64 an, .int .i64 gr, .int .i64 off], cellsR (w.heap.size + 1) 3 #[.int .i64 lo], cellsR (w.heap.size + 1 + 1) 3 #[.int .i64 hi]] from hs); clear hs; have ca0 := c_at HS.out 0 rfl 0 rfl; have ca1 := c_at HS.out 0 rfl 1 rfl; have ca2 := c_at HS.out 0 rfl 2 rfl; have ca3 := c_at HS.out 0 rfl 3 rfl; have ca4 := c_at HS.out 0 rfl 4 rfl; have ca5 := c_at HS.out 0 rfl 5 rfl; have cl := c_at HS.out 1 rfl 0 rfl; have ch := c_at HS.out 2 rfl 0 rfl))
  go_ret2
  exact ⟨rfl, sl_below H.out (sl_below0 (show SL w _ _ from (by repeat (with_reducible first | exact HS.out | apply sl_drewN | apply sl_drew | apply sl_box))))⟩
end Go.Proofs.YtinchgipfaefbaaDoor.Q
