import Derived.Test.YtockppikcghmoaaQu4
namespace Go.Proofs.Ytockppikcghmoaa.Q
open Go.RowKit Go.Proofs.YtockppikcghmoaaW.PrintWords Go.Proofs.YtockppikcghmoaaW.PrintLast Go.Proofs.YtockppikcghmoaaW.PrintMore Go.Proofs.Ytockppikcghmoaa.Sl Go.Proofs.Ytockppikcghmoaa.Hand 
attribute [local go_sem] max2_int min2_int max_two min_two max_three min_three max_four min_four 
set_option linter.unusedVariables false
set_option linter.unusedSimpArgs false

theorem no_ptr {v : Value} {w : World} (h : NoQueue v w) : ∃ p, v = .pointer p := by
  rcases h with rfl | ⟨g, rfl, _⟩
  · exact ⟨_, rfl⟩
  · exact ⟨_, rfl⟩
theorem no_below {v : Value} {w w' : World} (h : NoQueue v w) (hb : Below w.heap.size w w') : NoQueue v w' := by
  rcases h with rfl | ⟨g, rfl, h⟩
  · exact .inl rfl
  · exact .inr ⟨g, rfl, blk_below h hb⟩
theorem no_alloc {v : Value} {w : World} (h : NoQueue v w) (o : Obj) : NoQueue v (w.alloc o) := no_below h (below_alloc (Below.refl _ _) o)
theorem no_Send (v : Value) (s a b st : Int) (w : World) (h : NoQueue v w) : Calls Try.prog 12 #[v, .int .u32 s, .int .i64 a, .int .i64 b, .int .i64 st] w fun e w' => e = .returned (.int .i64 1) ∧ w = w' := by
  have H := Aside0.mk h
  clear h
  go_enter Try.func12, Try.ntmps12
  go_wp2_with (first | (go_at_call 24; refine (no_usable v _ H.out).mono ?_; rintro e w1 ⟨rfl, rfl⟩))
  go_ret
  exact ⟨rfl, rfl⟩
theorem no_Ack (v : Value) (s : Int) (w : World) (h : NoQueue v w) : Calls Try.prog 14 #[v, .int .u32 s] w fun e w' => e = .returned (.int .i64 1) ∧ w = w' := by
  have H := Aside0.mk h
  clear h
  go_enter Try.func14, Try.ntmps14
  go_wp2_with (first | (go_at_call 24; refine (no_usable v _ H.out).mono ?_; rintro e w1 ⟨rfl, rfl⟩))
  go_ret
  exact ⟨rfl, rfl⟩
theorem no_Waiting (v : Value) (w : World) (h : NoQueue v w) : Calls Try.prog 20 #[v] w fun e w' => e = .returned (.int .i64 0) ∧ w = w' := by
  have H := Aside0.mk h
  clear h
  go_enter Try.func20, Try.ntmps20
  go_wp2_with (first | (go_at_call 24; refine (no_usable v _ H.out).mono ?_; rintro e w1 ⟨rfl, rfl⟩))
  go_ret
  exact ⟨rfl, rfl⟩
theorem no_Configured (v : Value) (w : World) (h : NoQueue v w) : Calls Try.prog 22 #[v] w fun e w' => e = .returned (.bool false) ∧ w = w' := by
  have H := Aside0.mk h
  clear h
  go_enter Try.func22, Try.ntmps22
  go_wp2_with (first | (go_at_call 24; refine (no_usable v _ H.out).mono ?_; rintro e w1 ⟨rfl, rfl⟩))
  go_ret
  exact ⟨rfl, rfl⟩
set_option maxRecDepth 100000 in
theorem no_Acked (v : Value) (w : World) (h : NoQueue v w) : Calls Try.prog 18 #[v] w fun e w' => e = .returned (rcfg z40 false) ∧ Below w.heap.size w w' := by
  have H := Aside0.mk h
  clear h
  go_enter Try.func18, Try.ntmps18
  go_wp2_with (first | (go_at_call 24; refine (no_usable v _ (no_alloc H.out _)).mono ?_; rintro e w1 ⟨rfl, rfl⟩))
  refine bodyPost_ret (results_ct rfl _ _ w.heap.size 40 #[.int .u32 0, .int .i64 0, .int .i64 0, .int .i64 0] (0, 0) _ rfl (heap_alloc_new _ _) Try.underlying40 rfl (by kernel_rfl)) rfl ?_
  exact ⟨rfl, below_alloc (Below.refl _ _) _⟩
set_option maxRecDepth 100000 in
theorem no_Apply (v : Value) (w : World) (h : NoQueue v w) : Calls Try.prog 16 #[v] w fun e w' => e = .returned (rcfg z40 false) ∧ Below w.heap.size w w' := by
  have H := Aside0.mk h
  clear h
  go_enter Try.func16, Try.ntmps16
  go_wp2_with (first
    | ((with_reducible refine gate_dst (N := 2) rfl ?_); refine box_event ?hg (N := 2) ?hd (cs := #[.int .u32 0, .int .i64 0, .int .i64 0, .int .i64 0]) (t := 40) ?hr ?_; (case hd => rfl); (case hg => rfl); (case hr => first | (go_simp; done) | (go_simp; rfl)); intro gr hg w1 hbox hb; have HX1 := Aside0.mk hbox; have HB1 := Aside0.mk hb; have HG1 := Aside0.mk hg; have H1 := Aside0.mk (no_below H.out hb); clear hbox hb hg)
    | (go_at_call 18; refine (no_Acked v _ H1.out).mono ?_; rintro e w2 ⟨rfl, hb⟩; unfold rcfg; have HB2 := Aside0.mk (below_step HB1.out hb); have HX2 := Aside0.mk (blk_below HX1.out hb); have hgr := blk_lt HX2.out; have z0 := (blk_cell HX2.out 0).trans (show _ = some (Value.int .u32 0) from rfl); have z1 := (blk_cell HX2.out 1).trans (show _ = some (Value.int .i64 0) from rfl); have z2 := (blk_cell HX2.out 2).trans (show _ = some (Value.int .i64 0) from rfl); have z3 := (blk_cell HX2.out 3).trans (show _ = some (Value.int .i64 0) from rfl); have zf0 := blk_frozen HX2.out 0; have zf1 := blk_frozen HX2.out 1; have zf2 := blk_frozen HX2.out 2; have zf3 := blk_frozen HX2.out 3; clear hb))
  have GE := Aside0.mk (show w.heap.size ≤ gr by have := HG1.out; omega)
  refine bodyPost_ret (results_ct rfl _ _ gr 40 #[.int .u32 0, .int .i64 0, .int .i64 0, .int .i64 0] (0, 0) _ rfl (by exact blk_alloc (blk_set (blk_set (blk_set (blk_set HX2.out 0 _) 1 _) 2 _) 3 _) _) Try.underlying40 rfl (by kernel_rfl)) rfl ?_
  exact ⟨rfl, by repeat (with_reducible first | exact HB2.out | apply below_alloc | refine below_set ?_ GE.out)⟩
def s20a : QSt := sendS q0 5 100 50 0
def s20b : QSt := sendS s20a 6 200 50 1
set_option maxHeartbeats 4000000 in
set_option maxRecDepth 100000 in
theorem ex_calls (w0 w : World) (L : List Res) (h : SL w0 w L) : Calls Try.prog 9 #[] w fun e w' => e = .returned (.bool true) ∧ SL w0 w' L := by
  have H := Aside0.mk h
  clear h
  have HS := Aside0.mk (sl_start w)
  go_enter Try.func9, Try.ntmps9
  go_wp2_with (first
    | (go_at_call 10; refine (New_calls w _ _ (by repeat (with_reducible first | exact HS.out | apply sl_drewN | apply sl_drew | apply sl_box | apply sl_alloc))).mono ?_; rintro e w1 ⟨g, rfl, hs⟩; replace HS := Aside0.mk hs; clear hs; (try (have hb1 := sl_blk HS.out 1 (by rfl); have lt1 := blk_lt hb1; have c1_0 := (blk_cell hb1 0).trans (show _ = some _ from rfl); have c1_1 := (blk_cell hb1 1).trans (show _ = some _ from rfl); have c1_2 := (blk_cell hb1 2).trans (show _ = some _ from rfl); have c1_3 := (blk_cell hb1 3).trans (show _ = some _ from rfl); clear hb1)))
    | (go_at_call 12; refine (Send_sl 0 _ _ _ _ rfl (by repeat (with_reducible first | exact HS.out | apply sl_drewN | apply sl_drew | apply sl_box | apply sl_alloc))).mono ?_; rintro e w1 ⟨rfl, hs⟩; replace HS := Aside0.mk hs; clear hs; (try (have hb1 := sl_blk HS.out 1 (by rfl); have lt1 := blk_lt hb1; have c1_0 := (blk_cell hb1 0).trans (show _ = some _ from rfl); have c1_1 := (blk_cell hb1 1).trans (show _ = some _ from rfl); have c1_2 := (blk_cell hb1 2).trans (show _ = some _ from rfl); have c1_3 := (blk_cell hb1 3).trans (show _ = some _ from rfl); clear hb1)))
    | (go_at_call 14; refine (Ack_sl 0 _ rfl (by repeat (with_reducible first | exact HS.out | apply sl_drewN | apply sl_drew | apply sl_box | apply sl_alloc))).mono ?_; rintro e w1 ⟨rfl, hs⟩; replace HS := Aside0.mk hs; clear hs; (try (have hb1 := sl_blk HS.out 1 (by rfl); have lt1 := blk_lt hb1; have c1_0 := (blk_cell hb1 0).trans (show _ = some _ from rfl); have c1_1 := (blk_cell hb1 1).trans (show _ = some _ from rfl); have c1_2 := (blk_cell hb1 2).trans (show _ = some _ from rfl); have c1_3 := (blk_cell hb1 3).trans (show _ = some _ from rfl); clear hb1)))
    | (go_at_call 16; refine (Apply_sl 0 rfl (by repeat (with_reducible first | exact HS.out | apply sl_drewN | apply sl_drew | apply sl_box | apply sl_alloc))).mono ?_; rintro e w1 ⟨rfl, hs⟩; unfold rcfg; replace HS := Aside0.mk hs; clear hs; (try (have hb1 := sl_blk HS.out 1 (by rfl); have lt1 := blk_lt hb1; have c1_0 := (blk_cell hb1 0).trans (show _ = some _ from rfl); have c1_1 := (blk_cell hb1 1).trans (show _ = some _ from rfl); have c1_2 := (blk_cell hb1 2).trans (show _ = some _ from rfl); have c1_3 := (blk_cell hb1 3).trans (show _ = some _ from rfl); clear hb1)))
    | (go_at_call 18; refine (Acked_sl 0 rfl (by repeat (with_reducible first | exact HS.out | apply sl_drewN | apply sl_drew | apply sl_box | apply sl_alloc))).mono ?_; rintro e w1 ⟨rfl, hs⟩; unfold rcfg; replace HS := Aside0.mk hs; clear hs; (try (have hb1 := sl_blk HS.out 1 (by rfl); have lt1 := blk_lt hb1; have c1_0 := (blk_cell hb1 0).trans (show _ = some _ from rfl); have c1_1 := (blk_cell hb1 1).trans (show _ = some _ from rfl); have c1_2 := (blk_cell hb1 2).trans (show _ = some _ from rfl); have c1_3 := (blk_cell hb1 3).trans (show _ = some _ from rfl); clear hb1)))
    | (go_at_call 20; refine (Waiting_sl 0 rfl (by repeat (with_reducible first | exact HS.out | apply sl_drewN | apply sl_drew | apply sl_box | apply sl_alloc))).mono ?_; rintro e w1 ⟨rfl, rfl⟩)
    | (go_at_call 22; refine (Configured_sl 0 rfl (by repeat (with_reducible first | exact HS.out | apply sl_drewN | apply sl_drew | apply sl_box | apply sl_alloc))).mono ?_; rintro e w1 ⟨rfl, rfl⟩))
  go_ret
  exact ⟨rfl, sl_below H.out (sl_below0 (by repeat (with_reducible first | exact HS.out | apply sl_drewN | apply sl_drew | apply sl_box | apply sl_alloc)))⟩
end Go.Proofs.Ytockppikcghmoaa.Q
