import Derived.Test.YtockppikcghmoaaP20
namespace Go.Proofs.Ytockppikcghmoaa.Q
open Go.RowKit Go.Proofs.YtockppikcghmoaaW.PrintWords Go.Proofs.YtockppikcghmoaaW.PrintLast Go.Proofs.YtockppikcghmoaaW.PrintMore Go.Proofs.Ytockppikcghmoaa.Sl Go.Proofs.Ytockppikcghmoaa.Hand 
attribute [local go_sem] max2_int min2_int max_two min_two max_three min_three max_four min_four 
set_option linter.unusedVariables false
set_option linter.unusedSimpArgs false

set_option maxHeartbeats 8000000 in
set_option maxRecDepth 100000 in
theorem Nil_calls (k s a b c : Int) (w : World) :
    Calls Try.prog 8 #[.agg #[.int .i64 k, .int .u32 s, .int .i64 a, .int .i64 b, .int .i64 c]] w fun e w' => e = .returned (.bool true) ∧ Below w.heap.size w w' := by
  have HS := Aside0.mk (sl_start w)
  go_enter Try.func8, Try.ntmps8
  go_wp2_with (first
    | (go_at_call 16; refine (no_Apply _ _ (by first | exact .inl rfl | exact .inr ⟨_, rfl, sl_blk (by repeat (with_reducible first | exact HS.out | apply sl_drewN | apply sl_drew | apply sl_box | apply sl_alloc)) 1 (by rfl)⟩)).mono ?_; rintro e w1 ⟨rfl, hb⟩; unfold rcfg; have hs := sl_below (by repeat (with_reducible first | exact HS.out | apply sl_drewN | apply sl_drew | apply sl_box | apply sl_alloc)) hb; (try simp only [World.size_alloc] at hs); replace HS := Aside0.mk hs; clear hs hb; (try (have hb0 := sl_blk HS.out 0 (by rfl); (try simp only [World.size_alloc] at hb0); have lt0 := blk_lt hb0; have c0_0 := (blk_cell hb0 0).trans (show _ = some _ from rfl); have c0_1 := (blk_cell hb0 1).trans (show _ = some _ from rfl); have c0_2 := (blk_cell hb0 2).trans (show _ = some _ from rfl); have c0_3 := (blk_cell hb0 3).trans (show _ = some _ from rfl); have c0_4 := (blk_cell hb0 4).trans (show _ = some _ from rfl); clear hb0)))
    | (go_at_call 18; refine (no_Acked _ _ (by first | exact .inl rfl | exact .inr ⟨_, rfl, sl_blk (by repeat (with_reducible first | exact HS.out | apply sl_drewN | apply sl_drew | apply sl_box | apply sl_alloc)) 1 (by rfl)⟩)).mono ?_; rintro e w1 ⟨rfl, hb⟩; unfold rcfg; have hs := sl_below (by repeat (with_reducible first | exact HS.out | apply sl_drewN | apply sl_drew | apply sl_box | apply sl_alloc)) hb; (try simp only [World.size_alloc] at hs); replace HS := Aside0.mk hs; clear hs hb; (try (have hb0 := sl_blk HS.out 0 (by rfl); (try simp only [World.size_alloc] at hb0); have lt0 := blk_lt hb0; have c0_0 := (blk_cell hb0 0).trans (show _ = some _ from rfl); have c0_1 := (blk_cell hb0 1).trans (show _ = some _ from rfl); have c0_2 := (blk_cell hb0 2).trans (show _ = some _ from rfl); have c0_3 := (blk_cell hb0 3).trans (show _ = some _ from rfl); have c0_4 := (blk_cell hb0 4).trans (show _ = some _ from rfl); clear hb0)))
    | (go_at_call 12; refine (no_Send _ _ _ _ _ _  (by first | exact .inl rfl | exact .inr ⟨_, rfl, sl_blk (by repeat (with_reducible first | exact HS.out | apply sl_drewN | apply sl_drew | apply sl_box | apply sl_alloc)) 1 (by rfl)⟩)).mono ?_; rintro e w1 ⟨rfl, rfl⟩)
    | (go_at_call 14; refine (no_Ack _ _ _  (by first | exact .inl rfl | exact .inr ⟨_, rfl, sl_blk (by repeat (with_reducible first | exact HS.out | apply sl_drewN | apply sl_drew | apply sl_box | apply sl_alloc)) 1 (by rfl)⟩)).mono ?_; rintro e w1 ⟨rfl, rfl⟩)
    | (go_at_call 20; refine (no_Waiting _ _  (by first | exact .inl rfl | exact .inr ⟨_, rfl, sl_blk (by repeat (with_reducible first | exact HS.out | apply sl_drewN | apply sl_drew | apply sl_box | apply sl_alloc)) 1 (by rfl)⟩)).mono ?_; rintro e w1 ⟨rfl, rfl⟩)
    | (go_at_call 22; refine (no_Configured _ _  (by first | exact .inl rfl | exact .inr ⟨_, rfl, sl_blk (by repeat (with_reducible first | exact HS.out | apply sl_drewN | apply sl_drew | apply sl_box | apply sl_alloc)) 1 (by rfl)⟩)).mono ?_; rintro e w1 ⟨rfl, rfl⟩)
    | (go_at_call 9; refine (ex_calls w _ _ (by repeat (with_reducible first | exact HS.out | apply sl_drewN | apply sl_drew | apply sl_box | apply sl_alloc))).mono ?_; rintro e w1 ⟨rfl, hs⟩; (try simp only [World.size_alloc] at hs); replace HS := Aside0.mk hs; clear hs))
  go_ret
  exact ⟨rfl, sl_below0 (by repeat (with_reducible first | exact HS.out | apply sl_drewN | apply sl_drew | apply sl_box | apply sl_alloc))⟩
end Go.Proofs.Ytockppikcghmoaa.Q
