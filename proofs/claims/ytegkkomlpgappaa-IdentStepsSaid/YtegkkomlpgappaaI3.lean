import Derived.Test.YtegkkomlpgappaaI1
namespace Go.Proofs.Ytegkkomlpgappaa.Q
open Go.RowKit Go.Proofs.YtegkkomlpgappaaW.PrintWords Go.Proofs.YtegkkomlpgappaaW.PrintLast Go.Proofs.YtegkkomlpgappaaW.PrintMore Go.Proofs.Ytegkkomlpgappaa.Sl Go.Proofs.Ytegkkomlpgappaa.Hand 
attribute [local go_sem] max2_int min2_int max_two min_two max_three min_three max_four min_four 
set_option linter.unusedVariables false
set_option linter.unusedSimpArgs false

section
variable {w0 w : World} {R : Res}
set_option maxHeartbeats 4000000 in
theorem rRel_in (x : XS) (s : TSt) (id : Int) (hs : SL w0 w [refX x s, R]) (ho : TOk s) (hd : id ∈ s.live → id ∉ s.rel) : Calls Try.prog 28 #[rvX x s, .int .u32 id] w fun e w' => ∃ y, e = .returned (.tuple #[rvX y (relS s id), .int .i64 (relE s id)]) ∧ SL w0 w' [refX y (relS s id), R] := by
  obtain ⟨srv, live, rel, lar⟩ := s
  have HS := Aside0.mk (sl_box (sl_box hs (rcX x ⟨srv, live, rel, lar⟩) 35) rc0 35)
  simp only [World.size_alloc] at HS
  have o1 : live.length ≤ 256 := ho.ll
  have o2 : rel.length ≤ 100000 := ho.rl
  have HLl := Aside0.mk (show live.length ≤ 1000000 by omega)
  have HLr := Aside0.mk (show rel.length ≤ 1000000 by omega)
  clear hs ho o1 o2
  have HB2 := Aside0.mk (show decide (id ∈ rel) = decide (id ∈ rel) from rfl)
  by_cases c1 : id ∈ live
  · have HB1 := Aside0.mk (show decide (id ∈ live) = true from decide_eq_true c1)
    have c2 : id ∉ rel := hd c1
    have hE : relE ⟨srv, live, rel, lar⟩ id = 0 := if_pos c1
    have hS : relS ⟨srv, live, rel, lar⟩ id = ⟨srv, delS live id, rel ++ [id], lar⟩ := by
      unfold relS addS
      rw [if_pos (show id ∈ (TSt.mk srv live rel lar).live from c1), if_neg (show id ∉ (TSt.mk srv live rel lar).rel from c2)]
    rw [hE, hS]
    clear hE hS c1 c2 hd
    go_enter Try.func28, Try.ntmps28
    go_wp2_with (first
        | (go_at_call 30; (first | with_reducible refine (rhas_live (x := x) (s := ⟨srv, live, rel, lar⟩) (by repeat (with_reducible first | exact HS.out | apply sl_drewN | apply sl_drew | apply sl_box | apply sl_alloc)) 0 rfl id HLl.out HB1.out).mono ?_ | with_reducible refine (rhas_rel (x := x) (s := ⟨srv, live, rel, lar⟩) (by repeat (with_reducible first | exact HS.out | apply sl_drewN | apply sl_drew | apply sl_box | apply sl_alloc)) 0 rfl id HLr.out HB2.out).mono ?_); rintro e w1 ⟨rfl, hs⟩; (try simp only [World.size_alloc] at hs); replace HS := Aside0.mk hs; clear hs; (try clear a0 a1 a2 a3 fa1 fa2 fa3 la); (try (have a0 := c_at HS.out 2 rfl 0 rfl; have a1 := c_at HS.out 2 rfl 1 rfl; have a2 := c_at HS.out 2 rfl 2 rfl; have a3 := c_at HS.out 2 rfl 3 rfl; have fa1 := f_at HS.out 2 rfl 1; have fa2 := f_at HS.out 2 rfl 2; have fa3 := f_at HS.out 2 rfl 3; have la := blk_lt (sl_blk HS.out 2 rfl))))
        | (go_at_call 32; refine (rwithout_c (by repeat (with_reducible first | exact HS.out | apply sl_drewN | apply sl_drew | apply sl_box | apply sl_alloc)) x.1 x.2.1 _ live id rfl (sl_ref (x := x) (s := ⟨srv, live, rel, lar⟩) HS.out 0 rfl).1.2 (sl_ref (x := x) (s := ⟨srv, live, rel, lar⟩) HS.out 0 rfl).1.1 HLl.out).mono ?_; rintro e w1 ⟨A3, c3, rfl, hs⟩; (try simp only [World.size_alloc] at hs); replace HS := Aside0.mk hs; clear hs; (try clear a0 a1 a2 a3 fa1 fa2 fa3 la); (try (have a0 := c_at HS.out 2 rfl 0 rfl; have a1 := c_at HS.out 2 rfl 1 rfl; have a2 := c_at HS.out 2 rfl 2 rfl; have a3 := c_at HS.out 2 rfl 3 rfl; have fa1 := f_at HS.out 2 rfl 1; have fa2 := f_at HS.out 2 rfl 2; have fa3 := f_at HS.out 2 rfl 3; have la := blk_lt (sl_blk HS.out 2 rfl))))
        | (go_at_call 33; refine (with_c (sl_put HS.out 2 rfl 2 (.slice A3 (delS live id).length c3)) x.2.2.1 x.2.2.2 _ rel id rfl (sl_ref (x := x) (s := ⟨srv, live, rel, lar⟩) (sl_put HS.out 2 rfl 2 (.slice A3 (delS live id).length c3)) 0 rfl).2.2 (sl_ref (x := x) (s := ⟨srv, live, rel, lar⟩) (sl_put HS.out 2 rfl 2 (.slice A3 (delS live id).length c3)) 0 rfl).2.1 HLr.out).mono ?_; rintro e w2 ⟨A4, c4, rfl, hs⟩; (try simp only [World.size_alloc] at hs); replace HS := Aside0.mk hs; clear hs; (try clear a0 a1 a2 a3 fa1 fa2 fa3 la); (try (have a0 := c_at HS.out 2 rfl 0 rfl; have a1 := c_at HS.out 2 rfl 1 rfl; have a2 := c_at HS.out 2 rfl 2 rfl; have a3 := c_at HS.out 2 rfl 3 rfl; have fa1 := f_at HS.out 2 rfl 1; have fa2 := f_at HS.out 2 rfl 2; have fa3 := f_at HS.out 2 rfl 3; have la := blk_lt (sl_blk HS.out 2 rfl))))
        | (refine wpList_store_row rfl 35 _ _ rfl _ (#[.bool srv, .int .i64 lar, .slice A3 (delS live id).length c3, .slice A4 (rel.length + 1) c4]) rfl rfl 35 (rc0) (sl_blk (sl_put HS.out 2 rfl 3 (.slice A4 (rel.length + 1) c4)) 3 rfl) (by kernel_rfl) rfl (by simp [Value.oneCell']) ?_; have hs := sl_row (sl_put HS.out 2 rfl 3 (.slice A4 (rel.length + 1) c4)) 3 rfl (#[.bool srv, .int .i64 lar, .slice A3 (delS live id).length c3, .slice A4 (rel.length + 1) c4]); (try simp only [World.size_alloc] at hs); replace HS := Aside0.mk hs; clear hs))
    try rw [Exit.noGoto_ret]
    refine bodyPost_ret (results_list (rs := [.cell 4 35, .tmp 5]) rfl (by simp) (.cell _ 35 (#[.bool srv, .int .i64 lar, .slice A3 (delS live id).length c3, .slice A4 (rel.length + 1) c4]) (0, 0) _ rfl (sl_blk HS.out 3 rfl) Try.underlying35 rfl (by kernel_rfl) (.tmp .nil))) rfl ?_
    exact ⟨(A3, c3, A4, c4), (by simp only [rvX, rcX, List.length_append, List.length_singleton]; rfl), sl_take (ref_rel (ref_live HS.out 0 4 (by decide) lar rfl rfl rfl) 0 5 (by decide) (by simp) rfl rfl) 2⟩
  · have HB1 := Aside0.mk (show decide (id ∈ live) = false from decide_eq_false c1)
    have hE : relE ⟨srv, live, rel, lar⟩ id = 8 := if_neg c1
    have hS : relS ⟨srv, live, rel, lar⟩ id = ⟨srv, live, rel, lar⟩ := if_neg c1
    rw [hE, hS]
    clear hE hS c1 hd
    go_enter Try.func28, Try.ntmps28
    go_wp2_with (first
        | (go_at_call 30; (first | with_reducible refine (rhas_live (x := x) (s := ⟨srv, live, rel, lar⟩) (by repeat (with_reducible first | exact HS.out | apply sl_drewN | apply sl_drew | apply sl_box | apply sl_alloc)) 0 rfl id HLl.out HB1.out).mono ?_ | with_reducible refine (rhas_rel (x := x) (s := ⟨srv, live, rel, lar⟩) (by repeat (with_reducible first | exact HS.out | apply sl_drewN | apply sl_drew | apply sl_box | apply sl_alloc)) 0 rfl id HLr.out HB2.out).mono ?_); rintro e w1 ⟨rfl, hs⟩; (try simp only [World.size_alloc] at hs); replace HS := Aside0.mk hs; clear hs; (try clear a0 a1 a2 a3 fa1 fa2 fa3 la); (try (have a0 := c_at HS.out 2 rfl 0 rfl; have a1 := c_at HS.out 2 rfl 1 rfl; have a2 := c_at HS.out 2 rfl 2 rfl; have a3 := c_at HS.out 2 rfl 3 rfl; have fa1 := f_at HS.out 2 rfl 1; have fa2 := f_at HS.out 2 rfl 2; have fa3 := f_at HS.out 2 rfl 3; have la := blk_lt (sl_blk HS.out 2 rfl))))
        | (refine wpList_store_row rfl 35 _ _ rfl _ (rcX x ⟨srv, live, rel, lar⟩) rfl rfl 35 (rc0) (sl_blk HS.out 3 rfl) (by kernel_rfl) rfl (by simp [Value.oneCell']) ?_; have hs := sl_row HS.out 3 rfl (rcX x ⟨srv, live, rel, lar⟩); (try simp only [World.size_alloc] at hs); replace HS := Aside0.mk hs; clear hs))
    try rw [Exit.noGoto_ret]
    refine bodyPost_ret (results_list (rs := [.cell 4 35, .tmp 5]) rfl (by simp) (.cell _ 35 (rcX x ⟨srv, live, rel, lar⟩) (0, 0) _ rfl (sl_blk HS.out 3 rfl) Try.underlying35 rfl (by kernel_rfl) (.tmp .nil))) rfl ?_
    exact ⟨x, rfl, sl_take HS.out 2⟩
set_option maxHeartbeats 4000000 in
theorem rCon_in (x : XS) (s : TSt) (id : Int) (hs : SL w0 w [refX x s, R]) (ho : TOk s) : Calls Try.prog 29 #[rvX x s, .int .u32 id] w fun e w' => ∃ y, e = .returned (.tuple #[rvX y (conS s id), .int .i64 (conE s id)]) ∧ SL w0 w' [refX y (conS s id), R] := by
  obtain ⟨srv, live, rel, lar⟩ := s
  have HS := Aside0.mk (sl_box (sl_box hs (rcX x ⟨srv, live, rel, lar⟩) 35) rc0 35)
  simp only [World.size_alloc] at HS
  have o1 : live.length ≤ 256 := ho.ll
  have o2 : rel.length ≤ 100000 := ho.rl
  have HLl := Aside0.mk (show live.length ≤ 1000000 by omega)
  have HLr := Aside0.mk (show rel.length ≤ 1000000 by omega)
  clear hs ho o1 o2
  have HB1 := Aside0.mk (show decide (id ∈ live) = decide (id ∈ live) from rfl)
  by_cases c1 : id ∈ rel
  · have HB2 := Aside0.mk (show decide (id ∈ rel) = true from decide_eq_true c1)
    have hE : conE ⟨srv, live, rel, lar⟩ id = 0 := if_pos c1
    have hS : conS ⟨srv, live, rel, lar⟩ id = ⟨srv, live, delS rel id, lar⟩ := if_pos c1
    rw [hE, hS]
    clear hE hS c1
    go_enter Try.func29, Try.ntmps29
    go_wp2_with (first
        | (go_at_call 30; (first | with_reducible refine (rhas_live (x := x) (s := ⟨srv, live, rel, lar⟩) (by repeat (with_reducible first | exact HS.out | apply sl_drewN | apply sl_drew | apply sl_box | apply sl_alloc)) 0 rfl id HLl.out HB1.out).mono ?_ | with_reducible refine (rhas_rel (x := x) (s := ⟨srv, live, rel, lar⟩) (by repeat (with_reducible first | exact HS.out | apply sl_drewN | apply sl_drew | apply sl_box | apply sl_alloc)) 0 rfl id HLr.out HB2.out).mono ?_); rintro e w1 ⟨rfl, hs⟩; (try simp only [World.size_alloc] at hs); replace HS := Aside0.mk hs; clear hs; (try clear a0 a1 a2 a3 fa1 fa2 fa3 la); (try (have a0 := c_at HS.out 2 rfl 0 rfl; have a1 := c_at HS.out 2 rfl 1 rfl; have a2 := c_at HS.out 2 rfl 2 rfl; have a3 := c_at HS.out 2 rfl 3 rfl; have fa1 := f_at HS.out 2 rfl 1; have fa2 := f_at HS.out 2 rfl 2; have fa3 := f_at HS.out 2 rfl 3; have la := blk_lt (sl_blk HS.out 2 rfl))))
        | (go_at_call 32; refine (rwithout_c (by repeat (with_reducible first | exact HS.out | apply sl_drewN | apply sl_drew | apply sl_box | apply sl_alloc)) x.2.2.1 x.2.2.2 _ rel id rfl (sl_ref (x := x) (s := ⟨srv, live, rel, lar⟩) HS.out 0 rfl).2.2 (sl_ref (x := x) (s := ⟨srv, live, rel, lar⟩) HS.out 0 rfl).2.1 HLr.out).mono ?_; rintro e w1 ⟨A3, c3, rfl, hs⟩; (try simp only [World.size_alloc] at hs); replace HS := Aside0.mk hs; clear hs; (try clear a0 a1 a2 a3 fa1 fa2 fa3 la); (try (have a0 := c_at HS.out 2 rfl 0 rfl; have a1 := c_at HS.out 2 rfl 1 rfl; have a2 := c_at HS.out 2 rfl 2 rfl; have a3 := c_at HS.out 2 rfl 3 rfl; have fa1 := f_at HS.out 2 rfl 1; have fa2 := f_at HS.out 2 rfl 2; have fa3 := f_at HS.out 2 rfl 3; have la := blk_lt (sl_blk HS.out 2 rfl))))
        | (refine wpList_store_row rfl 35 _ _ rfl _ (#[.bool srv, .int .i64 lar, .slice x.1 live.length x.2.1, .slice A3 (delS rel id).length c3]) rfl rfl 35 (rc0) (sl_blk (sl_put HS.out 2 rfl 3 (.slice A3 (delS rel id).length c3)) 3 rfl) (by kernel_rfl) rfl (by simp [Value.oneCell']) ?_; have hs := sl_row (sl_put HS.out 2 rfl 3 (.slice A3 (delS rel id).length c3)) 3 rfl (#[.bool srv, .int .i64 lar, .slice x.1 live.length x.2.1, .slice A3 (delS rel id).length c3]); (try simp only [World.size_alloc] at hs); replace HS := Aside0.mk hs; clear hs))
    try rw [Exit.noGoto_ret]
    refine bodyPost_ret (results_list (rs := [.cell 4 35, .tmp 5]) rfl (by simp) (.cell _ 35 (#[.bool srv, .int .i64 lar, .slice x.1 live.length x.2.1, .slice A3 (delS rel id).length c3]) (0, 0) _ rfl (sl_blk HS.out 3 rfl) Try.underlying35 rfl (by kernel_rfl) (.tmp .nil))) rfl ?_
    exact ⟨(x.1, x.2.1, A3, c3), rfl, sl_take (ref_rel HS.out 0 4 (by decide) rfl rfl rfl) 2⟩
  · have HB2 := Aside0.mk (show decide (id ∈ rel) = false from decide_eq_false c1)
    have hE : conE ⟨srv, live, rel, lar⟩ id = 8 := if_neg c1
    have hS : conS ⟨srv, live, rel, lar⟩ id = ⟨srv, live, rel, lar⟩ := if_neg c1
    rw [hE, hS]
    clear hE hS c1
    go_enter Try.func29, Try.ntmps29
    go_wp2_with (first
        | (go_at_call 30; (first | with_reducible refine (rhas_live (x := x) (s := ⟨srv, live, rel, lar⟩) (by repeat (with_reducible first | exact HS.out | apply sl_drewN | apply sl_drew | apply sl_box | apply sl_alloc)) 0 rfl id HLl.out HB1.out).mono ?_ | with_reducible refine (rhas_rel (x := x) (s := ⟨srv, live, rel, lar⟩) (by repeat (with_reducible first | exact HS.out | apply sl_drewN | apply sl_drew | apply sl_box | apply sl_alloc)) 0 rfl id HLr.out HB2.out).mono ?_); rintro e w1 ⟨rfl, hs⟩; (try simp only [World.size_alloc] at hs); replace HS := Aside0.mk hs; clear hs; (try clear a0 a1 a2 a3 fa1 fa2 fa3 la); (try (have a0 := c_at HS.out 2 rfl 0 rfl; have a1 := c_at HS.out 2 rfl 1 rfl; have a2 := c_at HS.out 2 rfl 2 rfl; have a3 := c_at HS.out 2 rfl 3 rfl; have fa1 := f_at HS.out 2 rfl 1; have fa2 := f_at HS.out 2 rfl 2; have fa3 := f_at HS.out 2 rfl 3; have la := blk_lt (sl_blk HS.out 2 rfl))))
        | (refine wpList_store_row rfl 35 _ _ rfl _ (rcX x ⟨srv, live, rel, lar⟩) rfl rfl 35 (rc0) (sl_blk HS.out 3 rfl) (by kernel_rfl) rfl (by simp [Value.oneCell']) ?_; have hs := sl_row HS.out 3 rfl (rcX x ⟨srv, live, rel, lar⟩); (try simp only [World.size_alloc] at hs); replace HS := Aside0.mk hs; clear hs))
    try rw [Exit.noGoto_ret]
    refine bodyPost_ret (results_list (rs := [.cell 4 35, .tmp 5]) rfl (by simp) (.cell _ 35 (rcX x ⟨srv, live, rel, lar⟩) (0, 0) _ rfl (sl_blk HS.out 3 rfl) Try.underlying35 rfl (by kernel_rfl) (.tmp .nil))) rfl ?_
    exact ⟨x, rfl, sl_take HS.out 2⟩
end
end Go.Proofs.Ytegkkomlpgappaa.Q
