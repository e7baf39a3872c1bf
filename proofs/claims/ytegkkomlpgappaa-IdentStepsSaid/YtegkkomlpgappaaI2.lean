import Derived.Test.YtegkkomlpgappaaI1
namespace Go.Proofs.Ytegkkomlpgappaa.Q
open Go.RowKit Go.Proofs.YtegkkomlpgappaaW.PrintWords Go.Proofs.YtegkkomlpgappaaW.PrintLast Go.Proofs.YtegkkomlpgappaaW.PrintMore Go.Proofs.Ytegkkomlpgappaa.Sl Go.Proofs.Ytegkkomlpgappaa.Hand 
attribute [local go_sem] max2_int min2_int max_two min_two max_three min_three max_four min_four 
set_option linter.unusedVariables false
set_option linter.unusedSimpArgs false

theorem used_c {w0 w : World} {L : List Res} {x : XS} {s : TSt} (h : SL w0 w L) (i : Nat) (hi : L[i]? = some (refX x s)) (id : Int) (hl : s.live.length ≤ 1000000) (h0 : 0 ≤ id) (h1 : id < 4294967296) : Calls Try.prog 31 #[rvX x s, .int .u32 id] w fun e w' => ∃ y, e = .returned (rvX y ⟨s.srv, s.live ++ [id], s.rel, mxI s.lar id⟩) ∧ SL w0 w' (L.set i (refX y ⟨s.srv, s.live ++ [id], s.rel, mxI s.lar id⟩)) :=
  liftX h i hi fun h => used_in x s id h hl h0 h1
theorem used_new {s : TSt} {id : Int} (h : id ∉ s.live) : used s id = ⟨s.srv, s.live ++ [id], s.rel, mxI s.lar id⟩ := by
  unfold used addS
  rw [if_neg h]
section
variable {w0 w : World} {R : Res}
set_option maxHeartbeats 8000000 in
theorem rTake_in (x : XS) (s : TSt) (id : Int) (hs : SL w0 w [refX x s, R]) (h0 : 0 ≤ id) (h1 : id < 4294967296) (ho : TOk s) : Calls Try.prog 27 #[rvX x s, .int .u32 id] w fun e w' => ∃ y, e = .returned (.tuple #[rvX y (takeS s id), .int .i64 (takeE s id)]) ∧ SL w0 w' [refX y (takeS s id), R] := by
  obtain ⟨srv, live, rel, lar⟩ := s
  have HS := Aside0.mk (sl_box (sl_box hs (rcX x ⟨srv, live, rel, lar⟩) 35) rc0 35)
  simp only [World.size_alloc] at HS
  have o1 : live.length ≤ 256 := ho.ll
  have o2 : rel.length ≤ 100000 := ho.rl
  have o3 : 0 ≤ lar := ho.l0
  have o4 : lar < 4294967296 := ho.l1
  have HLl := Aside0.mk (show live.length ≤ 1000000 by omega)
  have HLr := Aside0.mk (show rel.length ≤ 1000000 by omega)
  have HId := Aside0.mk (And.intro h0 h1)
  clear hs ho
  obtain ⟨b, hb⟩ : ∃ b, decide (4278190080 ≤ id) = b := ⟨_, rfl⟩
  by_cases c0 : id = 0 ∨ srv ≠ b
  · have hE : takeE ⟨srv, live, rel, lar⟩ id = 6 := by unfold takeE; rw [hb]; exact if_pos c0
    have hS : takeS ⟨srv, live, rel, lar⟩ id = ⟨srv, live, rel, lar⟩ := by unfold takeS; rw [hE]; rfl
    rw [hE, hS]
    clear hE hS
    by_cases z : id = 0
    · have z1 : (id == 0) = true := beq_iff_eq.2 z
      clear c0 z
      go_enter Try.func27, Try.ntmps27
      go_wp2_with (first
        | (refine wpList_store_row rfl 35 _ _ rfl _ (rcX x ⟨srv, live, rel, lar⟩) rfl rfl 35 (rc0) (sl_blk HS.out 3 rfl) (by kernel_rfl) rfl (by simp [Value.oneCell']) ?_; have hs := sl_row HS.out 3 rfl (rcX x ⟨srv, live, rel, lar⟩); (try simp only [World.size_alloc] at hs); replace HS := Aside0.mk hs; clear hs))
      try rw [Exit.noGoto_ret]
      refine bodyPost_ret (results_list (rs := [.cell 4 35, .tmp 5]) rfl (by simp) (.cell _ 35 (rcX x ⟨srv, live, rel, lar⟩) (0, 0) _ rfl (sl_blk HS.out 3 rfl) Try.underlying35 rfl (by kernel_rfl) (.tmp .nil))) rfl ?_
      exact ⟨x, rfl, sl_take HS.out 2⟩
    · have z1 : (id == 0) = false := beq_eq_false_iff_ne.2 z
      have c1 := c0.resolve_left z
      clear c0 z
      cases srv <;> cases b
      · exact absurd rfl c1
      · clear c1
        go_enter Try.func27, Try.ntmps27
        go_wp2_with (first
        | (refine wpList_store_row rfl 35 _ _ rfl _ (rcX x ⟨false, live, rel, lar⟩) rfl rfl 35 (rc0) (sl_blk HS.out 3 rfl) (by kernel_rfl) rfl (by simp [Value.oneCell']) ?_; have hs := sl_row HS.out 3 rfl (rcX x ⟨false, live, rel, lar⟩); (try simp only [World.size_alloc] at hs); replace HS := Aside0.mk hs; clear hs))
        try rw [Exit.noGoto_ret]
        refine bodyPost_ret (results_list (rs := [.cell 4 35, .tmp 5]) rfl (by simp) (.cell _ 35 (rcX x ⟨false, live, rel, lar⟩) (0, 0) _ rfl (sl_blk HS.out 3 rfl) Try.underlying35 rfl (by kernel_rfl) (.tmp .nil))) rfl ?_
        exact ⟨x, rfl, sl_take HS.out 2⟩
      · clear c1
        go_enter Try.func27, Try.ntmps27
        go_wp2_with (first
        | (refine wpList_store_row rfl 35 _ _ rfl _ (rcX x ⟨true, live, rel, lar⟩) rfl rfl 35 (rc0) (sl_blk HS.out 3 rfl) (by kernel_rfl) rfl (by simp [Value.oneCell']) ?_; have hs := sl_row HS.out 3 rfl (rcX x ⟨true, live, rel, lar⟩); (try simp only [World.size_alloc] at hs); replace HS := Aside0.mk hs; clear hs))
        try rw [Exit.noGoto_ret]
        refine bodyPost_ret (results_list (rs := [.cell 4 35, .tmp 5]) rfl (by simp) (.cell _ 35 (rcX x ⟨true, live, rel, lar⟩) (0, 0) _ rfl (sl_blk HS.out 3 rfl) Try.underlying35 rfl (by kernel_rfl) (.tmp .nil))) rfl ?_
        exact ⟨x, rfl, sl_take HS.out 2⟩
      · exact absurd rfl c1
  have z1 : (id == 0) = false := beq_eq_false_iff_ne.2 fun h => c0 (.inl h)
  have hsb : b = srv := Decidable.byContradiction fun h => c0 (.inr fun h2 => h h2.symm)
  subst hsb
  have hE1 : takeE ⟨b, live, rel, lar⟩ id = if id ∈ live ∨ id ∈ rel then 7 else if 256 ≤ live.length then 5 else if lar + 1 < id then 2 else 0 := by unfold takeE; rw [hb]; exact if_neg c0
  by_cases c1 : id ∈ live
  · have HB1 := Aside0.mk (show decide (id ∈ live) = true from decide_eq_true c1)
    have HB2 := Aside0.mk (show decide (id ∈ rel) = decide (id ∈ rel) from rfl)
    rw [if_pos (.inl c1)] at hE1
    have hS : takeS ⟨b, live, rel, lar⟩ id = ⟨b, live, rel, lar⟩ := by unfold takeS; rw [hE1]; rfl
    rw [hE1, hS]
    clear hE1 hS c0 c1
    cases b
    · go_enter Try.func27, Try.ntmps27
      go_wp2_with (first
        | (go_at_call 30; (first | with_reducible refine (rhas_live (x := x) (s := ⟨false, live, rel, lar⟩) (by repeat (with_reducible first | exact HS.out | apply sl_drewN | apply sl_drew | apply sl_box | apply sl_alloc)) 0 rfl id HLl.out HB1.out).mono ?_ | with_reducible refine (rhas_rel (x := x) (s := ⟨false, live, rel, lar⟩) (by repeat (with_reducible first | exact HS.out | apply sl_drewN | apply sl_drew | apply sl_box | apply sl_alloc)) 0 rfl id HLr.out HB2.out).mono ?_); rintro e w1 ⟨rfl, hs⟩; (try simp only [World.size_alloc] at hs); replace HS := Aside0.mk hs; clear hs; (try clear a0 a1 a2 a3 fa1 fa2 fa3 la); (try (have a0 := c_at HS.out 2 rfl 0 rfl; have a1 := c_at HS.out 2 rfl 1 rfl; have a2 := c_at HS.out 2 rfl 2 rfl; have a3 := c_at HS.out 2 rfl 3 rfl; have fa1 := f_at HS.out 2 rfl 1; have fa2 := f_at HS.out 2 rfl 2; have fa3 := f_at HS.out 2 rfl 3; have la := blk_lt (sl_blk HS.out 2 rfl))))
        | (refine wpList_store_row rfl 35 _ _ rfl _ (rcX x ⟨false, live, rel, lar⟩) rfl rfl 35 (rc0) (sl_blk HS.out 3 rfl) (by kernel_rfl) rfl (by simp [Value.oneCell']) ?_; have hs := sl_row HS.out 3 rfl (rcX x ⟨false, live, rel, lar⟩); (try simp only [World.size_alloc] at hs); replace HS := Aside0.mk hs; clear hs))
      try rw [Exit.noGoto_ret]
      refine bodyPost_ret (results_list (rs := [.cell 4 35, .tmp 5]) rfl (by simp) (.cell _ 35 (rcX x ⟨false, live, rel, lar⟩) (0, 0) _ rfl (sl_blk HS.out 3 rfl) Try.underlying35 rfl (by kernel_rfl) (.tmp .nil))) rfl ?_
      exact ⟨x, rfl, sl_take HS.out 2⟩
    · go_enter Try.func27, Try.ntmps27
      go_wp2_with (first
        | (go_at_call 30; (first | with_reducible refine (rhas_live (x := x) (s := ⟨true, live, rel, lar⟩) (by repeat (with_reducible first | exact HS.out | apply sl_drewN | apply sl_drew | apply sl_box | apply sl_alloc)) 0 rfl id HLl.out HB1.out).mono ?_ | with_reducible refine (rhas_rel (x := x) (s := ⟨true, live, rel, lar⟩) (by repeat (with_reducible first | exact HS.out | apply sl_drewN | apply sl_drew | apply sl_box | apply sl_alloc)) 0 rfl id HLr.out HB2.out).mono ?_); rintro e w1 ⟨rfl, hs⟩; (try simp only [World.size_alloc] at hs); replace HS := Aside0.mk hs; clear hs; (try clear a0 a1 a2 a3 fa1 fa2 fa3 la); (try (have a0 := c_at HS.out 2 rfl 0 rfl; have a1 := c_at HS.out 2 rfl 1 rfl; have a2 := c_at HS.out 2 rfl 2 rfl; have a3 := c_at HS.out 2 rfl 3 rfl; have fa1 := f_at HS.out 2 rfl 1; have fa2 := f_at HS.out 2 rfl 2; have fa3 := f_at HS.out 2 rfl 3; have la := blk_lt (sl_blk HS.out 2 rfl))))
        | (refine wpList_store_row rfl 35 _ _ rfl _ (rcX x ⟨true, live, rel, lar⟩) rfl rfl 35 (rc0) (sl_blk HS.out 3 rfl) (by kernel_rfl) rfl (by simp [Value.oneCell']) ?_; have hs := sl_row HS.out 3 rfl (rcX x ⟨true, live, rel, lar⟩); (try simp only [World.size_alloc] at hs); replace HS := Aside0.mk hs; clear hs))
      try rw [Exit.noGoto_ret]
      refine bodyPost_ret (results_list (rs := [.cell 4 35, .tmp 5]) rfl (by simp) (.cell _ 35 (rcX x ⟨true, live, rel, lar⟩) (0, 0) _ rfl (sl_blk HS.out 3 rfl) Try.underlying35 rfl (by kernel_rfl) (.tmp .nil))) rfl ?_
      exact ⟨x, rfl, sl_take HS.out 2⟩
  have HB1 := Aside0.mk (show decide (id ∈ live) = false from decide_eq_false c1)
  by_cases c2 : id ∈ rel
  · have HB2 := Aside0.mk (show decide (id ∈ rel) = true from decide_eq_true c2)
    rw [if_pos (.inr c2)] at hE1
    have hS : takeS ⟨b, live, rel, lar⟩ id = ⟨b, live, rel, lar⟩ := by unfold takeS; rw [hE1]; rfl
    rw [hE1, hS]
    clear hE1 hS c0 c1 c2
    cases b
    · go_enter Try.func27, Try.ntmps27
      go_wp2_with (first
        | (go_at_call 30; (first | with_reducible refine (rhas_live (x := x) (s := ⟨false, live, rel, lar⟩) (by repeat (with_reducible first | exact HS.out | apply sl_drewN | apply sl_drew | apply sl_box | apply sl_alloc)) 0 rfl id HLl.out HB1.out).mono ?_ | with_reducible refine (rhas_rel (x := x) (s := ⟨false, live, rel, lar⟩) (by repeat (with_reducible first | exact HS.out | apply sl_drewN | apply sl_drew | apply sl_box | apply sl_alloc)) 0 rfl id HLr.out HB2.out).mono ?_); rintro e w1 ⟨rfl, hs⟩; (try simp only [World.size_alloc] at hs); replace HS := Aside0.mk hs; clear hs; (try clear a0 a1 a2 a3 fa1 fa2 fa3 la); (try (have a0 := c_at HS.out 2 rfl 0 rfl; have a1 := c_at HS.out 2 rfl 1 rfl; have a2 := c_at HS.out 2 rfl 2 rfl; have a3 := c_at HS.out 2 rfl 3 rfl; have fa1 := f_at HS.out 2 rfl 1; have fa2 := f_at HS.out 2 rfl 2; have fa3 := f_at HS.out 2 rfl 3; have la := blk_lt (sl_blk HS.out 2 rfl))))
        | (refine wpList_store_row rfl 35 _ _ rfl _ (rcX x ⟨false, live, rel, lar⟩) rfl rfl 35 (rc0) (sl_blk HS.out 3 rfl) (by kernel_rfl) rfl (by simp [Value.oneCell']) ?_; have hs := sl_row HS.out 3 rfl (rcX x ⟨false, live, rel, lar⟩); (try simp only [World.size_alloc] at hs); replace HS := Aside0.mk hs; clear hs))
      try rw [Exit.noGoto_ret]
      refine bodyPost_ret (results_list (rs := [.cell 4 35, .tmp 5]) rfl (by simp) (.cell _ 35 (rcX x ⟨false, live, rel, lar⟩) (0, 0) _ rfl (sl_blk HS.out 3 rfl) Try.underlying35 rfl (by kernel_rfl) (.tmp .nil))) rfl ?_
      exact ⟨x, rfl, sl_take HS.out 2⟩
    · go_enter Try.func27, Try.ntmps27
      go_wp2_with (first
        | (go_at_call 30; (first | with_reducible refine (rhas_live (x := x) (s := ⟨true, live, rel, lar⟩) (by repeat (with_reducible first | exact HS.out | apply sl_drewN | apply sl_drew | apply sl_box | apply sl_alloc)) 0 rfl id HLl.out HB1.out).mono ?_ | with_reducible refine (rhas_rel (x := x) (s := ⟨true, live, rel, lar⟩) (by repeat (with_reducible first | exact HS.out | apply sl_drewN | apply sl_drew | apply sl_box | apply sl_alloc)) 0 rfl id HLr.out HB2.out).mono ?_); rintro e w1 ⟨rfl, hs⟩; (try simp only [World.size_alloc] at hs); replace HS := Aside0.mk hs; clear hs; (try clear a0 a1 a2 a3 fa1 fa2 fa3 la); (try (have a0 := c_at HS.out 2 rfl 0 rfl; have a1 := c_at HS.out 2 rfl 1 rfl; have a2 := c_at HS.out 2 rfl 2 rfl; have a3 := c_at HS.out 2 rfl 3 rfl; have fa1 := f_at HS.out 2 rfl 1; have fa2 := f_at HS.out 2 rfl 2; have fa3 := f_at HS.out 2 rfl 3; have la := blk_lt (sl_blk HS.out 2 rfl))))
        | (refine wpList_store_row rfl 35 _ _ rfl _ (rcX x ⟨true, live, rel, lar⟩) rfl rfl 35 (rc0) (sl_blk HS.out 3 rfl) (by kernel_rfl) rfl (by simp [Value.oneCell']) ?_; have hs := sl_row HS.out 3 rfl (rcX x ⟨true, live, rel, lar⟩); (try simp only [World.size_alloc] at hs); replace HS := Aside0.mk hs; clear hs))
      try rw [Exit.noGoto_ret]
      refine bodyPost_ret (results_list (rs := [.cell 4 35, .tmp 5]) rfl (by simp) (.cell _ 35 (rcX x ⟨true, live, rel, lar⟩) (0, 0) _ rfl (sl_blk HS.out 3 rfl) Try.underlying35 rfl (by kernel_rfl) (.tmp .nil))) rfl ?_
      exact ⟨x, rfl, sl_take HS.out 2⟩
  have HB2 := Aside0.mk (show decide (id ∈ rel) = false from decide_eq_false c2)
  rw [if_neg (fun h => h.elim c1 c2)] at hE1
  by_cases c3 : 256 ≤ live.length
  · have d1 : decide ((256 : Int) ≤ (live.length : Int)) = true := decide_eq_true (by omega)
    rw [if_pos c3] at hE1
    have hS : takeS ⟨b, live, rel, lar⟩ id = ⟨b, live, rel, lar⟩ := by unfold takeS; rw [hE1]; rfl
    rw [hE1, hS]
    clear hE1 hS c0 c1 c2 c3
    cases b
    · go_enter Try.func27, Try.ntmps27
      go_wp2_with (first
        | (go_at_call 30; (first | with_reducible refine (rhas_live (x := x) (s := ⟨false, live, rel, lar⟩) (by repeat (with_reducible first | exact HS.out | apply sl_drewN | apply sl_drew | apply sl_box | apply sl_alloc)) 0 rfl id HLl.out HB1.out).mono ?_ | with_reducible refine (rhas_rel (x := x) (s := ⟨false, live, rel, lar⟩) (by repeat (with_reducible first | exact HS.out | apply sl_drewN | apply sl_drew | apply sl_box | apply sl_alloc)) 0 rfl id HLr.out HB2.out).mono ?_); rintro e w1 ⟨rfl, hs⟩; (try simp only [World.size_alloc] at hs); replace HS := Aside0.mk hs; clear hs; (try clear a0 a1 a2 a3 fa1 fa2 fa3 la); (try (have a0 := c_at HS.out 2 rfl 0 rfl; have a1 := c_at HS.out 2 rfl 1 rfl; have a2 := c_at HS.out 2 rfl 2 rfl; have a3 := c_at HS.out 2 rfl 3 rfl; have fa1 := f_at HS.out 2 rfl 1; have fa2 := f_at HS.out 2 rfl 2; have fa3 := f_at HS.out 2 rfl 3; have la := blk_lt (sl_blk HS.out 2 rfl))))
        | (refine wpList_store_row rfl 35 _ _ rfl _ (rcX x ⟨false, live, rel, lar⟩) rfl rfl 35 (rc0) (sl_blk HS.out 3 rfl) (by kernel_rfl) rfl (by simp [Value.oneCell']) ?_; have hs := sl_row HS.out 3 rfl (rcX x ⟨false, live, rel, lar⟩); (try simp only [World.size_alloc] at hs); replace HS := Aside0.mk hs; clear hs))
      try rw [Exit.noGoto_ret]
      refine bodyPost_ret (results_list (rs := [.cell 4 35, .tmp 5]) rfl (by simp) (.cell _ 35 (rcX x ⟨false, live, rel, lar⟩) (0, 0) _ rfl (sl_blk HS.out 3 rfl) Try.underlying35 rfl (by kernel_rfl) (.tmp .nil))) rfl ?_
      exact ⟨x, rfl, sl_take HS.out 2⟩
    · go_enter Try.func27, Try.ntmps27
      go_wp2_with (first
        | (go_at_call 30; (first | with_reducible refine (rhas_live (x := x) (s := ⟨true, live, rel, lar⟩) (by repeat (with_reducible first | exact HS.out | apply sl_drewN | apply sl_drew | apply sl_box | apply sl_alloc)) 0 rfl id HLl.out HB1.out).mono ?_ | with_reducible refine (rhas_rel (x := x) (s := ⟨true, live, rel, lar⟩) (by repeat (with_reducible first | exact HS.out | apply sl_drewN | apply sl_drew | apply sl_box | apply sl_alloc)) 0 rfl id HLr.out HB2.out).mono ?_); rintro e w1 ⟨rfl, hs⟩; (try simp only [World.size_alloc] at hs); replace HS := Aside0.mk hs; clear hs; (try clear a0 a1 a2 a3 fa1 fa2 fa3 la); (try (have a0 := c_at HS.out 2 rfl 0 rfl; have a1 := c_at HS.out 2 rfl 1 rfl; have a2 := c_at HS.out 2 rfl 2 rfl; have a3 := c_at HS.out 2 rfl 3 rfl; have fa1 := f_at HS.out 2 rfl 1; have fa2 := f_at HS.out 2 rfl 2; have fa3 := f_at HS.out 2 rfl 3; have la := blk_lt (sl_blk HS.out 2 rfl))))
        | (refine wpList_store_row rfl 35 _ _ rfl _ (rcX x ⟨true, live, rel, lar⟩) rfl rfl 35 (rc0) (sl_blk HS.out 3 rfl) (by kernel_rfl) rfl (by simp [Value.oneCell']) ?_; have hs := sl_row HS.out 3 rfl (rcX x ⟨true, live, rel, lar⟩); (try simp only [World.size_alloc] at hs); replace HS := Aside0.mk hs; clear hs))
      try rw [Exit.noGoto_ret]
      refine bodyPost_ret (results_list (rs := [.cell 4 35, .tmp 5]) rfl (by simp) (.cell _ 35 (rcX x ⟨true, live, rel, lar⟩) (0, 0) _ rfl (sl_blk HS.out 3 rfl) Try.underlying35 rfl (by kernel_rfl) (.tmp .nil))) rfl ?_
      exact ⟨x, rfl, sl_take HS.out 2⟩
  have d1 : decide ((256 : Int) ≤ (live.length : Int)) = false := decide_eq_false (by omega)
  rw [if_neg c3] at hE1
  by_cases c4 : lar + 1 < id
  · have d2 : decide (lar + 1 < id) = true := decide_eq_true c4
    rw [if_pos c4] at hE1
    have hS : takeS ⟨b, live, rel, lar⟩ id = ⟨b, live, rel, lar⟩ := by unfold takeS; rw [hE1]; rfl
    rw [hE1, hS]
    clear hE1 hS c0 c1 c2 c3 c4
    cases b
    · go_enter Try.func27, Try.ntmps27
      go_wp2_with (first
        | (go_at_call 30; (first | with_reducible refine (rhas_live (x := x) (s := ⟨false, live, rel, lar⟩) (by repeat (with_reducible first | exact HS.out | apply sl_drewN | apply sl_drew | apply sl_box | apply sl_alloc)) 0 rfl id HLl.out HB1.out).mono ?_ | with_reducible refine (rhas_rel (x := x) (s := ⟨false, live, rel, lar⟩) (by repeat (with_reducible first | exact HS.out | apply sl_drewN | apply sl_drew | apply sl_box | apply sl_alloc)) 0 rfl id HLr.out HB2.out).mono ?_); rintro e w1 ⟨rfl, hs⟩; (try simp only [World.size_alloc] at hs); replace HS := Aside0.mk hs; clear hs; (try clear a0 a1 a2 a3 fa1 fa2 fa3 la); (try (have a0 := c_at HS.out 2 rfl 0 rfl; have a1 := c_at HS.out 2 rfl 1 rfl; have a2 := c_at HS.out 2 rfl 2 rfl; have a3 := c_at HS.out 2 rfl 3 rfl; have fa1 := f_at HS.out 2 rfl 1; have fa2 := f_at HS.out 2 rfl 2; have fa3 := f_at HS.out 2 rfl 3; have la := blk_lt (sl_blk HS.out 2 rfl))))
        | (refine wpList_store_row rfl 35 _ _ rfl _ (rcX x ⟨false, live, rel, lar⟩) rfl rfl 35 (rc0) (sl_blk HS.out 3 rfl) (by kernel_rfl) rfl (by simp [Value.oneCell']) ?_; have hs := sl_row HS.out 3 rfl (rcX x ⟨false, live, rel, lar⟩); (try simp only [World.size_alloc] at hs); replace HS := Aside0.mk hs; clear hs))
      try rw [Exit.noGoto_ret]
      refine bodyPost_ret (results_list (rs := [.cell 4 35, .tmp 5]) rfl (by simp) (.cell _ 35 (rcX x ⟨false, live, rel, lar⟩) (0, 0) _ rfl (sl_blk HS.out 3 rfl) Try.underlying35 rfl (by kernel_rfl) (.tmp .nil))) rfl ?_
      exact ⟨x, rfl, sl_take HS.out 2⟩
    · go_enter Try.func27, Try.ntmps27
      go_wp2_with (first
        | (go_at_call 30; (first | with_reducible refine (rhas_live (x := x) (s := ⟨true, live, rel, lar⟩) (by repeat (with_reducible first | exact HS.out | apply sl_drewN | apply sl_drew | apply sl_box | apply sl_alloc)) 0 rfl id HLl.out HB1.out).mono ?_ | with_reducible refine (rhas_rel (x := x) (s := ⟨true, live, rel, lar⟩) (by repeat (with_reducible first | exact HS.out | apply sl_drewN | apply sl_drew | apply sl_box | apply sl_alloc)) 0 rfl id HLr.out HB2.out).mono ?_); rintro e w1 ⟨rfl, hs⟩; (try simp only [World.size_alloc] at hs); replace HS := Aside0.mk hs; clear hs; (try clear a0 a1 a2 a3 fa1 fa2 fa3 la); (try (have a0 := c_at HS.out 2 rfl 0 rfl; have a1 := c_at HS.out 2 rfl 1 rfl; have a2 := c_at HS.out 2 rfl 2 rfl; have a3 := c_at HS.out 2 rfl 3 rfl; have fa1 := f_at HS.out 2 rfl 1; have fa2 := f_at HS.out 2 rfl 2; have fa3 := f_at HS.out 2 rfl 3; have la := blk_lt (sl_blk HS.out 2 rfl))))
        | (refine wpList_store_row rfl 35 _ _ rfl _ (rcX x ⟨true, live, rel, lar⟩) rfl rfl 35 (rc0) (sl_blk HS.out 3 rfl) (by kernel_rfl) rfl (by simp [Value.oneCell']) ?_; have hs := sl_row HS.out 3 rfl (rcX x ⟨true, live, rel, lar⟩); (try simp only [World.size_alloc] at hs); replace HS := Aside0.mk hs; clear hs))
      try rw [Exit.noGoto_ret]
      refine bodyPost_ret (results_list (rs := [.cell 4 35, .tmp 5]) rfl (by simp) (.cell _ 35 (rcX x ⟨true, live, rel, lar⟩) (0, 0) _ rfl (sl_blk HS.out 3 rfl) Try.underlying35 rfl (by kernel_rfl) (.tmp .nil))) rfl ?_
      exact ⟨x, rfl, sl_take HS.out 2⟩
  have d2 : decide (lar + 1 < id) = false := decide_eq_false c4
  rw [if_neg c4] at hE1
  have hS : takeS ⟨b, live, rel, lar⟩ id = ⟨b, live ++ [id], rel, mxI lar id⟩ := by unfold takeS; rw [hE1, if_pos rfl]; exact used_new c1
  rw [hE1, hS]
  clear hE1 hS c0 c1 c2 c3 c4
  cases b
  · go_enter Try.func27, Try.ntmps27
    go_wp2_with (first
        | (go_at_call 30; (first | with_reducible refine (rhas_live (x := x) (s := ⟨false, live, rel, lar⟩) (by repeat (with_reducible first | exact HS.out | apply sl_drewN | apply sl_drew | apply sl_box | apply sl_alloc)) 0 rfl id HLl.out HB1.out).mono ?_ | with_reducible refine (rhas_rel (x := x) (s := ⟨false, live, rel, lar⟩) (by repeat (with_reducible first | exact HS.out | apply sl_drewN | apply sl_drew | apply sl_box | apply sl_alloc)) 0 rfl id HLr.out HB2.out).mono ?_); rintro e w1 ⟨rfl, hs⟩; (try simp only [World.size_alloc] at hs); replace HS := Aside0.mk hs; clear hs; (try clear a0 a1 a2 a3 fa1 fa2 fa3 la); (try (have a0 := c_at HS.out 2 rfl 0 rfl; have a1 := c_at HS.out 2 rfl 1 rfl; have a2 := c_at HS.out 2 rfl 2 rfl; have a3 := c_at HS.out 2 rfl 3 rfl; have fa1 := f_at HS.out 2 rfl 1; have fa2 := f_at HS.out 2 rfl 2; have fa3 := f_at HS.out 2 rfl 3; have la := blk_lt (sl_blk HS.out 2 rfl))))
        | (go_at_call 31; refine (used_c (x := x) (s := ⟨false, live, rel, lar⟩) (by repeat (with_reducible first | exact HS.out | apply sl_drewN | apply sl_drew | apply sl_box | apply sl_alloc)) 0 (by rfl) id HLl.out HId.out.1 HId.out.2).mono ?_; rintro e w1 ⟨y, rfl, hs⟩; (try simp only [World.size_alloc] at hs); replace HS := Aside0.mk hs; clear hs; (try clear a0 a1 a2 a3 fa1 fa2 fa3 la); (try (have a0 := c_at HS.out 2 rfl 0 rfl; have a1 := c_at HS.out 2 rfl 1 rfl; have a2 := c_at HS.out 2 rfl 2 rfl; have a3 := c_at HS.out 2 rfl 3 rfl; have fa1 := f_at HS.out 2 rfl 1; have fa2 := f_at HS.out 2 rfl 2; have fa3 := f_at HS.out 2 rfl 3; have la := blk_lt (sl_blk HS.out 2 rfl))))
        | (refine wpList_store_row rfl 35 _ _ rfl _ (rcX y ⟨false, live ++ [id], rel, mxI lar id⟩) rfl rfl 35 (rc0) (sl_blk HS.out 3 rfl) (by kernel_rfl) rfl (by simp [Value.oneCell']) ?_; have hs := sl_row HS.out 3 rfl (rcX y ⟨false, live ++ [id], rel, mxI lar id⟩); (try simp only [World.size_alloc] at hs); replace HS := Aside0.mk hs; clear hs))
    try rw [Exit.noGoto_ret]
    refine bodyPost_ret (results_list (rs := [.cell 4 35, .tmp 5]) rfl (by simp) (.cell _ 35 (rcX y ⟨false, live ++ [id], rel, mxI lar id⟩) (0, 0) _ rfl (sl_blk HS.out 3 rfl) Try.underlying35 rfl (by kernel_rfl) (.tmp .nil))) rfl ?_
    exact ⟨y, rfl, sl_take HS.out 2⟩
  · go_enter Try.func27, Try.ntmps27
    go_wp2_with (first
        | (go_at_call 30; (first | with_reducible refine (rhas_live (x := x) (s := ⟨true, live, rel, lar⟩) (by repeat (with_reducible first | exact HS.out | apply sl_drewN | apply sl_drew | apply sl_box | apply sl_alloc)) 0 rfl id HLl.out HB1.out).mono ?_ | with_reducible refine (rhas_rel (x := x) (s := ⟨true, live, rel, lar⟩) (by repeat (with_reducible first | exact HS.out | apply sl_drewN | apply sl_drew | apply sl_box | apply sl_alloc)) 0 rfl id HLr.out HB2.out).mono ?_); rintro e w1 ⟨rfl, hs⟩; (try simp only [World.size_alloc] at hs); replace HS := Aside0.mk hs; clear hs; (try clear a0 a1 a2 a3 fa1 fa2 fa3 la); (try (have a0 := c_at HS.out 2 rfl 0 rfl; have a1 := c_at HS.out 2 rfl 1 rfl; have a2 := c_at HS.out 2 rfl 2 rfl; have a3 := c_at HS.out 2 rfl 3 rfl; have fa1 := f_at HS.out 2 rfl 1; have fa2 := f_at HS.out 2 rfl 2; have fa3 := f_at HS.out 2 rfl 3; have la := blk_lt (sl_blk HS.out 2 rfl))))
        | (go_at_call 31; refine (used_c (x := x) (s := ⟨true, live, rel, lar⟩) (by repeat (with_reducible first | exact HS.out | apply sl_drewN | apply sl_drew | apply sl_box | apply sl_alloc)) 0 (by rfl) id HLl.out HId.out.1 HId.out.2).mono ?_; rintro e w1 ⟨y, rfl, hs⟩; (try simp only [World.size_alloc] at hs); replace HS := Aside0.mk hs; clear hs; (try clear a0 a1 a2 a3 fa1 fa2 fa3 la); (try (have a0 := c_at HS.out 2 rfl 0 rfl; have a1 := c_at HS.out 2 rfl 1 rfl; have a2 := c_at HS.out 2 rfl 2 rfl; have a3 := c_at HS.out 2 rfl 3 rfl; have fa1 := f_at HS.out 2 rfl 1; have fa2 := f_at HS.out 2 rfl 2; have fa3 := f_at HS.out 2 rfl 3; have la := blk_lt (sl_blk HS.out 2 rfl))))
        | (refine wpList_store_row rfl 35 _ _ rfl _ (rcX y ⟨true, live ++ [id], rel, mxI lar id⟩) rfl rfl 35 (rc0) (sl_blk HS.out 3 rfl) (by kernel_rfl) rfl (by simp [Value.oneCell']) ?_; have hs := sl_row HS.out 3 rfl (rcX y ⟨true, live ++ [id], rel, mxI lar id⟩); (try simp only [World.size_alloc] at hs); replace HS := Aside0.mk hs; clear hs))
    try rw [Exit.noGoto_ret]
    refine bodyPost_ret (results_list (rs := [.cell 4 35, .tmp 5]) rfl (by simp) (.cell _ 35 (rcX y ⟨true, live ++ [id], rel, mxI lar id⟩) (0, 0) _ rfl (sl_blk HS.out 3 rfl) Try.underlying35 rfl (by kernel_rfl) (.tmp .nil))) rfl ?_
    exact ⟨y, rfl, sl_take HS.out 2⟩
end
end Go.Proofs.Ytegkkomlpgappaa.Q
