import Derived.Test.YtegkkomlpgappaaI2
namespace Go.Proofs.Ytegkkomlpgappaa.Q
open Go.RowKit Go.Proofs.YtegkkomlpgappaaW.PrintWords Go.Proofs.YtegkkomlpgappaaW.PrintLast Go.Proofs.YtegkkomlpgappaaW.PrintMore Go.Proofs.Ytegkkomlpgappaa.Sl Go.Proofs.Ytegkkomlpgappaa.Hand 
attribute [local go_sem] max2_int min2_int max_two min_two max_three min_three max_four min_four 
set_option linter.unusedVariables false
set_option linter.unusedSimpArgs false

section
variable {w0 w : World} {R : Res}
set_option maxHeartbeats 4000000 in
theorem rAll_in (x : XS) (s : TSt) (hs : SL w0 w [refX x s, R]) (ho : TOk s) : Calls Try.prog 26 #[rvX x s] w fun e w' => ∃ y, e = .returned (.tuple #[rvX y (allS s), .int .u32 (allV s), .int .i64 (allE s)]) ∧ SL w0 w' [refX y (allS s), R] := by
  have HG := Aside0.mk (gapI_is s)
  have hr := nxt_range ho
  have hgl := gapI_le s
  have HO := Aside0.mk ho
  obtain ⟨srv, live, rel, lar⟩ := s
  have HS := Aside0.mk (sl_box (sl_box hs (rcX x ⟨srv, live, rel, lar⟩) 35) rc0 35)
  simp only [World.size_alloc] at HS
  have o1 : live.length ≤ 256 := ho.ll
  have o2 : rel.length ≤ 100000 := ho.rl
  have HLl := Aside0.mk (show live.length ≤ 1000000 by omega)
  have HLr := Aside0.mk (show rel.length ≤ 1000000 by omega)
  clear hs ho
  by_cases c4 : 256 ≤ live.length
  · have d1 : decide ((256 : Int) ≤ (live.length : Int)) = true := decide_eq_true (by omega)
    have hA : allV ⟨srv, live, rel, lar⟩ = 0 ∧ allE ⟨srv, live, rel, lar⟩ = 5 ∧ allS ⟨srv, live, rel, lar⟩ = ⟨srv, live, rel, lar⟩ := ⟨if_pos c4, if_pos c4, if_pos c4⟩
    rw [hA.1, hA.2.1, hA.2.2]
    clear hA c4 hr hgl o1 o2
    go_enter Try.func26, Try.ntmps26
    go_wp2_with (first
        | (refine wpList_store_row rfl 35 _ _ rfl _ (rcX x ⟨srv, live, rel, lar⟩) rfl rfl 35 (rc0) (sl_blk HS.out 3 rfl) (by kernel_rfl) rfl (by simp [Value.oneCell']) ?_; have hs := sl_row HS.out 3 rfl (rcX x ⟨srv, live, rel, lar⟩); (try simp only [World.size_alloc] at hs); replace HS := Aside0.mk hs; clear hs))
    try rw [Exit.noGoto_ret]
    refine bodyPost_ret (results_list (rs := [.cell 2 35, .tmp 3, .tmp 4]) rfl (by simp) (.cell _ 35 (rcX x ⟨srv, live, rel, lar⟩) (0, 0) _ rfl (sl_blk HS.out 3 rfl) Try.underlying35 rfl (by kernel_rfl) (.tmp (.tmp .nil)))) rfl ?_
    first | exact ⟨x, rfl, sl_take HS.out 2⟩ | exact ⟨x.1, x.2.1, x.2.2.1, x.2.2.2, rfl, sl_take HS.out 2⟩
  have d1 : decide ((256 : Int) ≤ (live.length : Int)) = false := decide_eq_false (by omega)
  have hA : allV ⟨srv, live, rel, lar⟩ = nxtI ⟨srv, live, rel, lar⟩ ∧ allE ⟨srv, live, rel, lar⟩ = 0 ∧ allS ⟨srv, live, rel, lar⟩ = used ⟨srv, live, rel, lar⟩ (nxtI ⟨srv, live, rel, lar⟩) := ⟨if_neg c4, if_neg c4, if_neg c4⟩
  have hnl : nxtI ⟨srv, live, rel, lar⟩ ∉ live := fun h => HG.out.2 (List.mem_append.2 (.inl h))
  rw [hA.1, hA.2.1, hA.2.2, used_new hnl]
  clear hA c4 hnl
  cases srv
  · have hN : nxtI ⟨false, live, rel, lar⟩ = 1 + (gapI ⟨false, live, rel, lar⟩ : Int) := rfl
    rw [hN] at hr ⊢
    obtain ⟨G, hG⟩ : ∃ q, gapI ⟨false, live, rel, lar⟩ = q := ⟨_, rfl⟩
    rw [hG] at HG hr hgl ⊢
    clear hN hG
    go_enter Try.func26, Try.ntmps26
    go_wp2_with (fail)
    obtain ⟨gb, hgb⟩ : ∃ q, w.heap.size = q := ⟨_, rfl⟩
    have HSS : Aside0 (SL w0 _ [refX x ⟨false, live, rel, lar⟩, R, cellsR gb 35 (rcX x ⟨false, live, rel, lar⟩), cellsR (gb + 1) 35 rc0]) := ⟨by have h1 := HS.out; rw [hgb] at h1; exact h1⟩
    try simp only [hgb]
    have hf1 : (1 : Int) ≤ 1 := by decide
    clear HS hgb
    go_loopg [5] G (fun kq v5 wr => ∃ n : Nat, v5 = .int .u32 (1 + (n : Int)) ∧ Aside0 (n + kq = G) ∧ Aside0 (SL w0 wr [refX x ⟨false, live, rel, lar⟩, R, cellsR gb 35 (rcX x ⟨false, live, rel, lar⟩), cellsR (gb + 1) 35 rc0]))
    case atStart => exact ⟨0, by simp, ⟨by omega⟩, HSS⟩
    case round =>
      clear HSS
      obtain ⟨n, rfl, HI, HS⟩ := hrel
      have hi := HI.out
      have a0 := c_at HS.out 2 rfl 0 rfl
      have a1 := c_at HS.out 2 rfl 1 rfl
      have a2 := c_at HS.out 2 rfl 2 rfl
      have a3 := c_at HS.out 2 rfl 3 rfl
      have la := blk_lt (sl_blk HS.out 2 rfl)
      have p1 : 0 ≤ 1 + (n : Int) := by omega
      have p2 : 1 + (n : Int) < 4294967296 := by omega
      by_cases hlt : n < G
      · have hin := HG.out.1 n hlt
        rw [List.mem_append] at hin
        obtain ⟨kq, rfl⟩ : ∃ m, gk = m + 1 := ⟨gk - 1, by omega⟩
        have p3 : 1 + (n : Int) + 1 < 4294967296 := by omega
        by_cases c1 : 1 + (n : Int) ∈ live
        · have HB1 := Aside0.mk (show decide (1 + (n : Int) ∈ live) = true from decide_eq_true c1)
          have HB2 := Aside0.mk (show decide (1 + (n : Int) ∈ rel) = decide (1 + (n : Int) ∈ rel) from rfl)
          clear hin c1 hlt hi
          go_wp2_with (first
            | (go_at_call 30; (first | with_reducible refine (rhas_live (x := x) (s := ⟨false, live, rel, lar⟩) (by repeat (with_reducible first | exact HS.out | apply sl_drewN | apply sl_drew | apply sl_box | apply sl_alloc)) 0 rfl (1 + (n : Int)) HLl.out HB1.out).mono ?_ | with_reducible refine (rhas_rel (x := x) (s := ⟨false, live, rel, lar⟩) (by repeat (with_reducible first | exact HS.out | apply sl_drewN | apply sl_drew | apply sl_box | apply sl_alloc)) 0 rfl (1 + (n : Int)) HLr.out HB2.out).mono ?_); rintro e w1 ⟨rfl, hs⟩; (try simp only [World.size_alloc] at hs); replace HS := Aside0.mk hs; clear hs; (try clear a0 a1 a2 a3 fa1 fa2 fa3 la); (try (have a0 := c_at HS.out 2 rfl 0 rfl; have a1 := c_at HS.out 2 rfl 1 rfl; have a2 := c_at HS.out 2 rfl 2 rfl; have a3 := c_at HS.out 2 rfl 3 rfl; have fa1 := f_at HS.out 2 rfl 1; have fa2 := f_at HS.out 2 rfl 2; have fa3 := f_at HS.out 2 rfl 3; have la := blk_lt (sl_blk HS.out 2 rfl)))))
          go_roundg kq
          case measure => omega
          case rel => exact ⟨n + 1, (by congr 1 <;> omega), ⟨by have := HI.out; omega⟩, ⟨HS.out⟩⟩
        · have HB1 := Aside0.mk (show decide (1 + (n : Int) ∈ live) = false from decide_eq_false c1)
          have HB2 := Aside0.mk (show decide (1 + (n : Int) ∈ rel) = true from decide_eq_true (hin.resolve_left c1))
          clear hin c1 hlt hi
          go_wp2_with (first
            | (go_at_call 30; (first | with_reducible refine (rhas_live (x := x) (s := ⟨false, live, rel, lar⟩) (by repeat (with_reducible first | exact HS.out | apply sl_drewN | apply sl_drew | apply sl_box | apply sl_alloc)) 0 rfl (1 + (n : Int)) HLl.out HB1.out).mono ?_ | with_reducible refine (rhas_rel (x := x) (s := ⟨false, live, rel, lar⟩) (by repeat (with_reducible first | exact HS.out | apply sl_drewN | apply sl_drew | apply sl_box | apply sl_alloc)) 0 rfl (1 + (n : Int)) HLr.out HB2.out).mono ?_); rintro e w1 ⟨rfl, hs⟩; (try simp only [World.size_alloc] at hs); replace HS := Aside0.mk hs; clear hs; (try clear a0 a1 a2 a3 fa1 fa2 fa3 la); (try (have a0 := c_at HS.out 2 rfl 0 rfl; have a1 := c_at HS.out 2 rfl 1 rfl; have a2 := c_at HS.out 2 rfl 2 rfl; have a3 := c_at HS.out 2 rfl 3 rfl; have fa1 := f_at HS.out 2 rfl 1; have fa2 := f_at HS.out 2 rfl 2; have fa3 := f_at HS.out 2 rfl 3; have la := blk_lt (sl_blk HS.out 2 rfl)))))
          go_roundg kq
          case measure => omega
          case rel => exact ⟨n + 1, (by congr 1 <;> omega), ⟨by have := HI.out; omega⟩, ⟨HS.out⟩⟩
      · obtain rfl : n = G := by omega
        have hni := HG.out.2
        have HB1 := Aside0.mk (show decide (1 + (n : Int) ∈ live) = false from decide_eq_false fun h => hni (List.mem_append.2 (.inl h)))
        have HB2 := Aside0.mk (show decide (1 + (n : Int) ∈ rel) = false from decide_eq_false fun h => hni (List.mem_append.2 (.inr h)))
        have HId := Aside0.mk (And.intro p1 p2)
        clear hni hlt hi
        go_wp2_with (first
          | (go_at_call 30; (first | with_reducible refine (rhas_live (x := x) (s := ⟨false, live, rel, lar⟩) (by repeat (with_reducible first | exact HS.out | apply sl_drewN | apply sl_drew | apply sl_box | apply sl_alloc)) 0 rfl (1 + (n : Int)) HLl.out HB1.out).mono ?_ | with_reducible refine (rhas_rel (x := x) (s := ⟨false, live, rel, lar⟩) (by repeat (with_reducible first | exact HS.out | apply sl_drewN | apply sl_drew | apply sl_box | apply sl_alloc)) 0 rfl (1 + (n : Int)) HLr.out HB2.out).mono ?_); rintro e w1 ⟨rfl, hs⟩; (try simp only [World.size_alloc] at hs); replace HS := Aside0.mk hs; clear hs; (try clear a0 a1 a2 a3 fa1 fa2 fa3 la); (try (have a0 := c_at HS.out 2 rfl 0 rfl; have a1 := c_at HS.out 2 rfl 1 rfl; have a2 := c_at HS.out 2 rfl 2 rfl; have a3 := c_at HS.out 2 rfl 3 rfl; have fa1 := f_at HS.out 2 rfl 1; have fa2 := f_at HS.out 2 rfl 2; have fa3 := f_at HS.out 2 rfl 3; have la := blk_lt (sl_blk HS.out 2 rfl))))
          | (go_at_call 31; refine (used_c (x := x) (s := ⟨false, live, rel, lar⟩) (by repeat (with_reducible first | exact HS.out | apply sl_drewN | apply sl_drew | apply sl_box | apply sl_alloc)) 0 (by rfl) (1 + (n : Int)) HLl.out HId.out.1 HId.out.2).mono ?_; rintro e w1 ⟨y, rfl, hs⟩; (try simp only [World.size_alloc] at hs); replace HS := Aside0.mk hs; clear hs; (try clear a0 a1 a2 a3 fa1 fa2 fa3 la); (try (have a0 := c_at HS.out 2 rfl 0 rfl; have a1 := c_at HS.out 2 rfl 1 rfl; have a2 := c_at HS.out 2 rfl 2 rfl; have a3 := c_at HS.out 2 rfl 3 rfl; have fa1 := f_at HS.out 2 rfl 1; have fa2 := f_at HS.out 2 rfl 2; have fa3 := f_at HS.out 2 rfl 3; have la := blk_lt (sl_blk HS.out 2 rfl))))
          | (refine wpList_store_row rfl 35 _ _ rfl _ (rcX y ⟨false, live ++ [1 + (n : Int)], rel, mxI lar (1 + (n : Int))⟩) rfl rfl 35 (rc0) (sl_blk HS.out 3 rfl) (by kernel_rfl) rfl (by simp [Value.oneCell']) ?_; have hs := sl_row HS.out 3 rfl (rcX y ⟨false, live ++ [1 + (n : Int)], rel, mxI lar (1 + (n : Int))⟩); (try simp only [World.size_alloc] at hs); replace HS := Aside0.mk hs; clear hs))
        try rw [Exit.noGoto_ret]
        refine bodyPost_ret (results_list (rs := [.cell 2 35, .tmp 3, .tmp 4]) rfl (by simp) (.cell _ 35 (rcX y ⟨false, live ++ [1 + (n : Int)], rel, mxI lar (1 + (n : Int))⟩) (0, 0) _ rfl (sl_blk HS.out 3 rfl) Try.underlying35 rfl (by kernel_rfl) (.tmp (.tmp .nil)))) rfl ?_
        first | exact ⟨y, rfl, sl_take HS.out 2⟩ | exact ⟨y.1, y.2.1, y.2.2.1, y.2.2.2, rfl, sl_take HS.out 2⟩
  · have hN : nxtI ⟨true, live, rel, lar⟩ = 4278190080 + (gapI ⟨true, live, rel, lar⟩ : Int) := rfl
    rw [hN] at hr ⊢
    obtain ⟨G, hG⟩ : ∃ q, gapI ⟨true, live, rel, lar⟩ = q := ⟨_, rfl⟩
    rw [hG] at HG hr hgl ⊢
    clear hN hG
    go_enter Try.func26, Try.ntmps26
    go_wp2_with (fail)
    obtain ⟨gb, hgb⟩ : ∃ q, w.heap.size = q := ⟨_, rfl⟩
    have HSS : Aside0 (SL w0 _ [refX x ⟨true, live, rel, lar⟩, R, cellsR gb 35 (rcX x ⟨true, live, rel, lar⟩), cellsR (gb + 1) 35 rc0]) := ⟨by have h1 := HS.out; rw [hgb] at h1; exact h1⟩
    try simp only [hgb]
    have hf1 : (1 : Int) ≤ 4278190080 := by decide
    clear HS hgb
    go_loopg [5] G (fun kq v5 wr => ∃ n : Nat, v5 = .int .u32 (4278190080 + (n : Int)) ∧ Aside0 (n + kq = G) ∧ Aside0 (SL w0 wr [refX x ⟨true, live, rel, lar⟩, R, cellsR gb 35 (rcX x ⟨true, live, rel, lar⟩), cellsR (gb + 1) 35 rc0]))
    case atStart => exact ⟨0, by simp, ⟨by omega⟩, HSS⟩
    case round =>
      clear HSS
      obtain ⟨n, rfl, HI, HS⟩ := hrel
      have hi := HI.out
      have a0 := c_at HS.out 2 rfl 0 rfl
      have a1 := c_at HS.out 2 rfl 1 rfl
      have a2 := c_at HS.out 2 rfl 2 rfl
      have a3 := c_at HS.out 2 rfl 3 rfl
      have la := blk_lt (sl_blk HS.out 2 rfl)
      have p1 : 0 ≤ 4278190080 + (n : Int) := by omega
      have p2 : 4278190080 + (n : Int) < 4294967296 := by omega
      by_cases hlt : n < G
      · have hin := HG.out.1 n hlt
        rw [List.mem_append] at hin
        obtain ⟨kq, rfl⟩ : ∃ m, gk = m + 1 := ⟨gk - 1, by omega⟩
        have p3 : 4278190080 + (n : Int) + 1 < 4294967296 := by omega
        by_cases c1 : 4278190080 + (n : Int) ∈ live
        · have HB1 := Aside0.mk (show decide (4278190080 + (n : Int) ∈ live) = true from decide_eq_true c1)
          have HB2 := Aside0.mk (show decide (4278190080 + (n : Int) ∈ rel) = decide (4278190080 + (n : Int) ∈ rel) from rfl)
          clear hin c1 hlt hi
          go_wp2_with (first
            | (go_at_call 30; (first | with_reducible refine (rhas_live (x := x) (s := ⟨true, live, rel, lar⟩) (by repeat (with_reducible first | exact HS.out | apply sl_drewN | apply sl_drew | apply sl_box | apply sl_alloc)) 0 rfl (4278190080 + (n : Int)) HLl.out HB1.out).mono ?_ | with_reducible refine (rhas_rel (x := x) (s := ⟨true, live, rel, lar⟩) (by repeat (with_reducible first | exact HS.out | apply sl_drewN | apply sl_drew | apply sl_box | apply sl_alloc)) 0 rfl (4278190080 + (n : Int)) HLr.out HB2.out).mono ?_); rintro e w1 ⟨rfl, hs⟩; (try simp only [World.size_alloc] at hs); replace HS := Aside0.mk hs; clear hs; (try clear a0 a1 a2 a3 fa1 fa2 fa3 la); (try (have a0 := c_at HS.out 2 rfl 0 rfl; have a1 := c_at HS.out 2 rfl 1 rfl; have a2 := c_at HS.out 2 rfl 2 rfl; have a3 := c_at HS.out 2 rfl 3 rfl; have fa1 := f_at HS.out 2 rfl 1; have fa2 := f_at HS.out 2 rfl 2; have fa3 := f_at HS.out 2 rfl 3; have la := blk_lt (sl_blk HS.out 2 rfl)))))
          go_roundg kq
          case measure => omega
          case rel => exact ⟨n + 1, (by congr 1 <;> omega), ⟨by have := HI.out; omega⟩, ⟨HS.out⟩⟩
        · have HB1 := Aside0.mk (show decide (4278190080 + (n : Int) ∈ live) = false from decide_eq_false c1)
          have HB2 := Aside0.mk (show decide (4278190080 + (n : Int) ∈ rel) = true from decide_eq_true (hin.resolve_left c1))
          clear hin c1 hlt hi
          go_wp2_with (first
            | (go_at_call 30; (first | with_reducible refine (rhas_live (x := x) (s := ⟨true, live, rel, lar⟩) (by repeat (with_reducible first | exact HS.out | apply sl_drewN | apply sl_drew | apply sl_box | apply sl_alloc)) 0 rfl (4278190080 + (n : Int)) HLl.out HB1.out).mono ?_ | with_reducible refine (rhas_rel (x := x) (s := ⟨true, live, rel, lar⟩) (by repeat (with_reducible first | exact HS.out | apply sl_drewN | apply sl_drew | apply sl_box | apply sl_alloc)) 0 rfl (4278190080 + (n : Int)) HLr.out HB2.out).mono ?_); rintro e w1 ⟨rfl, hs⟩; (try simp only [World.size_alloc] at hs); replace HS := Aside0.mk hs; clear hs; (try clear a0 a1 a2 a3 fa1 fa2 fa3 la); (try (have a0 := c_at HS.out 2 rfl 0 rfl; have a1 := c_at HS.out 2 rfl 1 rfl; have a2 := c_at HS.out 2 rfl 2 rfl; have a3 := c_at HS.out 2 rfl 3 rfl; have fa1 := f_at HS.out 2 rfl 1; have fa2 := f_at HS.out 2 rfl 2; have fa3 := f_at HS.out 2 rfl 3; have la := blk_lt (sl_blk HS.out 2 rfl)))))
          go_roundg kq
          case measure => omega
          case rel => exact ⟨n + 1, (by congr 1 <;> omega), ⟨by have := HI.out; omega⟩, ⟨HS.out⟩⟩
      · obtain rfl : n = G := by omega
        have hni := HG.out.2
        have HB1 := Aside0.mk (show decide (4278190080 + (n : Int) ∈ live) = false from decide_eq_false fun h => hni (List.mem_append.2 (.inl h)))
        have HB2 := Aside0.mk (show decide (4278190080 + (n : Int) ∈ rel) = false from decide_eq_false fun h => hni (List.mem_append.2 (.inr h)))
        have HId := Aside0.mk (And.intro p1 p2)
        clear hni hlt hi
        go_wp2_with (first
          | (go_at_call 30; (first | with_reducible refine (rhas_live (x := x) (s := ⟨true, live, rel, lar⟩) (by repeat (with_reducible first | exact HS.out | apply sl_drewN | apply sl_drew | apply sl_box | apply sl_alloc)) 0 rfl (4278190080 + (n : Int)) HLl.out HB1.out).mono ?_ | with_reducible refine (rhas_rel (x := x) (s := ⟨true, live, rel, lar⟩) (by repeat (with_reducible first | exact HS.out | apply sl_drewN | apply sl_drew | apply sl_box | apply sl_alloc)) 0 rfl (4278190080 + (n : Int)) HLr.out HB2.out).mono ?_); rintro e w1 ⟨rfl, hs⟩; (try simp only [World.size_alloc] at hs); replace HS := Aside0.mk hs; clear hs; (try clear a0 a1 a2 a3 fa1 fa2 fa3 la); (try (have a0 := c_at HS.out 2 rfl 0 rfl; have a1 := c_at HS.out 2 rfl 1 rfl; have a2 := c_at HS.out 2 rfl 2 rfl; have a3 := c_at HS.out 2 rfl 3 rfl; have fa1 := f_at HS.out 2 rfl 1; have fa2 := f_at HS.out 2 rfl 2; have fa3 := f_at HS.out 2 rfl 3; have la := blk_lt (sl_blk HS.out 2 rfl))))
          | (go_at_call 31; refine (used_c (x := x) (s := ⟨true, live, rel, lar⟩) (by repeat (with_reducible first | exact HS.out | apply sl_drewN | apply sl_drew | apply sl_box | apply sl_alloc)) 0 (by rfl) (4278190080 + (n : Int)) HLl.out HId.out.1 HId.out.2).mono ?_; rintro e w1 ⟨y, rfl, hs⟩; (try simp only [World.size_alloc] at hs); replace HS := Aside0.mk hs; clear hs; (try clear a0 a1 a2 a3 fa1 fa2 fa3 la); (try (have a0 := c_at HS.out 2 rfl 0 rfl; have a1 := c_at HS.out 2 rfl 1 rfl; have a2 := c_at HS.out 2 rfl 2 rfl; have a3 := c_at HS.out 2 rfl 3 rfl; have fa1 := f_at HS.out 2 rfl 1; have fa2 := f_at HS.out 2 rfl 2; have fa3 := f_at HS.out 2 rfl 3; have la := blk_lt (sl_blk HS.out 2 rfl))))
          | (refine wpList_store_row rfl 35 _ _ rfl _ (rcX y ⟨true, live ++ [4278190080 + (n : Int)], rel, mxI lar (4278190080 + (n : Int))⟩) rfl rfl 35 (rc0) (sl_blk HS.out 3 rfl) (by kernel_rfl) rfl (by simp [Value.oneCell']) ?_; have hs := sl_row HS.out 3 rfl (rcX y ⟨true, live ++ [4278190080 + (n : Int)], rel, mxI lar (4278190080 + (n : Int))⟩); (try simp only [World.size_alloc] at hs); replace HS := Aside0.mk hs; clear hs))
        try rw [Exit.noGoto_ret]
        refine bodyPost_ret (results_list (rs := [.cell 2 35, .tmp 3, .tmp 4]) rfl (by simp) (.cell _ 35 (rcX y ⟨true, live ++ [4278190080 + (n : Int)], rel, mxI lar (4278190080 + (n : Int))⟩) (0, 0) _ rfl (sl_blk HS.out 3 rfl) Try.underlying35 rfl (by kernel_rfl) (.tmp (.tmp .nil)))) rfl ?_
        first | exact ⟨y, rfl, sl_take HS.out 2⟩ | exact ⟨y.1, y.2.1, y.2.2.1, y.2.2.2, rfl, sl_take HS.out 2⟩
end
end Go.Proofs.Ytegkkomlpgappaa.Q
