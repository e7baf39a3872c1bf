import Derived.Laws.StandIn
import Derived.Test.YtckpgccbhaejgaaT25
namespace Go.Proofs.Ytckpgccbhaejgaa.Q
open Go.RowKit Go.Proofs.YtckpgccbhaejgaaW.PrintWords Go.Proofs.YtckpgccbhaejgaaW.PrintLast Go.Proofs.YtckpgccbhaejgaaW.PrintMore Go.Proofs.Ytckpgccbhaejgaa.Sl Go.Proofs.Ytckpgccbhaejgaa.Hand 
attribute [local go_sem] max2_int min2_int max_two min_two max_three min_three max_four min_four 
set_option linter.unusedVariables false
set_option linter.unusedSimpArgs false

set_option maxHeartbeats 2000000 in
theorem rAcc_c {w0 w : World} {L : List Res} (h : SL w0 w L) (s : WSt) {M : Int} (hM : mskI s.b = M) (x y : Int) : Calls Try.prog 35 #[rvS s M, .int .i64 x, .int .i64 y] w fun e w' => e = .returned (.tuple #[rvS (accS s x y) M, .int .i64 (accE s x y)]) ∧ SL w0 w' L := by
  have HL := Aside0.mk h
  have HS := Aside0.mk (sl_start w)
  clear h
  have hcon := and3 s.b
  rw [hM] at hcon
  obtain ⟨X3, h33⟩ : ∃ X, Go.bits .and .i64 M 3 = X := ⟨_, rfl⟩
  rw [h33] at hcon
  by_cases c1 : valB 1 x y = true
  rotate_left
  · have HV := Aside0.mk (show valB 1 x y = false from Bool.eq_false_iff.2 c1)
    have hE : accE s x y = 6 := if_neg c1
    have hS : accS s x y = s := by unfold accS; rw [hE]; rfl
    rw [hE, hS]
    clear hE hS c1 hcon h33 hM
    go_enter Try.func35, Try.ntmps35
    go_wp2_with (first
      | (go_at_call 40; refine (size_c (by repeat (with_reducible first | exact HS.out | apply sl_drewN | apply sl_drew | apply sl_box | apply sl_alloc)) x y 1 HV.out).mono ?_; rintro e w1 ⟨rfl, hs⟩; (try simp only [World.size_alloc] at hs); replace HS := Aside0.mk hs; clear hs; (try clear a0 a1 a2 a3 a4 a5 a6 a7 a8 a9 a10 fa4 fa5 fa6 fa7 la); (try (have a0 := c_at HS.out 0 rfl 0 rfl; have a1 := c_at HS.out 0 rfl 1 rfl; have a2 := c_at HS.out 0 rfl 2 rfl; have a3 := c_at HS.out 0 rfl 3 rfl; have a4 := c_at HS.out 0 rfl 4 rfl; have a5 := c_at HS.out 0 rfl 5 rfl; have a6 := c_at HS.out 0 rfl 6 rfl; have a7 := c_at HS.out 0 rfl 7 rfl; have a8 := c_at HS.out 0 rfl 8 rfl; have a9 := c_at HS.out 0 rfl 9 rfl; have a10 := c_at HS.out 0 rfl 10 rfl; have fa4 := f_at HS.out 0 rfl 4; have fa5 := f_at HS.out 0 rfl 5; have fa6 := f_at HS.out 0 rfl 6; have fa7 := f_at HS.out 0 rfl 7; have la := blk_lt (sl_blk HS.out 0 rfl))); (try clear p0 p1 lp); (try (have p0 := c_at HS.out 2 rfl 0 rfl; have p1 := c_at HS.out 2 rfl 1 rfl; have lp := blk_lt (sl_blk HS.out 2 rfl))))
      | (refine wpList_store_row rfl 39 _ _ rfl _ (rcs s M) rfl rfl 39 rcz (sl_blk (by repeat (with_reducible first | exact HS.out | apply sl_drewN | apply sl_drew | apply sl_box | apply sl_alloc)) 1 rfl) (by kernel_rfl) rfl (by simp [Value.oneCell']) ?_; have hs := sl_row (by repeat (with_reducible first | exact HS.out | apply sl_drewN | apply sl_drew | apply sl_box | apply sl_alloc)) 1 rfl (rcs s M); (try simp only [World.size_alloc] at hs); replace HS := Aside0.mk hs; clear hs))
    try rw [Exit.noGoto_ret]
    refine bodyPost_ret (results_list (rs := [.cell 6 39, .tmp 7]) rfl (by simp) (.cell _ 39 (rcs s M) (0, 0) _ rfl (sl_blk HS.out 1 rfl) Try.underlying39 rfl (by kernel_rfl) (.tmp .nil))) rfl ?_
    exact ⟨rfl, sl_below HL.out (sl_below0 HS.out)⟩
  have HV := Aside0.mk c1
  by_cases hc : (s.b.a || s.b.b) = true
  · replace hcon : (X3 != 0) = true := by unfold bne; rw [hcon, hc]; rfl
    obtain ⟨eb, heb⟩ : ∃ eb, (x == s.sx && (y == s.sy)) = eb := ⟨_, rfl⟩
    have hq : ∀ d (W : World), (Op.equalIn (d + 2) 23 (.agg #[.int .i64 x, .int .i64 y]) (.agg #[.int .i64 s.sx, .int .i64 s.sy])).run Try.prog W = .ok eb W := fun d W => by
      rw [← heb]
      exact eqA23 d W x s.sx y s.sy
    have hE0 : accE s x y = if eb = true then 0 else 14 := by unfold accE; rw [if_pos c1, if_pos hc, heb]
    rw [← h33] at hcon
    have HC := Aside0.mk hcon
    clear hcon
    clear hM h33 heb
    cases eb
    · have hE : accE s x y = 14 := hE0
      have hS : accS s x y = s := by unfold accS; rw [hE]; rfl
      rw [hE, hS]
      clear hE hS hE0 c1 hc
      go_enter Try.func35, Try.ntmps35
      go_wp2_with (first
      | (go_at_call 40; refine (size_c (by repeat (with_reducible first | exact HS.out | apply sl_drewN | apply sl_drew | apply sl_box | apply sl_alloc)) x y 1 HV.out).mono ?_; rintro e w1 ⟨rfl, hs⟩; (try simp only [World.size_alloc] at hs); replace HS := Aside0.mk hs; clear hs; (try clear a0 a1 a2 a3 a4 a5 a6 a7 a8 a9 a10 fa4 fa5 fa6 fa7 la); (try (have a0 := c_at HS.out 0 rfl 0 rfl; have a1 := c_at HS.out 0 rfl 1 rfl; have a2 := c_at HS.out 0 rfl 2 rfl; have a3 := c_at HS.out 0 rfl 3 rfl; have a4 := c_at HS.out 0 rfl 4 rfl; have a5 := c_at HS.out 0 rfl 5 rfl; have a6 := c_at HS.out 0 rfl 6 rfl; have a7 := c_at HS.out 0 rfl 7 rfl; have a8 := c_at HS.out 0 rfl 8 rfl; have a9 := c_at HS.out 0 rfl 9 rfl; have a10 := c_at HS.out 0 rfl 10 rfl; have fa4 := f_at HS.out 0 rfl 4; have fa5 := f_at HS.out 0 rfl 5; have fa6 := f_at HS.out 0 rfl 6; have fa7 := f_at HS.out 0 rfl 7; have la := blk_lt (sl_blk HS.out 0 rfl))); (try clear p0 p1 lp); (try (have p0 := c_at HS.out 2 rfl 0 rfl; have p1 := c_at HS.out 2 rfl 1 rfl; have lp := blk_lt (sl_blk HS.out 2 rfl))))
      | (go_at_call 42; refine (con_c (by repeat (with_reducible first | exact HS.out | apply sl_drewN | apply sl_drew | apply sl_box | apply sl_alloc)) s HC.out).mono ?_; rintro e w1 ⟨rfl, hs⟩; (try simp only [World.size_alloc] at hs); replace HS := Aside0.mk hs; clear hs; (try clear a0 a1 a2 a3 a4 a5 a6 a7 a8 a9 a10 fa4 fa5 fa6 fa7 la); (try (have a0 := c_at HS.out 0 rfl 0 rfl; have a1 := c_at HS.out 0 rfl 1 rfl; have a2 := c_at HS.out 0 rfl 2 rfl; have a3 := c_at HS.out 0 rfl 3 rfl; have a4 := c_at HS.out 0 rfl 4 rfl; have a5 := c_at HS.out 0 rfl 5 rfl; have a6 := c_at HS.out 0 rfl 6 rfl; have a7 := c_at HS.out 0 rfl 7 rfl; have a8 := c_at HS.out 0 rfl 8 rfl; have a9 := c_at HS.out 0 rfl 9 rfl; have a10 := c_at HS.out 0 rfl 10 rfl; have fa4 := f_at HS.out 0 rfl 4; have fa5 := f_at HS.out 0 rfl 5; have fa6 := f_at HS.out 0 rfl 6; have fa7 := f_at HS.out 0 rfl 7; have la := blk_lt (sl_blk HS.out 0 rfl))); (try clear p0 p1 lp); (try (have p0 := c_at HS.out 2 rfl 0 rfl; have p1 := c_at HS.out 2 rfl 1 rfl; have lp := blk_lt (sl_blk HS.out 2 rfl))))
      | (refine wpList_store_row rfl 39 _ _ rfl _ (rcs s M) rfl rfl 39 rcz (sl_blk (by repeat (with_reducible first | exact HS.out | apply sl_drewN | apply sl_drew | apply sl_box | apply sl_alloc)) 1 rfl) (by kernel_rfl) rfl (by simp [Value.oneCell']) ?_; have hs := sl_row (by repeat (with_reducible first | exact HS.out | apply sl_drewN | apply sl_drew | apply sl_box | apply sl_alloc)) 1 rfl (rcs s M); (try simp only [World.size_alloc] at hs); replace HS := Aside0.mk hs; clear hs))
      try rw [Exit.noGoto_ret]
      refine bodyPost_ret (results_list (rs := [.cell 6 39, .tmp 7]) rfl (by simp) (.cell _ 39 (rcs s M) (0, 0) _ rfl (sl_blk HS.out 1 rfl) Try.underlying39 rfl (by kernel_rfl) (.tmp .nil))) rfl ?_
      exact ⟨rfl, sl_below HL.out (sl_below0 HS.out)⟩
    · have hE : accE s x y = 0 := hE0
      have hS : accS s x y = { s with gx := x, gy := y } := by unfold accS; rw [hE, if_pos rfl, if_pos hc]
      rw [hE, hS]
      clear hE hS hE0 c1 hc
      go_enter Try.func35, Try.ntmps35
      go_wp2_with (first
      | (go_at_call 40; refine (size_c (by repeat (with_reducible first | exact HS.out | apply sl_drewN | apply sl_drew | apply sl_box | apply sl_alloc)) x y 1 HV.out).mono ?_; rintro e w1 ⟨rfl, hs⟩; (try simp only [World.size_alloc] at hs); replace HS := Aside0.mk hs; clear hs; (try clear a0 a1 a2 a3 a4 a5 a6 a7 a8 a9 a10 fa4 fa5 fa6 fa7 la); (try (have a0 := c_at HS.out 0 rfl 0 rfl; have a1 := c_at HS.out 0 rfl 1 rfl; have a2 := c_at HS.out 0 rfl 2 rfl; have a3 := c_at HS.out 0 rfl 3 rfl; have a4 := c_at HS.out 0 rfl 4 rfl; have a5 := c_at HS.out 0 rfl 5 rfl; have a6 := c_at HS.out 0 rfl 6 rfl; have a7 := c_at HS.out 0 rfl 7 rfl; have a8 := c_at HS.out 0 rfl 8 rfl; have a9 := c_at HS.out 0 rfl 9 rfl; have a10 := c_at HS.out 0 rfl 10 rfl; have fa4 := f_at HS.out 0 rfl 4; have fa5 := f_at HS.out 0 rfl 5; have fa6 := f_at HS.out 0 rfl 6; have fa7 := f_at HS.out 0 rfl 7; have la := blk_lt (sl_blk HS.out 0 rfl))); (try clear p0 p1 lp); (try (have p0 := c_at HS.out 2 rfl 0 rfl; have p1 := c_at HS.out 2 rfl 1 rfl; have lp := blk_lt (sl_blk HS.out 2 rfl))))
      | (go_at_call 42; refine (con_c (by repeat (with_reducible first | exact HS.out | apply sl_drewN | apply sl_drew | apply sl_box | apply sl_alloc)) s HC.out).mono ?_; rintro e w1 ⟨rfl, hs⟩; (try simp only [World.size_alloc] at hs); replace HS := Aside0.mk hs; clear hs; (try clear a0 a1 a2 a3 a4 a5 a6 a7 a8 a9 a10 fa4 fa5 fa6 fa7 la); (try (have a0 := c_at HS.out 0 rfl 0 rfl; have a1 := c_at HS.out 0 rfl 1 rfl; have a2 := c_at HS.out 0 rfl 2 rfl; have a3 := c_at HS.out 0 rfl 3 rfl; have a4 := c_at HS.out 0 rfl 4 rfl; have a5 := c_at HS.out 0 rfl 5 rfl; have a6 := c_at HS.out 0 rfl 6 rfl; have a7 := c_at HS.out 0 rfl 7 rfl; have a8 := c_at HS.out 0 rfl 8 rfl; have a9 := c_at HS.out 0 rfl 9 rfl; have a10 := c_at HS.out 0 rfl 10 rfl; have fa4 := f_at HS.out 0 rfl 4; have fa5 := f_at HS.out 0 rfl 5; have fa6 := f_at HS.out 0 rfl 6; have fa7 := f_at HS.out 0 rfl 7; have la := blk_lt (sl_blk HS.out 0 rfl))); (try clear p0 p1 lp); (try (have p0 := c_at HS.out 2 rfl 0 rfl; have p1 := c_at HS.out 2 rfl 1 rfl; have lp := blk_lt (sl_blk HS.out 2 rfl)))))
      refine start_ (n := 10) (S := fun w' => w'.cell? ⟨w.heap.size, 0, none⟩ = some (.int .i64 s.lx) ∧ w'.cell? ⟨w.heap.size, 1, none⟩ = some (.int .i64 s.ly) ∧ w'.cell? ⟨w.heap.size, 2, none⟩ = some (.int .i64 s.mx) ∧ w'.cell? ⟨w.heap.size, 3, none⟩ = some (.int .i64 s.my) ∧ w'.cell? ⟨w.heap.size, 4, none⟩ = some (.int .i64 s.gx) ∧ w'.cell? ⟨w.heap.size, 5, none⟩ = some (.int .i64 s.gy) ∧ w'.cell? ⟨w.heap.size, 6, none⟩ = some (.int .i64 s.fx) ∧ w'.cell? ⟨w.heap.size, 7, none⟩ = some (.int .i64 s.fy) ∧ w'.cell? ⟨w.heap.size, 8, none⟩ = some (.int .i64 s.sx) ∧ w'.cell? ⟨w.heap.size, 9, none⟩ = some (.int .i64 s.sy) ∧ w'.cell? ⟨w.heap.size, 10, none⟩ = some (.int .i64 M) ∧ w'.cell? ⟨(w.heap.size + 1 + 1), 0, none⟩ = some (.int .i64 x) ∧ w'.cell? ⟨(w.heap.size + 1 + 1), 1, none⟩ = some (.int .i64 y)) (ds := []) #[false, false, false, false, false, false, false, false, false, false] (by kernel_rfl) rfl rfl ⟨(c_at (sl_drew HS.out) 0 rfl 0 rfl), (c_at (sl_drew HS.out) 0 rfl 1 rfl), (c_at (sl_drew HS.out) 0 rfl 2 rfl), (c_at (sl_drew HS.out) 0 rfl 3 rfl), (c_at (sl_drew HS.out) 0 rfl 4 rfl), (c_at (sl_drew HS.out) 0 rfl 5 rfl), (c_at (sl_drew HS.out) 0 rfl 6 rfl), (c_at (sl_drew HS.out) 0 rfl 7 rfl), (c_at (sl_drew HS.out) 0 rfl 8 rfl), (c_at (sl_drew HS.out) 0 rfl 9 rfl), (c_at (sl_drew HS.out) 0 rfl 10 rfl), (c_at (sl_drew HS.out) 2 rfl 0 rfl), (c_at (sl_drew HS.out) 2 rfl 1 rfl)⟩ (fun hHeld => ?_)
      refine take_ (i := 0) (N := some 26) (v := ?_) (a' := ?_) #[true, false, false, false, false, false, false, false, false, false] rfl rfl (by kernel_rfl) (fun _ _ _ h => h) (Or.inl ⟨by rfl, ?_⟩) hHeld ?_ ?_
      rotate_left
      · rintro w' ⟨s0, s1, s2, s3, s4, s5, s6, s7, s8, s9, s10, s11, s12⟩
        go_simp
        with_reducible rfl
      rotate_left
      · simp only [Act.put, List.setIfInBounds_toArray, List.set_cons_zero, List.set_cons_succ, i64_w, i32_w, IntKind.wrap_u32, IntKind.wrap_u8, IntKind.wrap_u16]
        rfl
      refine one_ (i := 1) (N := some 27) #[true, true, false, false, false, false, false, false, false, false] rfl rfl (by kernel_rfl) (by decide) (fun K hK => ?_)
      refine goes_ Try.func42 (by kernel_rfl) rfl #[rvS s M] (by rfl) rfl rfl (by (try simp only [List.map_toArray, List.map_cons, List.map_nil]); first | done | rfl) ?_
      with_reducible refine (con_c (sl_drew HS.out) s HC.out).mono ?_
      rintro e w3 ⟨rfl, hs3⟩
      refine ⟨_, rfl, ?_⟩
      refine hK.out _ _ ⟨(c_at hs3 0 rfl 0 rfl), (c_at hs3 0 rfl 1 rfl), (c_at hs3 0 rfl 2 rfl), (c_at hs3 0 rfl 3 rfl), (c_at hs3 0 rfl 4 rfl), (c_at hs3 0 rfl 5 rfl), (c_at hs3 0 rfl 6 rfl), (c_at hs3 0 rfl 7 rfl), (c_at hs3 0 rfl 8 rfl), (c_at hs3 0 rfl 9 rfl), (c_at hs3 0 rfl 10 rfl), (c_at hs3 2 rfl 0 rfl), (c_at hs3 2 rfl 1 rfl)⟩ (fun hHeld => ?_)
      clear hK K
      refine norm_ (a' := ?_) ?_ ?_
      rotate_left
      · show Act.put _ (some 27) _ = _
        simp only [Act.put, List.setIfInBounds_toArray, List.set_cons_zero, List.set_cons_succ, i64_w, i32_w, IntKind.wrap_u32, IntKind.wrap_u8, IntKind.wrap_u16]
        rfl
      refine pure_ (i := 2) (N := some 28) (v := ?_) (a' := ?_) #[true, true, true, false, false, false, false, false, false, false] rfl rfl (by kernel_rfl) (fun _ _ _ h => h) (Or.inl ⟨by rfl, ?_⟩) ?_ ?_
      rotate_left
      · intro w'
        go_simp
        with_reducible rfl
      rotate_left
      · simp only [Act.put, List.setIfInBounds_toArray, List.set_cons_zero, List.set_cons_succ, i64_w, i32_w, IntKind.wrap_u32, IntKind.wrap_u8, IntKind.wrap_u16]
        rfl
      refine pure_ (i := 3) (N := some 29) (v := ?_) (a' := ?_) #[true, true, true, true, false, false, false, false, false, false] rfl rfl (by kernel_rfl) (fun _ _ _ h => h) (Or.inl ⟨by rfl, ?_⟩) ?_ ?_
      rotate_left
      · intro w'
        go_simp
        with_reducible rfl
      rotate_left
      · simp only [Act.put, List.setIfInBounds_toArray, List.set_cons_zero, List.set_cons_succ, i64_w, i32_w, IntKind.wrap_u32, IntKind.wrap_u8, IntKind.wrap_u16]
        rfl
      refine pure_ (i := 4) (N := some 30) (v := undef) (a' := ?_) #[true, true, true, true, true, false, false, false, false, false] rfl rfl (by kernel_rfl) (fun _ _ _ h => h) (Or.inr ⟨by rfl, rfl⟩) ?_ ?_
      rotate_left
      · simp only [Act.put, List.setIfInBounds_toArray, List.set_cons_zero, List.set_cons_succ, i64_w, i32_w, IntKind.wrap_u32, IntKind.wrap_u8, IntKind.wrap_u16]
        rfl
      refine pure_ (i := 5) (N := some 31) (v := undef) (a' := ?_) #[true, true, true, true, true, true, false, false, false, false] rfl rfl (by kernel_rfl) (fun _ _ _ h => h) (Or.inr ⟨by rfl, rfl⟩) ?_ ?_
      rotate_left
      · simp only [Act.put, List.setIfInBounds_toArray, List.set_cons_zero, List.set_cons_succ, i64_w, i32_w, IntKind.wrap_u32, IntKind.wrap_u8, IntKind.wrap_u16]
        rfl
      refine pure_ (i := 6) (N := some 32) (v := undef) (a' := ?_) #[true, true, true, true, true, true, true, false, false, false] rfl rfl (by kernel_rfl) (fun _ _ _ h => h) (Or.inr ⟨by rfl, rfl⟩) ?_ ?_
      rotate_left
      · simp only [Act.put, List.setIfInBounds_toArray, List.set_cons_zero, List.set_cons_succ, i64_w, i32_w, IntKind.wrap_u32, IntKind.wrap_u8, IntKind.wrap_u16]
        rfl
      refine pure_ (i := 7) (N := some 33) (v := undef) (a' := ?_) #[true, true, true, true, true, true, true, true, false, false] rfl rfl (by kernel_rfl) (fun _ _ _ h => h) (Or.inr ⟨by rfl, rfl⟩) ?_ ?_
      rotate_left
      · simp only [Act.put, List.setIfInBounds_toArray, List.set_cons_zero, List.set_cons_succ, i64_w, i32_w, IntKind.wrap_u32, IntKind.wrap_u8, IntKind.wrap_u16]
        rfl
      refine pure_ (i := 8) (N := some 34) (v := undef) (a' := ?_) #[true, true, true, true, true, true, true, true, true, false] rfl rfl (by kernel_rfl) (fun _ _ _ h => h) (Or.inr ⟨by rfl, rfl⟩) ?_ ?_
      rotate_left
      · simp only [Act.put, List.setIfInBounds_toArray, List.set_cons_zero, List.set_cons_succ, i64_w, i32_w, IntKind.wrap_u32, IntKind.wrap_u8, IntKind.wrap_u16]
        rfl
      refine pure_ (i := 9) (N := some 35) (v := ?_) (a' := ?_) #[true, true, true, true, true, true, true, true, true, true] rfl rfl (by kernel_rfl) (fun _ _ _ h => h) (Or.inl ⟨by rfl, ?_⟩) ?_ ?_
      rotate_left
      · intro w'
        go_simp
        with_reducible rfl
      rotate_left
      · simp only [Act.put, List.setIfInBounds_toArray, List.set_cons_zero, List.set_cons_succ, i64_w, i32_w, IntKind.wrap_u32, IntKind.wrap_u8, IntKind.wrap_u16]
        rfl
      refine done_ (by kernel_rfl) ?_
      (try clear a0 a1 a2 a4 a5 a6 a7 a8 a9 a10 fa4 fa5 fa6 fa7 la p0 p1 lp)
      have pp0 := c_at hs3 2 rfl 0 rfl
      have pp1 := c_at hs3 2 rfl 1 rfl
      have q4 := c_at hs3 0 rfl 4 rfl
      have q5 := c_at hs3 0 rfl 5 rfl
      have fq4 := f_at hs3 0 rfl 4
      have fq5 := f_at hs3 0 rfl 5
      have lq := blk_lt (sl_blk hs3 0 rfl)
      have HP := Aside0.mk (show SL w ((w3.setCell ⟨w.heap.size, 4, none⟩ (.int .i64 x)).setCell ⟨w.heap.size, 5, none⟩ (.int .i64 y)) [cellsR w.heap.size 39 (rcs { s with gx := x, gy := y } M), cellsR (w.heap.size + 1) 39 rcz, cellsR (w.heap.size + 1 + 1) 23 #[.int .i64 x, .int .i64 y]] from sl_put (sl_put hs3 0 rfl 4 (.int .i64 x)) 0 rfl 5 (.int .i64 y))
      clear HS
      have HS := HP
      go_wp2_with (first
        | (go_at_call 42; refine (con_c HP.out { s with gx := x, gy := y } HC.out).mono ?_; rintro e w5 ⟨rfl, hs⟩; (try simp only [World.size_alloc] at hs); replace HS := Aside0.mk hs; clear hs; (try clear b0 b1 b2 b3 b4 b5 b6 b7 b8 b9 b10 fb6 fb7 lb); (try (have b0 := c_at HS.out 0 rfl 0 rfl; have b1 := c_at HS.out 0 rfl 1 rfl; have b2 := c_at HS.out 0 rfl 2 rfl; have b3 := c_at HS.out 0 rfl 3 rfl; have b4 := c_at HS.out 0 rfl 4 rfl; have b5 := c_at HS.out 0 rfl 5 rfl; have b6 := c_at HS.out 0 rfl 6 rfl; have b7 := c_at HS.out 0 rfl 7 rfl; have b8 := c_at HS.out 0 rfl 8 rfl; have b9 := c_at HS.out 0 rfl 9 rfl; have b10 := c_at HS.out 0 rfl 10 rfl; have fb6 := f_at HS.out 0 rfl 6; have fb7 := f_at HS.out 0 rfl 7; have lb := blk_lt (sl_blk HS.out 0 rfl))); (try clear p0 p1 lp); (try (have p0 := c_at HS.out 2 rfl 0 rfl; have p1 := c_at HS.out 2 rfl 1 rfl; have lp := blk_lt (sl_blk HS.out 2 rfl))))
        | (refine wpList_store_row rfl 39 _ _ rfl _ (rcs { s with gx := x, gy := y } M) rfl rfl 39 rcz (sl_blk (by repeat (with_reducible first | exact HS.out | apply sl_drewN | apply sl_drew | apply sl_box | apply sl_alloc)) 1 rfl) (by kernel_rfl) rfl (by simp [Value.oneCell']) ?_; have hs := sl_row (by repeat (with_reducible first | exact HS.out | apply sl_drewN | apply sl_drew | apply sl_box | apply sl_alloc)) 1 rfl (rcs { s with gx := x, gy := y } M); (try simp only [World.size_alloc] at hs); replace HS := Aside0.mk hs; clear hs))
      try rw [Exit.noGoto_ret]
      refine bodyPost_ret (results_list (rs := [.cell 6 39, .tmp 7]) rfl (by simp) (.cell _ 39 (rcs { s with gx := x, gy := y } M) (0, 0) _ rfl (sl_blk HS.out 1 rfl) Try.underlying39 rfl (by kernel_rfl) (.tmp .nil))) rfl ?_
      exact ⟨rfl, sl_below HL.out (sl_below0 HS.out)⟩
  · replace hcon : (X3 != 0) = false := by unfold bne; rw [hcon, Bool.eq_false_iff.2 hc]; rfl
    obtain ⟨A, hA⟩ : ∃ A, limI s.lx s.mx x = A := ⟨_, rfl⟩
    obtain ⟨B, hB⟩ : ∃ B, limI s.ly s.my y = B := ⟨_, rfl⟩
    obtain ⟨eb, heb⟩ : ∃ eb, (A == x && (B == y)) = eb := ⟨_, rfl⟩
    have hq : ∀ d (W : World), (Op.equalIn (d + 2) 23 (.agg #[.int .i64 A, .int .i64 B]) (.agg #[.int .i64 x, .int .i64 y])).run Try.prog W = .ok eb W := fun d W => by
      rw [← heb]
      exact eqA23 d W A x B y
    have hE0 : accE s x y = if eb = true then 0 else 6 := by
      unfold accE
      rw [if_pos c1, if_neg hc, hA, hB, ← heb, show (x == A) = (A == x) from Bool.beq_comm, show (y == B) = (B == y) from Bool.beq_comm]
    have HA := Aside0.mk (And.intro hA hB)
    rw [← h33] at hcon
    have HC := Aside0.mk hcon
    clear hcon
    clear hM h33 heb hA hB
    cases eb
    · have hE : accE s x y = 6 := hE0
      have hS : accS s x y = s := by unfold accS; rw [hE]; rfl
      rw [hE, hS]
      clear hE hS hE0 c1 hc
      go_enter Try.func35, Try.ntmps35
      go_wp2_with (first
      | (go_at_call 40; refine (size_c (by repeat (with_reducible first | exact HS.out | apply sl_drewN | apply sl_drew | apply sl_box | apply sl_alloc)) x y 1 HV.out).mono ?_; rintro e w1 ⟨rfl, hs⟩; (try simp only [World.size_alloc] at hs); replace HS := Aside0.mk hs; clear hs; (try clear a0 a1 a2 a3 a4 a5 a6 a7 a8 a9 a10 fa4 fa5 fa6 fa7 la); (try (have a0 := c_at HS.out 0 rfl 0 rfl; have a1 := c_at HS.out 0 rfl 1 rfl; have a2 := c_at HS.out 0 rfl 2 rfl; have a3 := c_at HS.out 0 rfl 3 rfl; have a4 := c_at HS.out 0 rfl 4 rfl; have a5 := c_at HS.out 0 rfl 5 rfl; have a6 := c_at HS.out 0 rfl 6 rfl; have a7 := c_at HS.out 0 rfl 7 rfl; have a8 := c_at HS.out 0 rfl 8 rfl; have a9 := c_at HS.out 0 rfl 9 rfl; have a10 := c_at HS.out 0 rfl 10 rfl; have fa4 := f_at HS.out 0 rfl 4; have fa5 := f_at HS.out 0 rfl 5; have fa6 := f_at HS.out 0 rfl 6; have fa7 := f_at HS.out 0 rfl 7; have la := blk_lt (sl_blk HS.out 0 rfl))); (try clear p0 p1 lp); (try (have p0 := c_at HS.out 2 rfl 0 rfl; have p1 := c_at HS.out 2 rfl 1 rfl; have lp := blk_lt (sl_blk HS.out 2 rfl))))
      | (go_at_call 42; refine (con_c (by repeat (with_reducible first | exact HS.out | apply sl_drewN | apply sl_drew | apply sl_box | apply sl_alloc)) s HC.out).mono ?_; rintro e w1 ⟨rfl, hs⟩; (try simp only [World.size_alloc] at hs); replace HS := Aside0.mk hs; clear hs; (try clear a0 a1 a2 a3 a4 a5 a6 a7 a8 a9 a10 fa4 fa5 fa6 fa7 la); (try (have a0 := c_at HS.out 0 rfl 0 rfl; have a1 := c_at HS.out 0 rfl 1 rfl; have a2 := c_at HS.out 0 rfl 2 rfl; have a3 := c_at HS.out 0 rfl 3 rfl; have a4 := c_at HS.out 0 rfl 4 rfl; have a5 := c_at HS.out 0 rfl 5 rfl; have a6 := c_at HS.out 0 rfl 6 rfl; have a7 := c_at HS.out 0 rfl 7 rfl; have a8 := c_at HS.out 0 rfl 8 rfl; have a9 := c_at HS.out 0 rfl 9 rfl; have a10 := c_at HS.out 0 rfl 10 rfl; have fa4 := f_at HS.out 0 rfl 4; have fa5 := f_at HS.out 0 rfl 5; have fa6 := f_at HS.out 0 rfl 6; have fa7 := f_at HS.out 0 rfl 7; have la := blk_lt (sl_blk HS.out 0 rfl))); (try clear p0 p1 lp); (try (have p0 := c_at HS.out 2 rfl 0 rfl; have p1 := c_at HS.out 2 rfl 1 rfl; have lp := blk_lt (sl_blk HS.out 2 rfl)))))
      refine start_ (n := 10) (S := fun w' => w'.cell? ⟨w.heap.size, 0, none⟩ = some (.int .i64 s.lx) ∧ w'.cell? ⟨w.heap.size, 1, none⟩ = some (.int .i64 s.ly) ∧ w'.cell? ⟨w.heap.size, 2, none⟩ = some (.int .i64 s.mx) ∧ w'.cell? ⟨w.heap.size, 3, none⟩ = some (.int .i64 s.my) ∧ w'.cell? ⟨w.heap.size, 4, none⟩ = some (.int .i64 s.gx) ∧ w'.cell? ⟨w.heap.size, 5, none⟩ = some (.int .i64 s.gy) ∧ w'.cell? ⟨w.heap.size, 6, none⟩ = some (.int .i64 s.fx) ∧ w'.cell? ⟨w.heap.size, 7, none⟩ = some (.int .i64 s.fy) ∧ w'.cell? ⟨w.heap.size, 8, none⟩ = some (.int .i64 s.sx) ∧ w'.cell? ⟨w.heap.size, 9, none⟩ = some (.int .i64 s.sy) ∧ w'.cell? ⟨w.heap.size, 10, none⟩ = some (.int .i64 M) ∧ w'.cell? ⟨(w.heap.size + 1 + 1), 0, none⟩ = some (.int .i64 x) ∧ w'.cell? ⟨(w.heap.size + 1 + 1), 1, none⟩ = some (.int .i64 y)) (ds := []) #[false, false, false, false, false, false, false, false, false, false] (by kernel_rfl) rfl rfl ⟨(c_at (sl_drew HS.out) 0 rfl 0 rfl), (c_at (sl_drew HS.out) 0 rfl 1 rfl), (c_at (sl_drew HS.out) 0 rfl 2 rfl), (c_at (sl_drew HS.out) 0 rfl 3 rfl), (c_at (sl_drew HS.out) 0 rfl 4 rfl), (c_at (sl_drew HS.out) 0 rfl 5 rfl), (c_at (sl_drew HS.out) 0 rfl 6 rfl), (c_at (sl_drew HS.out) 0 rfl 7 rfl), (c_at (sl_drew HS.out) 0 rfl 8 rfl), (c_at (sl_drew HS.out) 0 rfl 9 rfl), (c_at (sl_drew HS.out) 0 rfl 10 rfl), (c_at (sl_drew HS.out) 2 rfl 0 rfl), (c_at (sl_drew HS.out) 2 rfl 1 rfl)⟩ (fun hHeld => ?_)
      refine take_ (i := 0) (N := some 26) (v := ?_) (a' := ?_) #[true, false, false, false, false, false, false, false, false, false] rfl rfl (by kernel_rfl) (fun _ _ _ h => h) (Or.inl ⟨by rfl, ?_⟩) hHeld ?_ ?_
      rotate_left
      · rintro w' ⟨s0, s1, s2, s3, s4, s5, s6, s7, s8, s9, s10, s11, s12⟩
        go_simp
        with_reducible rfl
      rotate_left
      · simp only [Act.put, List.setIfInBounds_toArray, List.set_cons_zero, List.set_cons_succ, i64_w, i32_w, IntKind.wrap_u32, IntKind.wrap_u8, IntKind.wrap_u16]
        rfl
      refine one_ (i := 1) (N := some 27) #[true, true, false, false, false, false, false, false, false, false] rfl rfl (by kernel_rfl) (by decide) (fun K hK => ?_)
      refine goes_ Try.func42 (by kernel_rfl) rfl #[rvS s M] (by rfl) rfl rfl (by (try simp only [List.map_toArray, List.map_cons, List.map_nil]); first | done | rfl) ?_
      with_reducible refine (con_c (sl_drew HS.out) s HC.out).mono ?_
      rintro e w3 ⟨rfl, hs3⟩
      refine ⟨_, rfl, ?_⟩
      refine hK.out _ _ ⟨(c_at hs3 0 rfl 0 rfl), (c_at hs3 0 rfl 1 rfl), (c_at hs3 0 rfl 2 rfl), (c_at hs3 0 rfl 3 rfl), (c_at hs3 0 rfl 4 rfl), (c_at hs3 0 rfl 5 rfl), (c_at hs3 0 rfl 6 rfl), (c_at hs3 0 rfl 7 rfl), (c_at hs3 0 rfl 8 rfl), (c_at hs3 0 rfl 9 rfl), (c_at hs3 0 rfl 10 rfl), (c_at hs3 2 rfl 0 rfl), (c_at hs3 2 rfl 1 rfl)⟩ (fun hHeld => ?_)
      clear hK K
      refine norm_ (a' := ?_) ?_ ?_
      rotate_left
      · show Act.put _ (some 27) _ = _
        simp only [Act.put, List.setIfInBounds_toArray, List.set_cons_zero, List.set_cons_succ, i64_w, i32_w, IntKind.wrap_u32, IntKind.wrap_u8, IntKind.wrap_u16]
        rfl
      refine pure_ (i := 2) (N := some 28) (v := ?_) (a' := ?_) #[true, true, true, false, false, false, false, false, false, false] rfl rfl (by kernel_rfl) (fun _ _ _ h => h) (Or.inl ⟨by rfl, ?_⟩) ?_ ?_
      rotate_left
      · intro w'
        go_simp
        with_reducible rfl
      rotate_left
      · simp only [Act.put, List.setIfInBounds_toArray, List.set_cons_zero, List.set_cons_succ, i64_w, i32_w, IntKind.wrap_u32, IntKind.wrap_u8, IntKind.wrap_u16]
        rfl
      refine pure_ (i := 3) (N := some 29) (v := ?_) (a' := ?_) #[true, true, true, true, false, false, false, false, false, false] rfl rfl (by kernel_rfl) (fun _ _ _ h => h) (Or.inl ⟨by rfl, ?_⟩) ?_ ?_
      rotate_left
      · intro w'
        go_simp
        with_reducible rfl
      rotate_left
      · simp only [Act.put, List.setIfInBounds_toArray, List.set_cons_zero, List.set_cons_succ, i64_w, i32_w, IntKind.wrap_u32, IntKind.wrap_u8, IntKind.wrap_u16]
        rfl
      refine take_ (i := 4) (N := some 30) (v := ?_) (a' := ?_) #[true, true, true, true, true, false, false, false, false, false] rfl rfl (by kernel_rfl) (fun _ _ _ h => h) (Or.inl ⟨by rfl, ?_⟩) hHeld ?_ ?_
      rotate_left
      · rintro w' ⟨s0, s1, s2, s3, s4, s5, s6, s7, s8, s9, s10, s11, s12⟩
        go_simp
        with_reducible rfl
      rotate_left
      · simp only [Act.put, List.setIfInBounds_toArray, List.set_cons_zero, List.set_cons_succ, i64_w, i32_w, IntKind.wrap_u32, IntKind.wrap_u8, IntKind.wrap_u16]
        rfl
      refine take_ (i := 5) (N := some 31) (v := ?_) (a' := ?_) #[true, true, true, true, true, true, false, false, false, false] rfl rfl (by kernel_rfl) (fun _ _ _ h => h) (Or.inl ⟨by rfl, ?_⟩) hHeld ?_ ?_
      rotate_left
      · rintro w' ⟨s0, s1, s2, s3, s4, s5, s6, s7, s8, s9, s10, s11, s12⟩
        go_simp
        with_reducible rfl
      rotate_left
      · simp only [Act.put, List.setIfInBounds_toArray, List.set_cons_zero, List.set_cons_succ, i64_w, i32_w, IntKind.wrap_u32, IntKind.wrap_u8, IntKind.wrap_u16]
        rfl
      refine take_ (i := 7) (N := some 33) (v := ?_) (a' := ?_) #[true, true, true, true, true, true, false, true, false, false] rfl rfl (by kernel_rfl) (fun _ _ _ h => h) (Or.inl ⟨by rfl, ?_⟩) hHeld ?_ ?_
      rotate_left
      · rintro w' ⟨s0, s1, s2, s3, s4, s5, s6, s7, s8, s9, s10, s11, s12⟩
        go_simp
        with_reducible rfl
      rotate_left
      · simp only [Act.put, List.setIfInBounds_toArray, List.set_cons_zero, List.set_cons_succ, i64_w, i32_w, IntKind.wrap_u32, IntKind.wrap_u8, IntKind.wrap_u16]
        rfl
      refine one_ (i := 6) (N := some 32) #[true, true, true, true, true, true, true, true, false, false] rfl rfl (by kernel_rfl) (by decide) (fun K hK => ?_)
      refine goes_ Try.func44 (by kernel_rfl) rfl #[rvS s M, .agg #[.int .i64 x, .int .i64 y]] (by rfl) rfl rfl (by (try simp only [List.map_toArray, List.map_cons, List.map_nil]); first | done | rfl) ?_
      with_reducible refine (Limited_c hs3 s M x y HA.out.1 HA.out.2).mono ?_
      rintro e w4 ⟨rfl, hs4⟩
      refine ⟨_, rfl, ?_⟩
      refine hK.out _ _ ⟨(c_at hs4 0 rfl 0 rfl), (c_at hs4 0 rfl 1 rfl), (c_at hs4 0 rfl 2 rfl), (c_at hs4 0 rfl 3 rfl), (c_at hs4 0 rfl 4 rfl), (c_at hs4 0 rfl 5 rfl), (c_at hs4 0 rfl 6 rfl), (c_at hs4 0 rfl 7 rfl), (c_at hs4 0 rfl 8 rfl), (c_at hs4 0 rfl 9 rfl), (c_at hs4 0 rfl 10 rfl), (c_at hs4 2 rfl 0 rfl), (c_at hs4 2 rfl 1 rfl)⟩ (fun hHeld => ?_)
      clear hK K
      refine norm_ (a' := ?_) ?_ ?_
      rotate_left
      · show Act.put _ (some 32) _ = _
        simp only [Act.put, List.setIfInBounds_toArray, List.set_cons_zero, List.set_cons_succ, i64_w, i32_w, IntKind.wrap_u32, IntKind.wrap_u8, IntKind.wrap_u16]
        rfl
      refine pure_ (i := 8) (N := some 34) (v := ?_) (a' := ?_) #[true, true, true, true, true, true, true, true, true, false] rfl rfl (by kernel_rfl) (fun _ _ _ h => h) (Or.inl ⟨by rfl, ?_⟩) ?_ ?_
      rotate_left
      · intro w'
        go_simp
        with_reducible rfl
      rotate_left
      · simp only [Act.put, List.setIfInBounds_toArray, List.set_cons_zero, List.set_cons_succ, i64_w, i32_w, IntKind.wrap_u32, IntKind.wrap_u8, IntKind.wrap_u16]
        rfl
      refine pure_ (i := 9) (N := some 35) (v := ?_) (a' := ?_) #[true, true, true, true, true, true, true, true, true, true] rfl rfl (by kernel_rfl) (fun _ _ _ h => h) (Or.inl ⟨by rfl, ?_⟩) ?_ ?_
      rotate_left
      · intro w'
        go_simp
        with_reducible rfl
      rotate_left
      · simp only [Act.put, List.setIfInBounds_toArray, List.set_cons_zero, List.set_cons_succ, i64_w, i32_w, IntKind.wrap_u32, IntKind.wrap_u8, IntKind.wrap_u16]
        rfl
      refine done_ (by kernel_rfl) ?_
      have ga := 0
      have b0 := c_at hs4 0 rfl 0 rfl
      have b1 := c_at hs4 0 rfl 1 rfl
      have b2 := c_at hs4 0 rfl 2 rfl
      have b3 := c_at hs4 0 rfl 3 rfl
      have b4 := c_at hs4 0 rfl 4 rfl
      have b5 := c_at hs4 0 rfl 5 rfl
      have b6 := c_at hs4 0 rfl 6 rfl
      have b7 := c_at hs4 0 rfl 7 rfl
      have b8 := c_at hs4 0 rfl 8 rfl
      have b9 := c_at hs4 0 rfl 9 rfl
      have b10 := c_at hs4 0 rfl 10 rfl
      have HT := Aside0.mk hs4
      clear HS
      have HS := HT
      go_wp2_with (first
        | (refine wpList_store_row rfl 39 _ _ rfl _ (rcs s M) rfl rfl 39 rcz (sl_blk (by repeat (with_reducible first | exact HS.out | apply sl_drewN | apply sl_drew | apply sl_box | apply sl_alloc)) 1 rfl) (by kernel_rfl) rfl (by simp [Value.oneCell']) ?_; have hs := sl_row (by repeat (with_reducible first | exact HS.out | apply sl_drewN | apply sl_drew | apply sl_box | apply sl_alloc)) 1 rfl (rcs s M); (try simp only [World.size_alloc] at hs); replace HS := Aside0.mk hs; clear hs))
      try rw [Exit.noGoto_ret]
      refine bodyPost_ret (results_list (rs := [.cell 6 39, .tmp 7]) rfl (by simp) (.cell _ 39 (rcs s M) (0, 0) _ rfl (sl_blk HS.out 1 rfl) Try.underlying39 rfl (by kernel_rfl) (.tmp .nil))) rfl ?_
      exact ⟨rfl, sl_below HL.out (sl_below0 HS.out)⟩
    · have hE : accE s x y = 0 := hE0
      have hS : accS s x y = { s with gx := x, gy := y, fx := x, fy := y } := by unfold accS; rw [hE, if_pos rfl, if_neg hc]
      rw [hE, hS]
      clear hE hS hE0 c1 hc
      go_enter Try.func35, Try.ntmps35
      go_wp2_with (first
      | (go_at_call 40; refine (size_c (by repeat (with_reducible first | exact HS.out | apply sl_drewN | apply sl_drew | apply sl_box | apply sl_alloc)) x y 1 HV.out).mono ?_; rintro e w1 ⟨rfl, hs⟩; (try simp only [World.size_alloc] at hs); replace HS := Aside0.mk hs; clear hs; (try clear a0 a1 a2 a3 a4 a5 a6 a7 a8 a9 a10 fa4 fa5 fa6 fa7 la); (try (have a0 := c_at HS.out 0 rfl 0 rfl; have a1 := c_at HS.out 0 rfl 1 rfl; have a2 := c_at HS.out 0 rfl 2 rfl; have a3 := c_at HS.out 0 rfl 3 rfl; have a4 := c_at HS.out 0 rfl 4 rfl; have a5 := c_at HS.out 0 rfl 5 rfl; have a6 := c_at HS.out 0 rfl 6 rfl; have a7 := c_at HS.out 0 rfl 7 rfl; have a8 := c_at HS.out 0 rfl 8 rfl; have a9 := c_at HS.out 0 rfl 9 rfl; have a10 := c_at HS.out 0 rfl 10 rfl; have fa4 := f_at HS.out 0 rfl 4; have fa5 := f_at HS.out 0 rfl 5; have fa6 := f_at HS.out 0 rfl 6; have fa7 := f_at HS.out 0 rfl 7; have la := blk_lt (sl_blk HS.out 0 rfl))); (try clear p0 p1 lp); (try (have p0 := c_at HS.out 2 rfl 0 rfl; have p1 := c_at HS.out 2 rfl 1 rfl; have lp := blk_lt (sl_blk HS.out 2 rfl))))
      | (go_at_call 42; refine (con_c (by repeat (with_reducible first | exact HS.out | apply sl_drewN | apply sl_drew | apply sl_box | apply sl_alloc)) s HC.out).mono ?_; rintro e w1 ⟨rfl, hs⟩; (try simp only [World.size_alloc] at hs); replace HS := Aside0.mk hs; clear hs; (try clear a0 a1 a2 a3 a4 a5 a6 a7 a8 a9 a10 fa4 fa5 fa6 fa7 la); (try (have a0 := c_at HS.out 0 rfl 0 rfl; have a1 := c_at HS.out 0 rfl 1 rfl; have a2 := c_at HS.out 0 rfl 2 rfl; have a3 := c_at HS.out 0 rfl 3 rfl; have a4 := c_at HS.out 0 rfl 4 rfl; have a5 := c_at HS.out 0 rfl 5 rfl; have a6 := c_at HS.out 0 rfl 6 rfl; have a7 := c_at HS.out 0 rfl 7 rfl; have a8 := c_at HS.out 0 rfl 8 rfl; have a9 := c_at HS.out 0 rfl 9 rfl; have a10 := c_at HS.out 0 rfl 10 rfl; have fa4 := f_at HS.out 0 rfl 4; have fa5 := f_at HS.out 0 rfl 5; have fa6 := f_at HS.out 0 rfl 6; have fa7 := f_at HS.out 0 rfl 7; have la := blk_lt (sl_blk HS.out 0 rfl))); (try clear p0 p1 lp); (try (have p0 := c_at HS.out 2 rfl 0 rfl; have p1 := c_at HS.out 2 rfl 1 rfl; have lp := blk_lt (sl_blk HS.out 2 rfl)))))
      refine start_ (n := 10) (S := fun w' => w'.cell? ⟨w.heap.size, 0, none⟩ = some (.int .i64 s.lx) ∧ w'.cell? ⟨w.heap.size, 1, none⟩ = some (.int .i64 s.ly) ∧ w'.cell? ⟨w.heap.size, 2, none⟩ = some (.int .i64 s.mx) ∧ w'.cell? ⟨w.heap.size, 3, none⟩ = some (.int .i64 s.my) ∧ w'.cell? ⟨w.heap.size, 4, none⟩ = some (.int .i64 s.gx) ∧ w'.cell? ⟨w.heap.size, 5, none⟩ = some (.int .i64 s.gy) ∧ w'.cell? ⟨w.heap.size, 6, none⟩ = some (.int .i64 s.fx) ∧ w'.cell? ⟨w.heap.size, 7, none⟩ = some (.int .i64 s.fy) ∧ w'.cell? ⟨w.heap.size, 8, none⟩ = some (.int .i64 s.sx) ∧ w'.cell? ⟨w.heap.size, 9, none⟩ = some (.int .i64 s.sy) ∧ w'.cell? ⟨w.heap.size, 10, none⟩ = some (.int .i64 M) ∧ w'.cell? ⟨(w.heap.size + 1 + 1), 0, none⟩ = some (.int .i64 x) ∧ w'.cell? ⟨(w.heap.size + 1 + 1), 1, none⟩ = some (.int .i64 y)) (ds := []) #[false, false, false, false, false, false, false, false, false, false] (by kernel_rfl) rfl rfl ⟨(c_at (sl_drew HS.out) 0 rfl 0 rfl), (c_at (sl_drew HS.out) 0 rfl 1 rfl), (c_at (sl_drew HS.out) 0 rfl 2 rfl), (c_at (sl_drew HS.out) 0 rfl 3 rfl), (c_at (sl_drew HS.out) 0 rfl 4 rfl), (c_at (sl_drew HS.out) 0 rfl 5 rfl), (c_at (sl_drew HS.out) 0 rfl 6 rfl), (c_at (sl_drew HS.out) 0 rfl 7 rfl), (c_at (sl_drew HS.out) 0 rfl 8 rfl), (c_at (sl_drew HS.out) 0 rfl 9 rfl), (c_at (sl_drew HS.out) 0 rfl 10 rfl), (c_at (sl_drew HS.out) 2 rfl 0 rfl), (c_at (sl_drew HS.out) 2 rfl 1 rfl)⟩ (fun hHeld => ?_)
      refine take_ (i := 0) (N := some 26) (v := ?_) (a' := ?_) #[true, false, false, false, false, false, false, false, false, false] rfl rfl (by kernel_rfl) (fun _ _ _ h => h) (Or.inl ⟨by rfl, ?_⟩) hHeld ?_ ?_
      rotate_left
      · rintro w' ⟨s0, s1, s2, s3, s4, s5, s6, s7, s8, s9, s10, s11, s12⟩
        go_simp
        with_reducible rfl
      rotate_left
      · simp only [Act.put, List.setIfInBounds_toArray, List.set_cons_zero, List.set_cons_succ, i64_w, i32_w, IntKind.wrap_u32, IntKind.wrap_u8, IntKind.wrap_u16]
        rfl
      refine one_ (i := 1) (N := some 27) #[true, true, false, false, false, false, false, false, false, false] rfl rfl (by kernel_rfl) (by decide) (fun K hK => ?_)
      refine goes_ Try.func42 (by kernel_rfl) rfl #[rvS s M] (by rfl) rfl rfl (by (try simp only [List.map_toArray, List.map_cons, List.map_nil]); first | done | rfl) ?_
      with_reducible refine (con_c (sl_drew HS.out) s HC.out).mono ?_
      rintro e w3 ⟨rfl, hs3⟩
      refine ⟨_, rfl, ?_⟩
      refine hK.out _ _ ⟨(c_at hs3 0 rfl 0 rfl), (c_at hs3 0 rfl 1 rfl), (c_at hs3 0 rfl 2 rfl), (c_at hs3 0 rfl 3 rfl), (c_at hs3 0 rfl 4 rfl), (c_at hs3 0 rfl 5 rfl), (c_at hs3 0 rfl 6 rfl), (c_at hs3 0 rfl 7 rfl), (c_at hs3 0 rfl 8 rfl), (c_at hs3 0 rfl 9 rfl), (c_at hs3 0 rfl 10 rfl), (c_at hs3 2 rfl 0 rfl), (c_at hs3 2 rfl 1 rfl)⟩ (fun hHeld => ?_)
      clear hK K
      refine norm_ (a' := ?_) ?_ ?_
      rotate_left
      · show Act.put _ (some 27) _ = _
        simp only [Act.put, List.setIfInBounds_toArray, List.set_cons_zero, List.set_cons_succ, i64_w, i32_w, IntKind.wrap_u32, IntKind.wrap_u8, IntKind.wrap_u16]
        rfl
      refine pure_ (i := 2) (N := some 28) (v := ?_) (a' := ?_) #[true, true, true, false, false, false, false, false, false, false] rfl rfl (by kernel_rfl) (fun _ _ _ h => h) (Or.inl ⟨by rfl, ?_⟩) ?_ ?_
      rotate_left
      · intro w'
        go_simp
        with_reducible rfl
      rotate_left
      · simp only [Act.put, List.setIfInBounds_toArray, List.set_cons_zero, List.set_cons_succ, i64_w, i32_w, IntKind.wrap_u32, IntKind.wrap_u8, IntKind.wrap_u16]
        rfl
      refine pure_ (i := 3) (N := some 29) (v := ?_) (a' := ?_) #[true, true, true, true, false, false, false, false, false, false] rfl rfl (by kernel_rfl) (fun _ _ _ h => h) (Or.inl ⟨by rfl, ?_⟩) ?_ ?_
      rotate_left
      · intro w'
        go_simp
        with_reducible rfl
      rotate_left
      · simp only [Act.put, List.setIfInBounds_toArray, List.set_cons_zero, List.set_cons_succ, i64_w, i32_w, IntKind.wrap_u32, IntKind.wrap_u8, IntKind.wrap_u16]
        rfl
      refine take_ (i := 4) (N := some 30) (v := ?_) (a' := ?_) #[true, true, true, true, true, false, false, false, false, false] rfl rfl (by kernel_rfl) (fun _ _ _ h => h) (Or.inl ⟨by rfl, ?_⟩) hHeld ?_ ?_
      rotate_left
      · rintro w' ⟨s0, s1, s2, s3, s4, s5, s6, s7, s8, s9, s10, s11, s12⟩
        go_simp
        with_reducible rfl
      rotate_left
      · simp only [Act.put, List.setIfInBounds_toArray, List.set_cons_zero, List.set_cons_succ, i64_w, i32_w, IntKind.wrap_u32, IntKind.wrap_u8, IntKind.wrap_u16]
        rfl
      refine take_ (i := 5) (N := some 31) (v := ?_) (a' := ?_) #[true, true, true, true, true, true, false, false, false, false] rfl rfl (by kernel_rfl) (fun _ _ _ h => h) (Or.inl ⟨by rfl, ?_⟩) hHeld ?_ ?_
      rotate_left
      · rintro w' ⟨s0, s1, s2, s3, s4, s5, s6, s7, s8, s9, s10, s11, s12⟩
        go_simp
        with_reducible rfl
      rotate_left
      · simp only [Act.put, List.setIfInBounds_toArray, List.set_cons_zero, List.set_cons_succ, i64_w, i32_w, IntKind.wrap_u32, IntKind.wrap_u8, IntKind.wrap_u16]
        rfl
      refine take_ (i := 7) (N := some 33) (v := ?_) (a' := ?_) #[true, true, true, true, true, true, false, true, false, false] rfl rfl (by kernel_rfl) (fun _ _ _ h => h) (Or.inl ⟨by rfl, ?_⟩) hHeld ?_ ?_
      rotate_left
      · rintro w' ⟨s0, s1, s2, s3, s4, s5, s6, s7, s8, s9, s10, s11, s12⟩
        go_simp
        with_reducible rfl
      rotate_left
      · simp only [Act.put, List.setIfInBounds_toArray, List.set_cons_zero, List.set_cons_succ, i64_w, i32_w, IntKind.wrap_u32, IntKind.wrap_u8, IntKind.wrap_u16]
        rfl
      refine one_ (i := 6) (N := some 32) #[true, true, true, true, true, true, true, true, false, false] rfl rfl (by kernel_rfl) (by decide) (fun K hK => ?_)
      refine goes_ Try.func44 (by kernel_rfl) rfl #[rvS s M, .agg #[.int .i64 x, .int .i64 y]] (by rfl) rfl rfl (by (try simp only [List.map_toArray, List.map_cons, List.map_nil]); first | done | rfl) ?_
      with_reducible refine (Limited_c hs3 s M x y HA.out.1 HA.out.2).mono ?_
      rintro e w4 ⟨rfl, hs4⟩
      refine ⟨_, rfl, ?_⟩
      refine hK.out _ _ ⟨(c_at hs4 0 rfl 0 rfl), (c_at hs4 0 rfl 1 rfl), (c_at hs4 0 rfl 2 rfl), (c_at hs4 0 rfl 3 rfl), (c_at hs4 0 rfl 4 rfl), (c_at hs4 0 rfl 5 rfl), (c_at hs4 0 rfl 6 rfl), (c_at hs4 0 rfl 7 rfl), (c_at hs4 0 rfl 8 rfl), (c_at hs4 0 rfl 9 rfl), (c_at hs4 0 rfl 10 rfl), (c_at hs4 2 rfl 0 rfl), (c_at hs4 2 rfl 1 rfl)⟩ (fun hHeld => ?_)
      clear hK K
      refine norm_ (a' := ?_) ?_ ?_
      rotate_left
      · show Act.put _ (some 32) _ = _
        simp only [Act.put, List.setIfInBounds_toArray, List.set_cons_zero, List.set_cons_succ, i64_w, i32_w, IntKind.wrap_u32, IntKind.wrap_u8, IntKind.wrap_u16]
        rfl
      refine pure_ (i := 8) (N := some 34) (v := ?_) (a' := ?_) #[true, true, true, true, true, true, true, true, true, false] rfl rfl (by kernel_rfl) (fun _ _ _ h => h) (Or.inl ⟨by rfl, ?_⟩) ?_ ?_
      rotate_left
      · intro w'
        go_simp
        with_reducible rfl
      rotate_left
      · simp only [Act.put, List.setIfInBounds_toArray, List.set_cons_zero, List.set_cons_succ, i64_w, i32_w, IntKind.wrap_u32, IntKind.wrap_u8, IntKind.wrap_u16]
        rfl
      refine pure_ (i := 9) (N := some 35) (v := ?_) (a' := ?_) #[true, true, true, true, true, true, true, true, true, true] rfl rfl (by kernel_rfl) (fun _ _ _ h => h) (Or.inl ⟨by rfl, ?_⟩) ?_ ?_
      rotate_left
      · intro w'
        go_simp
        with_reducible rfl
      rotate_left
      · simp only [Act.put, List.setIfInBounds_toArray, List.set_cons_zero, List.set_cons_succ, i64_w, i32_w, IntKind.wrap_u32, IntKind.wrap_u8, IntKind.wrap_u16]
        rfl
      refine done_ (by kernel_rfl) ?_
      (try clear a0 a1 a2 a4 a5 a6 a7 a8 a9 a10 fa4 fa5 fa6 fa7 la p0 p1 lp)
      have pp0 := c_at hs4 2 rfl 0 rfl
      have pp1 := c_at hs4 2 rfl 1 rfl
      have q4 := c_at hs4 0 rfl 4 rfl
      have q5 := c_at hs4 0 rfl 5 rfl
      have fq4 := f_at hs4 0 rfl 4
      have fq5 := f_at hs4 0 rfl 5
      have lq := blk_lt (sl_blk hs4 0 rfl)
      have HP := Aside0.mk (show SL w ((w4.setCell ⟨w.heap.size, 4, none⟩ (.int .i64 x)).setCell ⟨w.heap.size, 5, none⟩ (.int .i64 y)) [cellsR w.heap.size 39 (rcs { s with gx := x, gy := y } M), cellsR (w.heap.size + 1) 39 rcz, cellsR (w.heap.size + 1 + 1) 23 #[.int .i64 x, .int .i64 y]] from sl_put (sl_put hs4 0 rfl 4 (.int .i64 x)) 0 rfl 5 (.int .i64 y))
      clear HS
      have HS := HP
      go_wp2_with (first
        | (go_at_call 42; refine (con_c HP.out { s with gx := x, gy := y } HC.out).mono ?_; rintro e w5 ⟨rfl, hs⟩; (try simp only [World.size_alloc] at hs); replace HS := Aside0.mk hs; clear hs; (try clear b0 b1 b2 b3 b4 b5 b6 b7 b8 b9 b10 fb6 fb7 lb); (try (have b0 := c_at HS.out 0 rfl 0 rfl; have b1 := c_at HS.out 0 rfl 1 rfl; have b2 := c_at HS.out 0 rfl 2 rfl; have b3 := c_at HS.out 0 rfl 3 rfl; have b4 := c_at HS.out 0 rfl 4 rfl; have b5 := c_at HS.out 0 rfl 5 rfl; have b6 := c_at HS.out 0 rfl 6 rfl; have b7 := c_at HS.out 0 rfl 7 rfl; have b8 := c_at HS.out 0 rfl 8 rfl; have b9 := c_at HS.out 0 rfl 9 rfl; have b10 := c_at HS.out 0 rfl 10 rfl; have fb6 := f_at HS.out 0 rfl 6; have fb7 := f_at HS.out 0 rfl 7; have lb := blk_lt (sl_blk HS.out 0 rfl))); (try clear p0 p1 lp); (try (have p0 := c_at HS.out 2 rfl 0 rfl; have p1 := c_at HS.out 2 rfl 1 rfl; have lp := blk_lt (sl_blk HS.out 2 rfl))))
        | (refine wpList_store_row rfl 39 _ _ rfl _ (rcs { s with gx := x, gy := y, fx := x, fy := y } M) rfl rfl 39 rcz (sl_blk (show SL w _ [cellsR w.heap.size 39 (rcs { s with gx := x, gy := y, fx := x, fy := y } M), cellsR (w.heap.size + 1) 39 rcz, cellsR (w.heap.size + 1 + 1) 23 #[.int .i64 x, .int .i64 y]] from sl_put (sl_put HS.out 0 rfl 6 (.int .i64 x)) 0 rfl 7 (.int .i64 y)) 1 rfl) (by kernel_rfl) rfl (by simp [Value.oneCell']) ?_; have hs := sl_row (show SL w _ [cellsR w.heap.size 39 (rcs { s with gx := x, gy := y, fx := x, fy := y } M), cellsR (w.heap.size + 1) 39 rcz, cellsR (w.heap.size + 1 + 1) 23 #[.int .i64 x, .int .i64 y]] from sl_put (sl_put HS.out 0 rfl 6 (.int .i64 x)) 0 rfl 7 (.int .i64 y)) 1 rfl (rcs { s with gx := x, gy := y, fx := x, fy := y } M); (try simp only [World.size_alloc] at hs); replace HS := Aside0.mk hs; clear hs))
      try rw [Exit.noGoto_ret]
      refine bodyPost_ret (results_list (rs := [.cell 6 39, .tmp 7]) rfl (by simp) (.cell _ 39 (rcs { s with gx := x, gy := y, fx := x, fy := y } M) (0, 0) _ rfl (sl_blk HS.out 1 rfl) Try.underlying39 rfl (by kernel_rfl) (.tmp .nil))) rfl ?_
      exact ⟨rfl, sl_below HL.out (sl_below0 HS.out)⟩
end Go.Proofs.Ytckpgccbhaejgaa.Q

namespace Go.Proofs.Ytckpgccbhaejgaa.Q
open Go.RowKit Go.Proofs.YtckpgccbhaejgaaW.PrintWords Go.Proofs.YtckpgccbhaejgaaW.PrintLast Go.Proofs.YtckpgccbhaejgaaW.PrintMore Go.Proofs.Ytckpgccbhaejgaa.Sl Go.Proofs.Ytckpgccbhaejgaa.Hand 
attribute [local go_sem] max2_int min2_int max_two min_two max_three min_three max_four min_four 
set_option linter.unusedVariables false
set_option linter.unusedSimpArgs false

set_option maxHeartbeats 2000000 in
theorem rRsz_01 {w0 w : World} {L : List Res} (h : SL w0 w L) (s : WSt) {M : Int} (k x y V H A B : Int) (hV : Go.bits .and .i64 k 3 = V) (hH : Go.bits .and .i64 k 12 = H) (hk : edgeB k = true) (hx : (H != 0) = false) (hy : (V != 0) = true) (hc4 : (Go.bits .and .i64 M 4 == 0) = false) (hcon : (Go.bits .and .i64 M 3 != 0) = false) (hv : valB 1 x y = true) (hA : limI s.lx s.mx s.gx = A) (hB : limI s.ly s.my y = B) : Calls Try.prog 33 #[rvS s M, .int .i64 k, .int .i64 x, .int .i64 y] w fun e w' => e = .returned (.tuple #[rvS { s with sx := A, sy := B } M, .int .i64 A, .int .i64 B, .int .i64 0]) ∧ SL w0 w' L := by
  have HL := Aside0.mk h
  have HS := Aside0.mk (sl_start w)
  have HG := Aside0.mk hk
  have HV := Aside0.mk hv
  have HC := Aside0.mk hcon
  have HA := Aside0.mk (And.intro hA hB)
  obtain ⟨X4, h4⟩ : ∃ X, Go.bits .and .i64 M 4 = X := ⟨_, rfl⟩
  rw [h4] at hc4
  clear h hk hv hcon hA hB
  go_enter Try.func33, Try.ntmps33
  go_wp2_with (first
      | (go_at_call 45; refine (edged_c (by repeat (with_reducible first | exact HS.out | apply sl_drewN | apply sl_drew | apply sl_box | apply sl_alloc)) k HG.out).mono ?_; rintro e w1 ⟨rfl, hs⟩; (try simp only [World.size_alloc] at hs); replace HS := Aside0.mk hs; clear hs; (try clear a0 a1 a2 a3 a4 a5 a6 a7 a8 a9 a10 fa8 fa9 la); (try (have a0 := c_at HS.out 0 rfl 0 rfl; have a1 := c_at HS.out 0 rfl 1 rfl; have a2 := c_at HS.out 0 rfl 2 rfl; have a3 := c_at HS.out 0 rfl 3 rfl; have a4 := c_at HS.out 0 rfl 4 rfl; have a5 := c_at HS.out 0 rfl 5 rfl; have a6 := c_at HS.out 0 rfl 6 rfl; have a7 := c_at HS.out 0 rfl 7 rfl; have a8 := c_at HS.out 0 rfl 8 rfl; have a9 := c_at HS.out 0 rfl 9 rfl; have a10 := c_at HS.out 0 rfl 10 rfl; have fa8 := f_at HS.out 0 rfl 8; have fa9 := f_at HS.out 0 rfl 9; have la := blk_lt (sl_blk HS.out 0 rfl))); (try clear p0 p1 lp); (try (have p0 := c_at HS.out 2 rfl 0 rfl; have p1 := c_at HS.out 2 rfl 1 rfl; have lp := blk_lt (sl_blk HS.out 2 rfl))))
      | (go_at_call 40; refine (size_c (by repeat (with_reducible first | exact HS.out | apply sl_drewN | apply sl_drew | apply sl_box | apply sl_alloc)) x y 1 HV.out).mono ?_; rintro e w1 ⟨rfl, hs⟩; (try simp only [World.size_alloc] at hs); replace HS := Aside0.mk hs; clear hs; (try clear a0 a1 a2 a3 a4 a5 a6 a7 a8 a9 a10 fa8 fa9 la); (try (have a0 := c_at HS.out 0 rfl 0 rfl; have a1 := c_at HS.out 0 rfl 1 rfl; have a2 := c_at HS.out 0 rfl 2 rfl; have a3 := c_at HS.out 0 rfl 3 rfl; have a4 := c_at HS.out 0 rfl 4 rfl; have a5 := c_at HS.out 0 rfl 5 rfl; have a6 := c_at HS.out 0 rfl 6 rfl; have a7 := c_at HS.out 0 rfl 7 rfl; have a8 := c_at HS.out 0 rfl 8 rfl; have a9 := c_at HS.out 0 rfl 9 rfl; have a10 := c_at HS.out 0 rfl 10 rfl; have fa8 := f_at HS.out 0 rfl 8; have fa9 := f_at HS.out 0 rfl 9; have la := blk_lt (sl_blk HS.out 0 rfl))); (try clear p0 p1 lp); (try (have p0 := c_at HS.out 2 rfl 0 rfl; have p1 := c_at HS.out 2 rfl 1 rfl; have lp := blk_lt (sl_blk HS.out 2 rfl))))
      | (go_at_call 42; refine (con_c (by repeat (with_reducible first | exact HS.out | apply sl_drewN | apply sl_drew | apply sl_box | apply sl_alloc)) s HC.out).mono ?_; rintro e w1 ⟨rfl, hs⟩; (try simp only [World.size_alloc] at hs); replace HS := Aside0.mk hs; clear hs; (try clear a0 a1 a2 a3 a4 a5 a6 a7 a8 a9 a10 fa8 fa9 la); (try (have a0 := c_at HS.out 0 rfl 0 rfl; have a1 := c_at HS.out 0 rfl 1 rfl; have a2 := c_at HS.out 0 rfl 2 rfl; have a3 := c_at HS.out 0 rfl 3 rfl; have a4 := c_at HS.out 0 rfl 4 rfl; have a5 := c_at HS.out 0 rfl 5 rfl; have a6 := c_at HS.out 0 rfl 6 rfl; have a7 := c_at HS.out 0 rfl 7 rfl; have a8 := c_at HS.out 0 rfl 8 rfl; have a9 := c_at HS.out 0 rfl 9 rfl; have a10 := c_at HS.out 0 rfl 10 rfl; have fa8 := f_at HS.out 0 rfl 8; have fa9 := f_at HS.out 0 rfl 9; have la := blk_lt (sl_blk HS.out 0 rfl))); (try clear p0 p1 lp); (try (have p0 := c_at HS.out 2 rfl 0 rfl; have p1 := c_at HS.out 2 rfl 1 rfl; have lp := blk_lt (sl_blk HS.out 2 rfl))))
      | (go_at_call 44; refine (Limited_c (sl_box HS.out #[.int .i64 s.gx, .int .i64 y] 23) s M s.gx y HA.out.1 HA.out.2).mono ?_; rintro e w9 ⟨rfl, hs⟩; (try simp only [World.size_alloc] at hs); replace HS := Aside0.mk hs; clear hs; (try clear a0 a1 a2 a3 a4 a5 a6 a7 a8 a9 a10 fa8 fa9 la); (try (have a0 := c_at HS.out 0 rfl 0 rfl; have a1 := c_at HS.out 0 rfl 1 rfl; have a2 := c_at HS.out 0 rfl 2 rfl; have a3 := c_at HS.out 0 rfl 3 rfl; have a4 := c_at HS.out 0 rfl 4 rfl; have a5 := c_at HS.out 0 rfl 5 rfl; have a6 := c_at HS.out 0 rfl 6 rfl; have a7 := c_at HS.out 0 rfl 7 rfl; have a8 := c_at HS.out 0 rfl 8 rfl; have a9 := c_at HS.out 0 rfl 9 rfl; have a10 := c_at HS.out 0 rfl 10 rfl; have fa8 := f_at HS.out 0 rfl 8; have fa9 := f_at HS.out 0 rfl 9; have la := blk_lt (sl_blk HS.out 0 rfl))); (try clear p0 p1 lp); (try (have p0 := c_at HS.out 2 rfl 0 rfl; have p1 := c_at HS.out 2 rfl 1 rfl; have lp := blk_lt (sl_blk HS.out 2 rfl)))))
  have HP := Aside0.mk (show SL w ((w9.setCell ⟨w.heap.size, 8, none⟩ (.int .i64 A)).setCell ⟨w.heap.size, 9, none⟩ (.int .i64 B)) _ from sl_put (sl_put HS.out 0 rfl 8 (.int .i64 A)) 0 rfl 9 (.int .i64 B))
  refine start_ (n := 11) (S := fun w' => w'.cell? ⟨w.heap.size, 0, none⟩ = some (.int .i64 s.lx) ∧ w'.cell? ⟨w.heap.size, 1, none⟩ = some (.int .i64 s.ly) ∧ w'.cell? ⟨w.heap.size, 2, none⟩ = some (.int .i64 s.mx) ∧ w'.cell? ⟨w.heap.size, 3, none⟩ = some (.int .i64 s.my) ∧ w'.cell? ⟨w.heap.size, 4, none⟩ = some (.int .i64 s.gx) ∧ w'.cell? ⟨w.heap.size, 5, none⟩ = some (.int .i64 s.gy) ∧ w'.cell? ⟨w.heap.size, 6, none⟩ = some (.int .i64 s.fx) ∧ w'.cell? ⟨w.heap.size, 7, none⟩ = some (.int .i64 s.fy) ∧ w'.cell? ⟨w.heap.size, 8, none⟩ = some (.int .i64 A) ∧ w'.cell? ⟨w.heap.size, 9, none⟩ = some (.int .i64 B) ∧ w'.cell? ⟨w.heap.size, 10, none⟩ = some (.int .i64 M)) (ds := []) #[false, false, false, false, false, false, false, false, false, false, false] (by kernel_rfl) rfl rfl ⟨(c_at (sl_drew HP.out) 0 rfl 0 rfl), (c_at (sl_drew HP.out) 0 rfl 1 rfl), (c_at (sl_drew HP.out) 0 rfl 2 rfl), (c_at (sl_drew HP.out) 0 rfl 3 rfl), (c_at (sl_drew HP.out) 0 rfl 4 rfl), (c_at (sl_drew HP.out) 0 rfl 5 rfl), (c_at (sl_drew HP.out) 0 rfl 6 rfl), (c_at (sl_drew HP.out) 0 rfl 7 rfl), (c_at (sl_drew HP.out) 0 rfl 8 rfl), (c_at (sl_drew HP.out) 0 rfl 9 rfl), (c_at (sl_drew HP.out) 0 rfl 10 rfl)⟩ (fun hHeld => ?_)
  refine pure_ (i := 1) (N := some 48) (v := ?_) (a' := ?_) #[false, true, false, false, false, false, false, false, false, false, false] rfl rfl (by kernel_rfl) (fun _ _ _ h => h) (Or.inl ⟨by rfl, ?_⟩) ?_ ?_
  rotate_left
  · intro w'
    go_simp
    with_reducible rfl
  rotate_left
  · simp only [Act.put, List.setIfInBounds_toArray, List.set_cons_zero, List.set_cons_succ, i64_w, i32_w, IntKind.wrap_u32, IntKind.wrap_u8, IntKind.wrap_u16]
    rfl
  refine pure_ (i := 2) (N := some 49) (v := ?_) (a' := ?_) #[false, true, true, false, false, false, false, false, false, false, false] rfl rfl (by kernel_rfl) (fun _ _ _ h => h) (Or.inl ⟨by rfl, ?_⟩) ?_ ?_
  rotate_left
  · intro w'
    go_simp
    with_reducible rfl
  rotate_left
  · simp only [Act.put, List.setIfInBounds_toArray, List.set_cons_zero, List.set_cons_succ, i64_w, i32_w, IntKind.wrap_u32, IntKind.wrap_u8, IntKind.wrap_u16]
    rfl
  refine pure_ (i := 4) (N := some 51) (v := ?_) (a' := ?_) #[false, true, true, false, true, false, false, false, false, false, false] rfl rfl (by kernel_rfl) (fun _ _ _ h => h) (Or.inl ⟨by rfl, ?_⟩) ?_ ?_
  rotate_left
  · intro w'
    go_simp
    with_reducible rfl
  rotate_left
  · simp only [Act.put, List.setIfInBounds_toArray, List.set_cons_zero, List.set_cons_succ, i64_w, i32_w, IntKind.wrap_u32, IntKind.wrap_u8, IntKind.wrap_u16]
    rfl
  refine pure_ (i := 5) (N := some 52) (v := ?_) (a' := ?_) #[false, true, true, false, true, true, false, false, false, false, false] rfl rfl (by kernel_rfl) (fun _ _ _ h => h) (Or.inl ⟨by rfl, ?_⟩) ?_ ?_
  rotate_left
  · intro w'
    go_simp
    with_reducible rfl
  rotate_left
  · simp only [Act.put, List.setIfInBounds_toArray, List.set_cons_zero, List.set_cons_succ, i64_w, i32_w, IntKind.wrap_u32, IntKind.wrap_u8, IntKind.wrap_u16]
    rfl
  refine take_ (i := 0) (N := some 47) (v := ?_) (a' := ?_) #[true, true, true, false, true, true, false, false, false, false, false] rfl rfl (by kernel_rfl) (fun _ _ _ h => h) (Or.inl ⟨by rfl, ?_⟩) hHeld ?_ ?_
  rotate_left
  · rintro w' ⟨s0, s1, s2, s3, s4, s5, s6, s7, s8, s9, s10⟩
    go_simp
    with_reducible rfl
  rotate_left
  · simp only [Act.put, List.setIfInBounds_toArray, List.set_cons_zero, List.set_cons_succ, i64_w, i32_w, IntKind.wrap_u32, IntKind.wrap_u8, IntKind.wrap_u16]
    rfl
  refine take_ (i := 3) (N := some 50) (v := ?_) (a' := ?_) #[true, true, true, true, true, true, false, false, false, false, false] rfl rfl (by kernel_rfl) (fun _ _ _ h => h) (Or.inl ⟨by rfl, ?_⟩) hHeld ?_ ?_
  rotate_left
  · rintro w' ⟨s0, s1, s2, s3, s4, s5, s6, s7, s8, s9, s10⟩
    go_simp
    with_reducible rfl
  rotate_left
  · simp only [Act.put, List.setIfInBounds_toArray, List.set_cons_zero, List.set_cons_succ, i64_w, i32_w, IntKind.wrap_u32, IntKind.wrap_u8, IntKind.wrap_u16]
    rfl
  refine take_ (i := 6) (N := some 53) (v := ?_) (a' := ?_) #[true, true, true, true, true, true, true, false, false, false, false] rfl rfl (by kernel_rfl) (fun _ _ _ h => h) (Or.inl ⟨by rfl, ?_⟩) hHeld ?_ ?_
  rotate_left
  · rintro w' ⟨s0, s1, s2, s3, s4, s5, s6, s7, s8, s9, s10⟩
    go_simp
    with_reducible rfl
  rotate_left
  · simp only [Act.put, List.setIfInBounds_toArray, List.set_cons_zero, List.set_cons_succ, i64_w, i32_w, IntKind.wrap_u32, IntKind.wrap_u8, IntKind.wrap_u16]
    rfl
  refine one_ (i := 7) (N := none) #[true, true, true, true, true, true, true, true, false, false, false] rfl rfl (by kernel_rfl) (by decide) (fun K hK => ?_)
  rw [if_pos (by rfl)]
  refine wp_store_row 39 _ _ rfl (w.heap.size + 1) (rcs { s with sx := A, sy := B } M) rfl rfl 39 rcz (sl_blk (sl_drew HP.out) 1 rfl) (by kernel_rfl) rfl (by simp [Value.oneCell']) ?_
  refine hK.out _ _ ⟨cell_row (show w.heap.size ≠ w.heap.size + 1 by omega) _ ((c_at (sl_drew HP.out) 0 rfl 0 rfl)), cell_row (show w.heap.size ≠ w.heap.size + 1 by omega) _ ((c_at (sl_drew HP.out) 0 rfl 1 rfl)), cell_row (show w.heap.size ≠ w.heap.size + 1 by omega) _ ((c_at (sl_drew HP.out) 0 rfl 2 rfl)), cell_row (show w.heap.size ≠ w.heap.size + 1 by omega) _ ((c_at (sl_drew HP.out) 0 rfl 3 rfl)), cell_row (show w.heap.size ≠ w.heap.size + 1 by omega) _ ((c_at (sl_drew HP.out) 0 rfl 4 rfl)), cell_row (show w.heap.size ≠ w.heap.size + 1 by omega) _ ((c_at (sl_drew HP.out) 0 rfl 5 rfl)), cell_row (show w.heap.size ≠ w.heap.size + 1 by omega) _ ((c_at (sl_drew HP.out) 0 rfl 6 rfl)), cell_row (show w.heap.size ≠ w.heap.size + 1 by omega) _ ((c_at (sl_drew HP.out) 0 rfl 7 rfl)), cell_row (show w.heap.size ≠ w.heap.size + 1 by omega) _ ((c_at (sl_drew HP.out) 0 rfl 8 rfl)), cell_row (show w.heap.size ≠ w.heap.size + 1 by omega) _ ((c_at (sl_drew HP.out) 0 rfl 9 rfl)), cell_row (show w.heap.size ≠ w.heap.size + 1 by omega) _ ((c_at (sl_drew HP.out) 0 rfl 10 rfl))⟩ (fun hHeld => ?_)
  clear hK K
  refine pure_ (i := 8) (N := some 9) (v := ?_) (a' := ?_) #[true, true, true, true, true, true, true, true, true, false, false] rfl rfl (by kernel_rfl) (fun _ _ _ h => h) (Or.inl ⟨by rfl, ?_⟩) ?_ ?_
  rotate_left
  · intro w'
    go_simp
    with_reducible rfl
  rotate_left
  · simp only [Act.put, List.setIfInBounds_toArray, List.set_cons_zero, List.set_cons_succ, i64_w, i32_w, IntKind.wrap_u32, IntKind.wrap_u8, IntKind.wrap_u16]
    rfl
  refine pure_ (i := 9) (N := some 10) (v := ?_) (a' := ?_) #[true, true, true, true, true, true, true, true, true, true, false] rfl rfl (by kernel_rfl) (fun _ _ _ h => h) (Or.inl ⟨by rfl, ?_⟩) ?_ ?_
  rotate_left
  · intro w'
    go_simp
    with_reducible rfl
  rotate_left
  · simp only [Act.put, List.setIfInBounds_toArray, List.set_cons_zero, List.set_cons_succ, i64_w, i32_w, IntKind.wrap_u32, IntKind.wrap_u8, IntKind.wrap_u16]
    rfl
  refine pure_ (i := 10) (N := some 11) (v := ?_) (a' := ?_) #[true, true, true, true, true, true, true, true, true, true, true] rfl rfl (by kernel_rfl) (fun _ _ _ h => h) (Or.inl ⟨by rfl, ?_⟩) ?_ ?_
  rotate_left
  · intro w'
    go_simp
    with_reducible rfl
  rotate_left
  · simp only [Act.put, List.setIfInBounds_toArray, List.set_cons_zero, List.set_cons_succ, i64_w, i32_w, IntKind.wrap_u32, IntKind.wrap_u8, IntKind.wrap_u16]
    rfl
  refine done_ (by kernel_rfl) ?_
  have hs := sl_row (sl_drew HP.out) 1 rfl (rcs { s with sx := A, sy := B } M)
  replace HS := Aside0.mk hs
  clear hs
  go_wp2_with (fail)
  refine bodyPost_ret (results_list (rs := [.cell 8 39, .tmp 9, .tmp 10, .tmp 11]) rfl (by simp) (.cell _ 39 (rcs { s with sx := A, sy := B } M) (0, 0) _ rfl (sl_blk HS.out 1 rfl) Try.underlying39 rfl (by kernel_rfl) (.tmp (.tmp (.tmp .nil))))) rfl ?_
  exact ⟨rfl, sl_below HL.out (sl_below0 HS.out)⟩
set_option maxHeartbeats 2000000 in
theorem rRsz_10 {w0 w : World} {L : List Res} (h : SL w0 w L) (s : WSt) {M : Int} (k x y V H A B : Int) (hV : Go.bits .and .i64 k 3 = V) (hH : Go.bits .and .i64 k 12 = H) (hk : edgeB k = true) (hx : (H != 0) = true) (hy : (V != 0) = false) (hc4 : (Go.bits .and .i64 M 4 == 0) = false) (hcon : (Go.bits .and .i64 M 3 != 0) = false) (hv : valB 1 x y = true) (hA : limI s.lx s.mx x = A) (hB : limI s.ly s.my s.gy = B) : Calls Try.prog 33 #[rvS s M, .int .i64 k, .int .i64 x, .int .i64 y] w fun e w' => e = .returned (.tuple #[rvS { s with sx := A, sy := B } M, .int .i64 A, .int .i64 B, .int .i64 0]) ∧ SL w0 w' L := by
  have HL := Aside0.mk h
  have HS := Aside0.mk (sl_start w)
  have HG := Aside0.mk hk
  have HV := Aside0.mk hv
  have HC := Aside0.mk hcon
  have HA := Aside0.mk (And.intro hA hB)
  obtain ⟨X4, h4⟩ : ∃ X, Go.bits .and .i64 M 4 = X := ⟨_, rfl⟩
  rw [h4] at hc4
  clear h hk hv hcon hA hB
  go_enter Try.func33, Try.ntmps33
  go_wp2_with (first
      | (go_at_call 45; refine (edged_c (by repeat (with_reducible first | exact HS.out | apply sl_drewN | apply sl_drew | apply sl_box | apply sl_alloc)) k HG.out).mono ?_; rintro e w1 ⟨rfl, hs⟩; (try simp only [World.size_alloc] at hs); replace HS := Aside0.mk hs; clear hs; (try clear a0 a1 a2 a3 a4 a5 a6 a7 a8 a9 a10 fa8 fa9 la); (try (have a0 := c_at HS.out 0 rfl 0 rfl; have a1 := c_at HS.out 0 rfl 1 rfl; have a2 := c_at HS.out 0 rfl 2 rfl; have a3 := c_at HS.out 0 rfl 3 rfl; have a4 := c_at HS.out 0 rfl 4 rfl; have a5 := c_at HS.out 0 rfl 5 rfl; have a6 := c_at HS.out 0 rfl 6 rfl; have a7 := c_at HS.out 0 rfl 7 rfl; have a8 := c_at HS.out 0 rfl 8 rfl; have a9 := c_at HS.out 0 rfl 9 rfl; have a10 := c_at HS.out 0 rfl 10 rfl; have fa8 := f_at HS.out 0 rfl 8; have fa9 := f_at HS.out 0 rfl 9; have la := blk_lt (sl_blk HS.out 0 rfl))); (try clear p0 p1 lp); (try (have p0 := c_at HS.out 2 rfl 0 rfl; have p1 := c_at HS.out 2 rfl 1 rfl; have lp := blk_lt (sl_blk HS.out 2 rfl))))
      | (go_at_call 40; refine (size_c (by repeat (with_reducible first | exact HS.out | apply sl_drewN | apply sl_drew | apply sl_box | apply sl_alloc)) x y 1 HV.out).mono ?_; rintro e w1 ⟨rfl, hs⟩; (try simp only [World.size_alloc] at hs); replace HS := Aside0.mk hs; clear hs; (try clear a0 a1 a2 a3 a4 a5 a6 a7 a8 a9 a10 fa8 fa9 la); (try (have a0 := c_at HS.out 0 rfl 0 rfl; have a1 := c_at HS.out 0 rfl 1 rfl; have a2 := c_at HS.out 0 rfl 2 rfl; have a3 := c_at HS.out 0 rfl 3 rfl; have a4 := c_at HS.out 0 rfl 4 rfl; have a5 := c_at HS.out 0 rfl 5 rfl; have a6 := c_at HS.out 0 rfl 6 rfl; have a7 := c_at HS.out 0 rfl 7 rfl; have a8 := c_at HS.out 0 rfl 8 rfl; have a9 := c_at HS.out 0 rfl 9 rfl; have a10 := c_at HS.out 0 rfl 10 rfl; have fa8 := f_at HS.out 0 rfl 8; have fa9 := f_at HS.out 0 rfl 9; have la := blk_lt (sl_blk HS.out 0 rfl))); (try clear p0 p1 lp); (try (have p0 := c_at HS.out 2 rfl 0 rfl; have p1 := c_at HS.out 2 rfl 1 rfl; have lp := blk_lt (sl_blk HS.out 2 rfl))))
      | (go_at_call 42; refine (con_c (by repeat (with_reducible first | exact HS.out | apply sl_drewN | apply sl_drew | apply sl_box | apply sl_alloc)) s HC.out).mono ?_; rintro e w1 ⟨rfl, hs⟩; (try simp only [World.size_alloc] at hs); replace HS := Aside0.mk hs; clear hs; (try clear a0 a1 a2 a3 a4 a5 a6 a7 a8 a9 a10 fa8 fa9 la); (try (have a0 := c_at HS.out 0 rfl 0 rfl; have a1 := c_at HS.out 0 rfl 1 rfl; have a2 := c_at HS.out 0 rfl 2 rfl; have a3 := c_at HS.out 0 rfl 3 rfl; have a4 := c_at HS.out 0 rfl 4 rfl; have a5 := c_at HS.out 0 rfl 5 rfl; have a6 := c_at HS.out 0 rfl 6 rfl; have a7 := c_at HS.out 0 rfl 7 rfl; have a8 := c_at HS.out 0 rfl 8 rfl; have a9 := c_at HS.out 0 rfl 9 rfl; have a10 := c_at HS.out 0 rfl 10 rfl; have fa8 := f_at HS.out 0 rfl 8; have fa9 := f_at HS.out 0 rfl 9; have la := blk_lt (sl_blk HS.out 0 rfl))); (try clear p0 p1 lp); (try (have p0 := c_at HS.out 2 rfl 0 rfl; have p1 := c_at HS.out 2 rfl 1 rfl; have lp := blk_lt (sl_blk HS.out 2 rfl))))
      | (go_at_call 44; refine (Limited_c (sl_box HS.out #[.int .i64 x, .int .i64 s.gy] 23) s M x s.gy HA.out.1 HA.out.2).mono ?_; rintro e w9 ⟨rfl, hs⟩; (try simp only [World.size_alloc] at hs); replace HS := Aside0.mk hs; clear hs; (try clear a0 a1 a2 a3 a4 a5 a6 a7 a8 a9 a10 fa8 fa9 la); (try (have a0 := c_at HS.out 0 rfl 0 rfl; have a1 := c_at HS.out 0 rfl 1 rfl; have a2 := c_at HS.out 0 rfl 2 rfl; have a3 := c_at HS.out 0 rfl 3 rfl; have a4 := c_at HS.out 0 rfl 4 rfl; have a5 := c_at HS.out 0 rfl 5 rfl; have a6 := c_at HS.out 0 rfl 6 rfl; have a7 := c_at HS.out 0 rfl 7 rfl; have a8 := c_at HS.out 0 rfl 8 rfl; have a9 := c_at HS.out 0 rfl 9 rfl; have a10 := c_at HS.out 0 rfl 10 rfl; have fa8 := f_at HS.out 0 rfl 8; have fa9 := f_at HS.out 0 rfl 9; have la := blk_lt (sl_blk HS.out 0 rfl))); (try clear p0 p1 lp); (try (have p0 := c_at HS.out 2 rfl 0 rfl; have p1 := c_at HS.out 2 rfl 1 rfl; have lp := blk_lt (sl_blk HS.out 2 rfl)))))
  have HP := Aside0.mk (show SL w ((w9.setCell ⟨w.heap.size, 8, none⟩ (.int .i64 A)).setCell ⟨w.heap.size, 9, none⟩ (.int .i64 B)) _ from sl_put (sl_put HS.out 0 rfl 8 (.int .i64 A)) 0 rfl 9 (.int .i64 B))
  refine start_ (n := 11) (S := fun w' => w'.cell? ⟨w.heap.size, 0, none⟩ = some (.int .i64 s.lx) ∧ w'.cell? ⟨w.heap.size, 1, none⟩ = some (.int .i64 s.ly) ∧ w'.cell? ⟨w.heap.size, 2, none⟩ = some (.int .i64 s.mx) ∧ w'.cell? ⟨w.heap.size, 3, none⟩ = some (.int .i64 s.my) ∧ w'.cell? ⟨w.heap.size, 4, none⟩ = some (.int .i64 s.gx) ∧ w'.cell? ⟨w.heap.size, 5, none⟩ = some (.int .i64 s.gy) ∧ w'.cell? ⟨w.heap.size, 6, none⟩ = some (.int .i64 s.fx) ∧ w'.cell? ⟨w.heap.size, 7, none⟩ = some (.int .i64 s.fy) ∧ w'.cell? ⟨w.heap.size, 8, none⟩ = some (.int .i64 A) ∧ w'.cell? ⟨w.heap.size, 9, none⟩ = some (.int .i64 B) ∧ w'.cell? ⟨w.heap.size, 10, none⟩ = some (.int .i64 M)) (ds := []) #[false, false, false, false, false, false, false, false, false, false, false] (by kernel_rfl) rfl rfl ⟨(c_at (sl_drew HP.out) 0 rfl 0 rfl), (c_at (sl_drew HP.out) 0 rfl 1 rfl), (c_at (sl_drew HP.out) 0 rfl 2 rfl), (c_at (sl_drew HP.out) 0 rfl 3 rfl), (c_at (sl_drew HP.out) 0 rfl 4 rfl), (c_at (sl_drew HP.out) 0 rfl 5 rfl), (c_at (sl_drew HP.out) 0 rfl 6 rfl), (c_at (sl_drew HP.out) 0 rfl 7 rfl), (c_at (sl_drew HP.out) 0 rfl 8 rfl), (c_at (sl_drew HP.out) 0 rfl 9 rfl), (c_at (sl_drew HP.out) 0 rfl 10 rfl)⟩ (fun hHeld => ?_)
  refine pure_ (i := 1) (N := some 48) (v := ?_) (a' := ?_) #[false, true, false, false, false, false, false, false, false, false, false] rfl rfl (by kernel_rfl) (fun _ _ _ h => h) (Or.inl ⟨by rfl, ?_⟩) ?_ ?_
  rotate_left
  · intro w'
    go_simp
    with_reducible rfl
  rotate_left
  · simp only [Act.put, List.setIfInBounds_toArray, List.set_cons_zero, List.set_cons_succ, i64_w, i32_w, IntKind.wrap_u32, IntKind.wrap_u8, IntKind.wrap_u16]
    rfl
  refine pure_ (i := 2) (N := some 49) (v := ?_) (a' := ?_) #[false, true, true, false, false, false, false, false, false, false, false] rfl rfl (by kernel_rfl) (fun _ _ _ h => h) (Or.inl ⟨by rfl, ?_⟩) ?_ ?_
  rotate_left
  · intro w'
    go_simp
    with_reducible rfl
  rotate_left
  · simp only [Act.put, List.setIfInBounds_toArray, List.set_cons_zero, List.set_cons_succ, i64_w, i32_w, IntKind.wrap_u32, IntKind.wrap_u8, IntKind.wrap_u16]
    rfl
  refine pure_ (i := 4) (N := some 51) (v := ?_) (a' := ?_) #[false, true, true, false, true, false, false, false, false, false, false] rfl rfl (by kernel_rfl) (fun _ _ _ h => h) (Or.inl ⟨by rfl, ?_⟩) ?_ ?_
  rotate_left
  · intro w'
    go_simp
    with_reducible rfl
  rotate_left
  · simp only [Act.put, List.setIfInBounds_toArray, List.set_cons_zero, List.set_cons_succ, i64_w, i32_w, IntKind.wrap_u32, IntKind.wrap_u8, IntKind.wrap_u16]
    rfl
  refine pure_ (i := 5) (N := some 52) (v := ?_) (a' := ?_) #[false, true, true, false, true, true, false, false, false, false, false] rfl rfl (by kernel_rfl) (fun _ _ _ h => h) (Or.inl ⟨by rfl, ?_⟩) ?_ ?_
  rotate_left
  · intro w'
    go_simp
    with_reducible rfl
  rotate_left
  · simp only [Act.put, List.setIfInBounds_toArray, List.set_cons_zero, List.set_cons_succ, i64_w, i32_w, IntKind.wrap_u32, IntKind.wrap_u8, IntKind.wrap_u16]
    rfl
  refine take_ (i := 0) (N := some 47) (v := ?_) (a' := ?_) #[true, true, true, false, true, true, false, false, false, false, false] rfl rfl (by kernel_rfl) (fun _ _ _ h => h) (Or.inl ⟨by rfl, ?_⟩) hHeld ?_ ?_
  rotate_left
  · rintro w' ⟨s0, s1, s2, s3, s4, s5, s6, s7, s8, s9, s10⟩
    go_simp
    with_reducible rfl
  rotate_left
  · simp only [Act.put, List.setIfInBounds_toArray, List.set_cons_zero, List.set_cons_succ, i64_w, i32_w, IntKind.wrap_u32, IntKind.wrap_u8, IntKind.wrap_u16]
    rfl
  refine take_ (i := 3) (N := some 50) (v := ?_) (a' := ?_) #[true, true, true, true, true, true, false, false, false, false, false] rfl rfl (by kernel_rfl) (fun _ _ _ h => h) (Or.inl ⟨by rfl, ?_⟩) hHeld ?_ ?_
  rotate_left
  · rintro w' ⟨s0, s1, s2, s3, s4, s5, s6, s7, s8, s9, s10⟩
    go_simp
    with_reducible rfl
  rotate_left
  · simp only [Act.put, List.setIfInBounds_toArray, List.set_cons_zero, List.set_cons_succ, i64_w, i32_w, IntKind.wrap_u32, IntKind.wrap_u8, IntKind.wrap_u16]
    rfl
  refine take_ (i := 6) (N := some 53) (v := ?_) (a' := ?_) #[true, true, true, true, true, true, true, false, false, false, false] rfl rfl (by kernel_rfl) (fun _ _ _ h => h) (Or.inl ⟨by rfl, ?_⟩) hHeld ?_ ?_
  rotate_left
  · rintro w' ⟨s0, s1, s2, s3, s4, s5, s6, s7, s8, s9, s10⟩
    go_simp
    with_reducible rfl
  rotate_left
  · simp only [Act.put, List.setIfInBounds_toArray, List.set_cons_zero, List.set_cons_succ, i64_w, i32_w, IntKind.wrap_u32, IntKind.wrap_u8, IntKind.wrap_u16]
    rfl
  refine one_ (i := 7) (N := none) #[true, true, true, true, true, true, true, true, false, false, false] rfl rfl (by kernel_rfl) (by decide) (fun K hK => ?_)
  rw [if_pos (by rfl)]
  refine wp_store_row 39 _ _ rfl (w.heap.size + 1) (rcs { s with sx := A, sy := B } M) rfl rfl 39 rcz (sl_blk (sl_drew HP.out) 1 rfl) (by kernel_rfl) rfl (by simp [Value.oneCell']) ?_
  refine hK.out _ _ ⟨cell_row (show w.heap.size ≠ w.heap.size + 1 by omega) _ ((c_at (sl_drew HP.out) 0 rfl 0 rfl)), cell_row (show w.heap.size ≠ w.heap.size + 1 by omega) _ ((c_at (sl_drew HP.out) 0 rfl 1 rfl)), cell_row (show w.heap.size ≠ w.heap.size + 1 by omega) _ ((c_at (sl_drew HP.out) 0 rfl 2 rfl)), cell_row (show w.heap.size ≠ w.heap.size + 1 by omega) _ ((c_at (sl_drew HP.out) 0 rfl 3 rfl)), cell_row (show w.heap.size ≠ w.heap.size + 1 by omega) _ ((c_at (sl_drew HP.out) 0 rfl 4 rfl)), cell_row (show w.heap.size ≠ w.heap.size + 1 by omega) _ ((c_at (sl_drew HP.out) 0 rfl 5 rfl)), cell_row (show w.heap.size ≠ w.heap.size + 1 by omega) _ ((c_at (sl_drew HP.out) 0 rfl 6 rfl)), cell_row (show w.heap.size ≠ w.heap.size + 1 by omega) _ ((c_at (sl_drew HP.out) 0 rfl 7 rfl)), cell_row (show w.heap.size ≠ w.heap.size + 1 by omega) _ ((c_at (sl_drew HP.out) 0 rfl 8 rfl)), cell_row (show w.heap.size ≠ w.heap.size + 1 by omega) _ ((c_at (sl_drew HP.out) 0 rfl 9 rfl)), cell_row (show w.heap.size ≠ w.heap.size + 1 by omega) _ ((c_at (sl_drew HP.out) 0 rfl 10 rfl))⟩ (fun hHeld => ?_)
  clear hK K
  refine pure_ (i := 8) (N := some 9) (v := ?_) (a' := ?_) #[true, true, true, true, true, true, true, true, true, false, false] rfl rfl (by kernel_rfl) (fun _ _ _ h => h) (Or.inl ⟨by rfl, ?_⟩) ?_ ?_
  rotate_left
  · intro w'
    go_simp
    with_reducible rfl
  rotate_left
  · simp only [Act.put, List.setIfInBounds_toArray, List.set_cons_zero, List.set_cons_succ, i64_w, i32_w, IntKind.wrap_u32, IntKind.wrap_u8, IntKind.wrap_u16]
    rfl
  refine pure_ (i := 9) (N := some 10) (v := ?_) (a' := ?_) #[true, true, true, true, true, true, true, true, true, true, false] rfl rfl (by kernel_rfl) (fun _ _ _ h => h) (Or.inl ⟨by rfl, ?_⟩) ?_ ?_
  rotate_left
  · intro w'
    go_simp
    with_reducible rfl
  rotate_left
  · simp only [Act.put, List.setIfInBounds_toArray, List.set_cons_zero, List.set_cons_succ, i64_w, i32_w, IntKind.wrap_u32, IntKind.wrap_u8, IntKind.wrap_u16]
    rfl
  refine pure_ (i := 10) (N := some 11) (v := ?_) (a' := ?_) #[true, true, true, true, true, true, true, true, true, true, true] rfl rfl (by kernel_rfl) (fun _ _ _ h => h) (Or.inl ⟨by rfl, ?_⟩) ?_ ?_
  rotate_left
  · intro w'
    go_simp
    with_reducible rfl
  rotate_left
  · simp only [Act.put, List.setIfInBounds_toArray, List.set_cons_zero, List.set_cons_succ, i64_w, i32_w, IntKind.wrap_u32, IntKind.wrap_u8, IntKind.wrap_u16]
    rfl
  refine done_ (by kernel_rfl) ?_
  have hs := sl_row (sl_drew HP.out) 1 rfl (rcs { s with sx := A, sy := B } M)
  replace HS := Aside0.mk hs
  clear hs
  go_wp2_with (fail)
  refine bodyPost_ret (results_list (rs := [.cell 8 39, .tmp 9, .tmp 10, .tmp 11]) rfl (by simp) (.cell _ 39 (rcs { s with sx := A, sy := B } M) (0, 0) _ rfl (sl_blk HS.out 1 rfl) Try.underlying39 rfl (by kernel_rfl) (.tmp (.tmp (.tmp .nil))))) rfl ?_
  exact ⟨rfl, sl_below HL.out (sl_below0 HS.out)⟩
set_option maxHeartbeats 2000000 in
theorem rRsz_11 {w0 w : World} {L : List Res} (h : SL w0 w L) (s : WSt) {M : Int} (k x y V H A B : Int) (hV : Go.bits .and .i64 k 3 = V) (hH : Go.bits .and .i64 k 12 = H) (hk : edgeB k = true) (hx : (H != 0) = true) (hy : (V != 0) = true) (hc4 : (Go.bits .and .i64 M 4 == 0) = false) (hcon : (Go.bits .and .i64 M 3 != 0) = false) (hv : valB 1 x y = true) (hA : limI s.lx s.mx x = A) (hB : limI s.ly s.my y = B) : Calls Try.prog 33 #[rvS s M, .int .i64 k, .int .i64 x, .int .i64 y] w fun e w' => e = .returned (.tuple #[rvS { s with sx := A, sy := B } M, .int .i64 A, .int .i64 B, .int .i64 0]) ∧ SL w0 w' L := by
  have HL := Aside0.mk h
  have HS := Aside0.mk (sl_start w)
  have HG := Aside0.mk hk
  have HV := Aside0.mk hv
  have HC := Aside0.mk hcon
  have HA := Aside0.mk (And.intro hA hB)
  obtain ⟨X4, h4⟩ : ∃ X, Go.bits .and .i64 M 4 = X := ⟨_, rfl⟩
  rw [h4] at hc4
  clear h hk hv hcon hA hB
  go_enter Try.func33, Try.ntmps33
  go_wp2_with (first
      | (go_at_call 45; refine (edged_c (by repeat (with_reducible first | exact HS.out | apply sl_drewN | apply sl_drew | apply sl_box | apply sl_alloc)) k HG.out).mono ?_; rintro e w1 ⟨rfl, hs⟩; (try simp only [World.size_alloc] at hs); replace HS := Aside0.mk hs; clear hs; (try clear a0 a1 a2 a3 a4 a5 a6 a7 a8 a9 a10 fa8 fa9 la); (try (have a0 := c_at HS.out 0 rfl 0 rfl; have a1 := c_at HS.out 0 rfl 1 rfl; have a2 := c_at HS.out 0 rfl 2 rfl; have a3 := c_at HS.out 0 rfl 3 rfl; have a4 := c_at HS.out 0 rfl 4 rfl; have a5 := c_at HS.out 0 rfl 5 rfl; have a6 := c_at HS.out 0 rfl 6 rfl; have a7 := c_at HS.out 0 rfl 7 rfl; have a8 := c_at HS.out 0 rfl 8 rfl; have a9 := c_at HS.out 0 rfl 9 rfl; have a10 := c_at HS.out 0 rfl 10 rfl; have fa8 := f_at HS.out 0 rfl 8; have fa9 := f_at HS.out 0 rfl 9; have la := blk_lt (sl_blk HS.out 0 rfl))); (try clear p0 p1 lp); (try (have p0 := c_at HS.out 2 rfl 0 rfl; have p1 := c_at HS.out 2 rfl 1 rfl; have lp := blk_lt (sl_blk HS.out 2 rfl))))
      | (go_at_call 40; refine (size_c (by repeat (with_reducible first | exact HS.out | apply sl_drewN | apply sl_drew | apply sl_box | apply sl_alloc)) x y 1 HV.out).mono ?_; rintro e w1 ⟨rfl, hs⟩; (try simp only [World.size_alloc] at hs); replace HS := Aside0.mk hs; clear hs; (try clear a0 a1 a2 a3 a4 a5 a6 a7 a8 a9 a10 fa8 fa9 la); (try (have a0 := c_at HS.out 0 rfl 0 rfl; have a1 := c_at HS.out 0 rfl 1 rfl; have a2 := c_at HS.out 0 rfl 2 rfl; have a3 := c_at HS.out 0 rfl 3 rfl; have a4 := c_at HS.out 0 rfl 4 rfl; have a5 := c_at HS.out 0 rfl 5 rfl; have a6 := c_at HS.out 0 rfl 6 rfl; have a7 := c_at HS.out 0 rfl 7 rfl; have a8 := c_at HS.out 0 rfl 8 rfl; have a9 := c_at HS.out 0 rfl 9 rfl; have a10 := c_at HS.out 0 rfl 10 rfl; have fa8 := f_at HS.out 0 rfl 8; have fa9 := f_at HS.out 0 rfl 9; have la := blk_lt (sl_blk HS.out 0 rfl))); (try clear p0 p1 lp); (try (have p0 := c_at HS.out 2 rfl 0 rfl; have p1 := c_at HS.out 2 rfl 1 rfl; have lp := blk_lt (sl_blk HS.out 2 rfl))))
      | (go_at_call 42; refine (con_c (by repeat (with_reducible first | exact HS.out | apply sl_drewN | apply sl_drew | apply sl_box | apply sl_alloc)) s HC.out).mono ?_; rintro e w1 ⟨rfl, hs⟩; (try simp only [World.size_alloc] at hs); replace HS := Aside0.mk hs; clear hs; (try clear a0 a1 a2 a3 a4 a5 a6 a7 a8 a9 a10 fa8 fa9 la); (try (have a0 := c_at HS.out 0 rfl 0 rfl; have a1 := c_at HS.out 0 rfl 1 rfl; have a2 := c_at HS.out 0 rfl 2 rfl; have a3 := c_at HS.out 0 rfl 3 rfl; have a4 := c_at HS.out 0 rfl 4 rfl; have a5 := c_at HS.out 0 rfl 5 rfl; have a6 := c_at HS.out 0 rfl 6 rfl; have a7 := c_at HS.out 0 rfl 7 rfl; have a8 := c_at HS.out 0 rfl 8 rfl; have a9 := c_at HS.out 0 rfl 9 rfl; have a10 := c_at HS.out 0 rfl 10 rfl; have fa8 := f_at HS.out 0 rfl 8; have fa9 := f_at HS.out 0 rfl 9; have la := blk_lt (sl_blk HS.out 0 rfl))); (try clear p0 p1 lp); (try (have p0 := c_at HS.out 2 rfl 0 rfl; have p1 := c_at HS.out 2 rfl 1 rfl; have lp := blk_lt (sl_blk HS.out 2 rfl))))
      | (go_at_call 44; refine (Limited_c (sl_box HS.out #[.int .i64 x, .int .i64 y] 23) s M x y HA.out.1 HA.out.2).mono ?_; rintro e w9 ⟨rfl, hs⟩; (try simp only [World.size_alloc] at hs); replace HS := Aside0.mk hs; clear hs; (try clear a0 a1 a2 a3 a4 a5 a6 a7 a8 a9 a10 fa8 fa9 la); (try (have a0 := c_at HS.out 0 rfl 0 rfl; have a1 := c_at HS.out 0 rfl 1 rfl; have a2 := c_at HS.out 0 rfl 2 rfl; have a3 := c_at HS.out 0 rfl 3 rfl; have a4 := c_at HS.out 0 rfl 4 rfl; have a5 := c_at HS.out 0 rfl 5 rfl; have a6 := c_at HS.out 0 rfl 6 rfl; have a7 := c_at HS.out 0 rfl 7 rfl; have a8 := c_at HS.out 0 rfl 8 rfl; have a9 := c_at HS.out 0 rfl 9 rfl; have a10 := c_at HS.out 0 rfl 10 rfl; have fa8 := f_at HS.out 0 rfl 8; have fa9 := f_at HS.out 0 rfl 9; have la := blk_lt (sl_blk HS.out 0 rfl))); (try clear p0 p1 lp); (try (have p0 := c_at HS.out 2 rfl 0 rfl; have p1 := c_at HS.out 2 rfl 1 rfl; have lp := blk_lt (sl_blk HS.out 2 rfl)))))
  have HP := Aside0.mk (show SL w ((w9.setCell ⟨w.heap.size, 8, none⟩ (.int .i64 A)).setCell ⟨w.heap.size, 9, none⟩ (.int .i64 B)) _ from sl_put (sl_put HS.out 0 rfl 8 (.int .i64 A)) 0 rfl 9 (.int .i64 B))
  refine start_ (n := 11) (S := fun w' => w'.cell? ⟨w.heap.size, 0, none⟩ = some (.int .i64 s.lx) ∧ w'.cell? ⟨w.heap.size, 1, none⟩ = some (.int .i64 s.ly) ∧ w'.cell? ⟨w.heap.size, 2, none⟩ = some (.int .i64 s.mx) ∧ w'.cell? ⟨w.heap.size, 3, none⟩ = some (.int .i64 s.my) ∧ w'.cell? ⟨w.heap.size, 4, none⟩ = some (.int .i64 s.gx) ∧ w'.cell? ⟨w.heap.size, 5, none⟩ = some (.int .i64 s.gy) ∧ w'.cell? ⟨w.heap.size, 6, none⟩ = some (.int .i64 s.fx) ∧ w'.cell? ⟨w.heap.size, 7, none⟩ = some (.int .i64 s.fy) ∧ w'.cell? ⟨w.heap.size, 8, none⟩ = some (.int .i64 A) ∧ w'.cell? ⟨w.heap.size, 9, none⟩ = some (.int .i64 B) ∧ w'.cell? ⟨w.heap.size, 10, none⟩ = some (.int .i64 M)) (ds := []) #[false, false, false, false, false, false, false, false, false, false, false] (by kernel_rfl) rfl rfl ⟨(c_at (sl_drew HP.out) 0 rfl 0 rfl), (c_at (sl_drew HP.out) 0 rfl 1 rfl), (c_at (sl_drew HP.out) 0 rfl 2 rfl), (c_at (sl_drew HP.out) 0 rfl 3 rfl), (c_at (sl_drew HP.out) 0 rfl 4 rfl), (c_at (sl_drew HP.out) 0 rfl 5 rfl), (c_at (sl_drew HP.out) 0 rfl 6 rfl), (c_at (sl_drew HP.out) 0 rfl 7 rfl), (c_at (sl_drew HP.out) 0 rfl 8 rfl), (c_at (sl_drew HP.out) 0 rfl 9 rfl), (c_at (sl_drew HP.out) 0 rfl 10 rfl)⟩ (fun hHeld => ?_)
  refine pure_ (i := 1) (N := some 48) (v := ?_) (a' := ?_) #[false, true, false, false, false, false, false, false, false, false, false] rfl rfl (by kernel_rfl) (fun _ _ _ h => h) (Or.inl ⟨by rfl, ?_⟩) ?_ ?_
  rotate_left
  · intro w'
    go_simp
    with_reducible rfl
  rotate_left
  · simp only [Act.put, List.setIfInBounds_toArray, List.set_cons_zero, List.set_cons_succ, i64_w, i32_w, IntKind.wrap_u32, IntKind.wrap_u8, IntKind.wrap_u16]
    rfl
  refine pure_ (i := 2) (N := some 49) (v := ?_) (a' := ?_) #[false, true, true, false, false, false, false, false, false, false, false] rfl rfl (by kernel_rfl) (fun _ _ _ h => h) (Or.inl ⟨by rfl, ?_⟩) ?_ ?_
  rotate_left
  · intro w'
    go_simp
    with_reducible rfl
  rotate_left
  · simp only [Act.put, List.setIfInBounds_toArray, List.set_cons_zero, List.set_cons_succ, i64_w, i32_w, IntKind.wrap_u32, IntKind.wrap_u8, IntKind.wrap_u16]
    rfl
  refine pure_ (i := 4) (N := some 51) (v := ?_) (a' := ?_) #[false, true, true, false, true, false, false, false, false, false, false] rfl rfl (by kernel_rfl) (fun _ _ _ h => h) (Or.inl ⟨by rfl, ?_⟩) ?_ ?_
  rotate_left
  · intro w'
    go_simp
    with_reducible rfl
  rotate_left
  · simp only [Act.put, List.setIfInBounds_toArray, List.set_cons_zero, List.set_cons_succ, i64_w, i32_w, IntKind.wrap_u32, IntKind.wrap_u8, IntKind.wrap_u16]
    rfl
  refine pure_ (i := 5) (N := some 52) (v := ?_) (a' := ?_) #[false, true, true, false, true, true, false, false, false, false, false] rfl rfl (by kernel_rfl) (fun _ _ _ h => h) (Or.inl ⟨by rfl, ?_⟩) ?_ ?_
  rotate_left
  · intro w'
    go_simp
    with_reducible rfl
  rotate_left
  · simp only [Act.put, List.setIfInBounds_toArray, List.set_cons_zero, List.set_cons_succ, i64_w, i32_w, IntKind.wrap_u32, IntKind.wrap_u8, IntKind.wrap_u16]
    rfl
  refine take_ (i := 0) (N := some 47) (v := ?_) (a' := ?_) #[true, true, true, false, true, true, false, false, false, false, false] rfl rfl (by kernel_rfl) (fun _ _ _ h => h) (Or.inl ⟨by rfl, ?_⟩) hHeld ?_ ?_
  rotate_left
  · rintro w' ⟨s0, s1, s2, s3, s4, s5, s6, s7, s8, s9, s10⟩
    go_simp
    with_reducible rfl
  rotate_left
  · simp only [Act.put, List.setIfInBounds_toArray, List.set_cons_zero, List.set_cons_succ, i64_w, i32_w, IntKind.wrap_u32, IntKind.wrap_u8, IntKind.wrap_u16]
    rfl
  refine take_ (i := 3) (N := some 50) (v := ?_) (a' := ?_) #[true, true, true, true, true, true, false, false, false, false, false] rfl rfl (by kernel_rfl) (fun _ _ _ h => h) (Or.inl ⟨by rfl, ?_⟩) hHeld ?_ ?_
  rotate_left
  · rintro w' ⟨s0, s1, s2, s3, s4, s5, s6, s7, s8, s9, s10⟩
    go_simp
    with_reducible rfl
  rotate_left
  · simp only [Act.put, List.setIfInBounds_toArray, List.set_cons_zero, List.set_cons_succ, i64_w, i32_w, IntKind.wrap_u32, IntKind.wrap_u8, IntKind.wrap_u16]
    rfl
  refine take_ (i := 6) (N := some 53) (v := ?_) (a' := ?_) #[true, true, true, true, true, true, true, false, false, false, false] rfl rfl (by kernel_rfl) (fun _ _ _ h => h) (Or.inl ⟨by rfl, ?_⟩) hHeld ?_ ?_
  rotate_left
  · rintro w' ⟨s0, s1, s2, s3, s4, s5, s6, s7, s8, s9, s10⟩
    go_simp
    with_reducible rfl
  rotate_left
  · simp only [Act.put, List.setIfInBounds_toArray, List.set_cons_zero, List.set_cons_succ, i64_w, i32_w, IntKind.wrap_u32, IntKind.wrap_u8, IntKind.wrap_u16]
    rfl
  refine one_ (i := 7) (N := none) #[true, true, true, true, true, true, true, true, false, false, false] rfl rfl (by kernel_rfl) (by decide) (fun K hK => ?_)
  rw [if_pos (by rfl)]
  refine wp_store_row 39 _ _ rfl (w.heap.size + 1) (rcs { s with sx := A, sy := B } M) rfl rfl 39 rcz (sl_blk (sl_drew HP.out) 1 rfl) (by kernel_rfl) rfl (by simp [Value.oneCell']) ?_
  refine hK.out _ _ ⟨cell_row (show w.heap.size ≠ w.heap.size + 1 by omega) _ ((c_at (sl_drew HP.out) 0 rfl 0 rfl)), cell_row (show w.heap.size ≠ w.heap.size + 1 by omega) _ ((c_at (sl_drew HP.out) 0 rfl 1 rfl)), cell_row (show w.heap.size ≠ w.heap.size + 1 by omega) _ ((c_at (sl_drew HP.out) 0 rfl 2 rfl)), cell_row (show w.heap.size ≠ w.heap.size + 1 by omega) _ ((c_at (sl_drew HP.out) 0 rfl 3 rfl)), cell_row (show w.heap.size ≠ w.heap.size + 1 by omega) _ ((c_at (sl_drew HP.out) 0 rfl 4 rfl)), cell_row (show w.heap.size ≠ w.heap.size + 1 by omega) _ ((c_at (sl_drew HP.out) 0 rfl 5 rfl)), cell_row (show w.heap.size ≠ w.heap.size + 1 by omega) _ ((c_at (sl_drew HP.out) 0 rfl 6 rfl)), cell_row (show w.heap.size ≠ w.heap.size + 1 by omega) _ ((c_at (sl_drew HP.out) 0 rfl 7 rfl)), cell_row (show w.heap.size ≠ w.heap.size + 1 by omega) _ ((c_at (sl_drew HP.out) 0 rfl 8 rfl)), cell_row (show w.heap.size ≠ w.heap.size + 1 by omega) _ ((c_at (sl_drew HP.out) 0 rfl 9 rfl)), cell_row (show w.heap.size ≠ w.heap.size + 1 by omega) _ ((c_at (sl_drew HP.out) 0 rfl 10 rfl))⟩ (fun hHeld => ?_)
  clear hK K
  refine pure_ (i := 8) (N := some 9) (v := ?_) (a' := ?_) #[true, true, true, true, true, true, true, true, true, false, false] rfl rfl (by kernel_rfl) (fun _ _ _ h => h) (Or.inl ⟨by rfl, ?_⟩) ?_ ?_
  rotate_left
  · intro w'
    go_simp
    with_reducible rfl
  rotate_left
  · simp only [Act.put, List.setIfInBounds_toArray, List.set_cons_zero, List.set_cons_succ, i64_w, i32_w, IntKind.wrap_u32, IntKind.wrap_u8, IntKind.wrap_u16]
    rfl
  refine pure_ (i := 9) (N := some 10) (v := ?_) (a' := ?_) #[true, true, true, true, true, true, true, true, true, true, false] rfl rfl (by kernel_rfl) (fun _ _ _ h => h) (Or.inl ⟨by rfl, ?_⟩) ?_ ?_
  rotate_left
  · intro w'
    go_simp
    with_reducible rfl
  rotate_left
  · simp only [Act.put, List.setIfInBounds_toArray, List.set_cons_zero, List.set_cons_succ, i64_w, i32_w, IntKind.wrap_u32, IntKind.wrap_u8, IntKind.wrap_u16]
    rfl
  refine pure_ (i := 10) (N := some 11) (v := ?_) (a' := ?_) #[true, true, true, true, true, true, true, true, true, true, true] rfl rfl (by kernel_rfl) (fun _ _ _ h => h) (Or.inl ⟨by rfl, ?_⟩) ?_ ?_
  rotate_left
  · intro w'
    go_simp
    with_reducible rfl
  rotate_left
  · simp only [Act.put, List.setIfInBounds_toArray, List.set_cons_zero, List.set_cons_succ, i64_w, i32_w, IntKind.wrap_u32, IntKind.wrap_u8, IntKind.wrap_u16]
    rfl
  refine done_ (by kernel_rfl) ?_
  have hs := sl_row (sl_drew HP.out) 1 rfl (rcs { s with sx := A, sy := B } M)
  replace HS := Aside0.mk hs
  clear hs
  go_wp2_with (fail)
  refine bodyPost_ret (results_list (rs := [.cell 8 39, .tmp 9, .tmp 10, .tmp 11]) rfl (by simp) (.cell _ 39 (rcs { s with sx := A, sy := B } M) (0, 0) _ rfl (sl_blk HS.out 1 rfl) Try.underlying39 rfl (by kernel_rfl) (.tmp (.tmp (.tmp .nil))))) rfl ?_
  exact ⟨rfl, sl_below HL.out (sl_below0 HS.out)⟩
set_option maxHeartbeats 2000000 in
theorem rRsz_bad {w0 w : World} {L : List Res} (h : SL w0 w L) (s : WSt) {M : Int} (k x y : Int) (hk : edgeB k = false) : Calls Try.prog 33 #[rvS s M, .int .i64 k, .int .i64 x, .int .i64 y] w fun e w' => e = .returned (.tuple #[rvS s M, .int .i64 0, .int .i64 0, .int .i64 2]) ∧ SL w0 w' L := by
  have HL := Aside0.mk h
  have HS := Aside0.mk (sl_start w)
  have HG := Aside0.mk hk
  clear h hk
  go_enter Try.func33, Try.ntmps33
  go_wp2_with (first
    | (go_at_call 45; refine (edged_c (by repeat (with_reducible first | exact HS.out | apply sl_drewN | apply sl_drew | apply sl_box | apply sl_alloc)) k HG.out).mono ?_; rintro e w1 ⟨rfl, hs⟩; (try simp only [World.size_alloc] at hs); replace HS := Aside0.mk hs; clear hs; (try clear a0 a1 a2 a3 a4 a5 a6 a7 a8 a9 a10 fa8 fa9 la); (try (have a0 := c_at HS.out 0 rfl 0 rfl; have a1 := c_at HS.out 0 rfl 1 rfl; have a2 := c_at HS.out 0 rfl 2 rfl; have a3 := c_at HS.out 0 rfl 3 rfl; have a4 := c_at HS.out 0 rfl 4 rfl; have a5 := c_at HS.out 0 rfl 5 rfl; have a6 := c_at HS.out 0 rfl 6 rfl; have a7 := c_at HS.out 0 rfl 7 rfl; have a8 := c_at HS.out 0 rfl 8 rfl; have a9 := c_at HS.out 0 rfl 9 rfl; have a10 := c_at HS.out 0 rfl 10 rfl; have fa8 := f_at HS.out 0 rfl 8; have fa9 := f_at HS.out 0 rfl 9; have la := blk_lt (sl_blk HS.out 0 rfl))); (try clear p0 p1 lp); (try (have p0 := c_at HS.out 2 rfl 0 rfl; have p1 := c_at HS.out 2 rfl 1 rfl; have lp := blk_lt (sl_blk HS.out 2 rfl))))
    | (refine wpList_store_row rfl 39 _ _ rfl _ (rcs s M) rfl rfl 39 rcz (sl_blk (by repeat (with_reducible first | exact HS.out | apply sl_drewN | apply sl_drew | apply sl_box | apply sl_alloc)) 1 rfl) (by kernel_rfl) rfl (by simp [Value.oneCell']) ?_; have hs := sl_row (by repeat (with_reducible first | exact HS.out | apply sl_drewN | apply sl_drew | apply sl_box | apply sl_alloc)) 1 rfl (rcs s M); (try simp only [World.size_alloc] at hs); replace HS := Aside0.mk hs; clear hs))
  try rw [Exit.noGoto_ret]
  refine bodyPost_ret (results_list (rs := [.cell 8 39, .tmp 9, .tmp 10, .tmp 11]) rfl (by simp) (.cell _ 39 (rcs s M) (0, 0) _ rfl (sl_blk HS.out 1 rfl) Try.underlying39 rfl (by kernel_rfl) (.tmp (.tmp (.tmp .nil))))) rfl ?_
  exact ⟨rfl, sl_below HL.out (sl_below0 HS.out)⟩
set_option maxHeartbeats 2000000 in
theorem rRsz_rng {w0 w : World} {L : List Res} (h : SL w0 w L) (s : WSt) {M : Int} (k x y : Int) (hk : edgeB k = true) (hc4 : (Go.bits .and .i64 M 4 == 0) = false) (hcon : (Go.bits .and .i64 M 3 != 0) = false) (hv : valB 1 x y = false) : Calls Try.prog 33 #[rvS s M, .int .i64 k, .int .i64 x, .int .i64 y] w fun e w' => e = .returned (.tuple #[rvS s M, .int .i64 0, .int .i64 0, .int .i64 6]) ∧ SL w0 w' L := by
  have HL := Aside0.mk h
  have HS := Aside0.mk (sl_start w)
  have HG := Aside0.mk hk
  have HV := Aside0.mk hv
  have HC := Aside0.mk hcon
  obtain ⟨X4, h4⟩ : ∃ X, Go.bits .and .i64 M 4 = X := ⟨_, rfl⟩
  rw [h4] at hc4
  clear h hk hv hcon
  go_enter Try.func33, Try.ntmps33
  go_wp2_with (first
    | (go_at_call 45; refine (edged_c (by repeat (with_reducible first | exact HS.out | apply sl_drewN | apply sl_drew | apply sl_box | apply sl_alloc)) k HG.out).mono ?_; rintro e w1 ⟨rfl, hs⟩; (try simp only [World.size_alloc] at hs); replace HS := Aside0.mk hs; clear hs; (try clear a0 a1 a2 a3 a4 a5 a6 a7 a8 a9 a10 fa8 fa9 la); (try (have a0 := c_at HS.out 0 rfl 0 rfl; have a1 := c_at HS.out 0 rfl 1 rfl; have a2 := c_at HS.out 0 rfl 2 rfl; have a3 := c_at HS.out 0 rfl 3 rfl; have a4 := c_at HS.out 0 rfl 4 rfl; have a5 := c_at HS.out 0 rfl 5 rfl; have a6 := c_at HS.out 0 rfl 6 rfl; have a7 := c_at HS.out 0 rfl 7 rfl; have a8 := c_at HS.out 0 rfl 8 rfl; have a9 := c_at HS.out 0 rfl 9 rfl; have a10 := c_at HS.out 0 rfl 10 rfl; have fa8 := f_at HS.out 0 rfl 8; have fa9 := f_at HS.out 0 rfl 9; have la := blk_lt (sl_blk HS.out 0 rfl))); (try clear p0 p1 lp); (try (have p0 := c_at HS.out 2 rfl 0 rfl; have p1 := c_at HS.out 2 rfl 1 rfl; have lp := blk_lt (sl_blk HS.out 2 rfl))))
    | (go_at_call 40; refine (size_c (by repeat (with_reducible first | exact HS.out | apply sl_drewN | apply sl_drew | apply sl_box | apply sl_alloc)) x y 1 HV.out).mono ?_; rintro e w1 ⟨rfl, hs⟩; (try simp only [World.size_alloc] at hs); replace HS := Aside0.mk hs; clear hs; (try clear a0 a1 a2 a3 a4 a5 a6 a7 a8 a9 a10 fa8 fa9 la); (try (have a0 := c_at HS.out 0 rfl 0 rfl; have a1 := c_at HS.out 0 rfl 1 rfl; have a2 := c_at HS.out 0 rfl 2 rfl; have a3 := c_at HS.out 0 rfl 3 rfl; have a4 := c_at HS.out 0 rfl 4 rfl; have a5 := c_at HS.out 0 rfl 5 rfl; have a6 := c_at HS.out 0 rfl 6 rfl; have a7 := c_at HS.out 0 rfl 7 rfl; have a8 := c_at HS.out 0 rfl 8 rfl; have a9 := c_at HS.out 0 rfl 9 rfl; have a10 := c_at HS.out 0 rfl 10 rfl; have fa8 := f_at HS.out 0 rfl 8; have fa9 := f_at HS.out 0 rfl 9; have la := blk_lt (sl_blk HS.out 0 rfl))); (try clear p0 p1 lp); (try (have p0 := c_at HS.out 2 rfl 0 rfl; have p1 := c_at HS.out 2 rfl 1 rfl; have lp := blk_lt (sl_blk HS.out 2 rfl))))
    | (go_at_call 42; refine (con_c (by repeat (with_reducible first | exact HS.out | apply sl_drewN | apply sl_drew | apply sl_box | apply sl_alloc)) s HC.out).mono ?_; rintro e w1 ⟨rfl, hs⟩; (try simp only [World.size_alloc] at hs); replace HS := Aside0.mk hs; clear hs; (try clear a0 a1 a2 a3 a4 a5 a6 a7 a8 a9 a10 fa8 fa9 la); (try (have a0 := c_at HS.out 0 rfl 0 rfl; have a1 := c_at HS.out 0 rfl 1 rfl; have a2 := c_at HS.out 0 rfl 2 rfl; have a3 := c_at HS.out 0 rfl 3 rfl; have a4 := c_at HS.out 0 rfl 4 rfl; have a5 := c_at HS.out 0 rfl 5 rfl; have a6 := c_at HS.out 0 rfl 6 rfl; have a7 := c_at HS.out 0 rfl 7 rfl; have a8 := c_at HS.out 0 rfl 8 rfl; have a9 := c_at HS.out 0 rfl 9 rfl; have a10 := c_at HS.out 0 rfl 10 rfl; have fa8 := f_at HS.out 0 rfl 8; have fa9 := f_at HS.out 0 rfl 9; have la := blk_lt (sl_blk HS.out 0 rfl))); (try clear p0 p1 lp); (try (have p0 := c_at HS.out 2 rfl 0 rfl; have p1 := c_at HS.out 2 rfl 1 rfl; have lp := blk_lt (sl_blk HS.out 2 rfl))))
    | (refine wpList_store_row rfl 39 _ _ rfl _ (rcs s M) rfl rfl 39 rcz (sl_blk (by repeat (with_reducible first | exact HS.out | apply sl_drewN | apply sl_drew | apply sl_box | apply sl_alloc)) 1 rfl) (by kernel_rfl) rfl (by simp [Value.oneCell']) ?_; have hs := sl_row (by repeat (with_reducible first | exact HS.out | apply sl_drewN | apply sl_drew | apply sl_box | apply sl_alloc)) 1 rfl (rcs s M); (try simp only [World.size_alloc] at hs); replace HS := Aside0.mk hs; clear hs))
  try rw [Exit.noGoto_ret]
  refine bodyPost_ret (results_list (rs := [.cell 8 39, .tmp 9, .tmp 10, .tmp 11]) rfl (by simp) (.cell _ 39 (rcs s M) (0, 0) _ rfl (sl_blk HS.out 1 rfl) Try.underlying39 rfl (by kernel_rfl) (.tmp (.tmp (.tmp .nil))))) rfl ?_
  exact ⟨rfl, sl_below HL.out (sl_below0 HS.out)⟩
set_option maxHeartbeats 2000000 in
theorem rRsz_no {w0 w : World} {L : List Res} (h : SL w0 w L) (s : WSt) {M : Int} (k x y : Int) (hk : edgeB k = true) (hc : (Go.bits .and .i64 M 4 == 0) = true ∨ ((Go.bits .and .i64 M 4 == 0) = false ∧ (Go.bits .and .i64 M 3 != 0) = true)) : Calls Try.prog 33 #[rvS s M, .int .i64 k, .int .i64 x, .int .i64 y] w fun e w' => e = .returned (.tuple #[rvS s M, .int .i64 0, .int .i64 0, .int .i64 14]) ∧ SL w0 w' L := by
  have HL := Aside0.mk h
  have HS := Aside0.mk (sl_start w)
  have HG := Aside0.mk hk
  obtain ⟨X4, h4⟩ : ∃ X, Go.bits .and .i64 M 4 = X := ⟨_, rfl⟩
  rw [h4] at hc
  clear h hk
  rcases hc with hc4 | ⟨hc4, hcon⟩
  · skip
    go_enter Try.func33, Try.ntmps33
    go_wp2_with (first
      | (go_at_call 45; refine (edged_c (by repeat (with_reducible first | exact HS.out | apply sl_drewN | apply sl_drew | apply sl_box | apply sl_alloc)) k HG.out).mono ?_; rintro e w1 ⟨rfl, hs⟩; (try simp only [World.size_alloc] at hs); replace HS := Aside0.mk hs; clear hs; (try clear a0 a1 a2 a3 a4 a5 a6 a7 a8 a9 a10 fa8 fa9 la); (try (have a0 := c_at HS.out 0 rfl 0 rfl; have a1 := c_at HS.out 0 rfl 1 rfl; have a2 := c_at HS.out 0 rfl 2 rfl; have a3 := c_at HS.out 0 rfl 3 rfl; have a4 := c_at HS.out 0 rfl 4 rfl; have a5 := c_at HS.out 0 rfl 5 rfl; have a6 := c_at HS.out 0 rfl 6 rfl; have a7 := c_at HS.out 0 rfl 7 rfl; have a8 := c_at HS.out 0 rfl 8 rfl; have a9 := c_at HS.out 0 rfl 9 rfl; have a10 := c_at HS.out 0 rfl 10 rfl; have fa8 := f_at HS.out 0 rfl 8; have fa9 := f_at HS.out 0 rfl 9; have la := blk_lt (sl_blk HS.out 0 rfl))); (try clear p0 p1 lp); (try (have p0 := c_at HS.out 2 rfl 0 rfl; have p1 := c_at HS.out 2 rfl 1 rfl; have lp := blk_lt (sl_blk HS.out 2 rfl))))
      | (go_at_call 42; refine (con_c (by repeat (with_reducible first | exact HS.out | apply sl_drewN | apply sl_drew | apply sl_box | apply sl_alloc)) s HC.out).mono ?_; rintro e w1 ⟨rfl, hs⟩; (try simp only [World.size_alloc] at hs); replace HS := Aside0.mk hs; clear hs; (try clear a0 a1 a2 a3 a4 a5 a6 a7 a8 a9 a10 fa8 fa9 la); (try (have a0 := c_at HS.out 0 rfl 0 rfl; have a1 := c_at HS.out 0 rfl 1 rfl; have a2 := c_at HS.out 0 rfl 2 rfl; have a3 := c_at HS.out 0 rfl 3 rfl; have a4 := c_at HS.out 0 rfl 4 rfl; have a5 := c_at HS.out 0 rfl 5 rfl; have a6 := c_at HS.out 0 rfl 6 rfl; have a7 := c_at HS.out 0 rfl 7 rfl; have a8 := c_at HS.out 0 rfl 8 rfl; have a9 := c_at HS.out 0 rfl 9 rfl; have a10 := c_at HS.out 0 rfl 10 rfl; have fa8 := f_at HS.out 0 rfl 8; have fa9 := f_at HS.out 0 rfl 9; have la := blk_lt (sl_blk HS.out 0 rfl))); (try clear p0 p1 lp); (try (have p0 := c_at HS.out 2 rfl 0 rfl; have p1 := c_at HS.out 2 rfl 1 rfl; have lp := blk_lt (sl_blk HS.out 2 rfl))))
      | (refine wpList_store_row rfl 39 _ _ rfl _ (rcs s M) rfl rfl 39 rcz (sl_blk (by repeat (with_reducible first | exact HS.out | apply sl_drewN | apply sl_drew | apply sl_box | apply sl_alloc)) 1 rfl) (by kernel_rfl) rfl (by simp [Value.oneCell']) ?_; have hs := sl_row (by repeat (with_reducible first | exact HS.out | apply sl_drewN | apply sl_drew | apply sl_box | apply sl_alloc)) 1 rfl (rcs s M); (try simp only [World.size_alloc] at hs); replace HS := Aside0.mk hs; clear hs))
    try rw [Exit.noGoto_ret]
    refine bodyPost_ret (results_list (rs := [.cell 8 39, .tmp 9, .tmp 10, .tmp 11]) rfl (by simp) (.cell _ 39 (rcs s M) (0, 0) _ rfl (sl_blk HS.out 1 rfl) Try.underlying39 rfl (by kernel_rfl) (.tmp (.tmp (.tmp .nil))))) rfl ?_
    exact ⟨rfl, sl_below HL.out (sl_below0 HS.out)⟩
  · have HC := Aside0.mk hcon
    clear hcon
    go_enter Try.func33, Try.ntmps33
    go_wp2_with (first
      | (go_at_call 45; refine (edged_c (by repeat (with_reducible first | exact HS.out | apply sl_drewN | apply sl_drew | apply sl_box | apply sl_alloc)) k HG.out).mono ?_; rintro e w1 ⟨rfl, hs⟩; (try simp only [World.size_alloc] at hs); replace HS := Aside0.mk hs; clear hs; (try clear a0 a1 a2 a3 a4 a5 a6 a7 a8 a9 a10 fa8 fa9 la); (try (have a0 := c_at HS.out 0 rfl 0 rfl; have a1 := c_at HS.out 0 rfl 1 rfl; have a2 := c_at HS.out 0 rfl 2 rfl; have a3 := c_at HS.out 0 rfl 3 rfl; have a4 := c_at HS.out 0 rfl 4 rfl; have a5 := c_at HS.out 0 rfl 5 rfl; have a6 := c_at HS.out 0 rfl 6 rfl; have a7 := c_at HS.out 0 rfl 7 rfl; have a8 := c_at HS.out 0 rfl 8 rfl; have a9 := c_at HS.out 0 rfl 9 rfl; have a10 := c_at HS.out 0 rfl 10 rfl; have fa8 := f_at HS.out 0 rfl 8; have fa9 := f_at HS.out 0 rfl 9; have la := blk_lt (sl_blk HS.out 0 rfl))); (try clear p0 p1 lp); (try (have p0 := c_at HS.out 2 rfl 0 rfl; have p1 := c_at HS.out 2 rfl 1 rfl; have lp := blk_lt (sl_blk HS.out 2 rfl))))
      | (go_at_call 42; refine (con_c (by repeat (with_reducible first | exact HS.out | apply sl_drewN | apply sl_drew | apply sl_box | apply sl_alloc)) s HC.out).mono ?_; rintro e w1 ⟨rfl, hs⟩; (try simp only [World.size_alloc] at hs); replace HS := Aside0.mk hs; clear hs; (try clear a0 a1 a2 a3 a4 a5 a6 a7 a8 a9 a10 fa8 fa9 la); (try (have a0 := c_at HS.out 0 rfl 0 rfl; have a1 := c_at HS.out 0 rfl 1 rfl; have a2 := c_at HS.out 0 rfl 2 rfl; have a3 := c_at HS.out 0 rfl 3 rfl; have a4 := c_at HS.out 0 rfl 4 rfl; have a5 := c_at HS.out 0 rfl 5 rfl; have a6 := c_at HS.out 0 rfl 6 rfl; have a7 := c_at HS.out 0 rfl 7 rfl; have a8 := c_at HS.out 0 rfl 8 rfl; have a9 := c_at HS.out 0 rfl 9 rfl; have a10 := c_at HS.out 0 rfl 10 rfl; have fa8 := f_at HS.out 0 rfl 8; have fa9 := f_at HS.out 0 rfl 9; have la := blk_lt (sl_blk HS.out 0 rfl))); (try clear p0 p1 lp); (try (have p0 := c_at HS.out 2 rfl 0 rfl; have p1 := c_at HS.out 2 rfl 1 rfl; have lp := blk_lt (sl_blk HS.out 2 rfl))))
      | (refine wpList_store_row rfl 39 _ _ rfl _ (rcs s M) rfl rfl 39 rcz (sl_blk (by repeat (with_reducible first | exact HS.out | apply sl_drewN | apply sl_drew | apply sl_box | apply sl_alloc)) 1 rfl) (by kernel_rfl) rfl (by simp [Value.oneCell']) ?_; have hs := sl_row (by repeat (with_reducible first | exact HS.out | apply sl_drewN | apply sl_drew | apply sl_box | apply sl_alloc)) 1 rfl (rcs s M); (try simp only [World.size_alloc] at hs); replace HS := Aside0.mk hs; clear hs))
    try rw [Exit.noGoto_ret]
    refine bodyPost_ret (results_list (rs := [.cell 8 39, .tmp 9, .tmp 10, .tmp 11]) rfl (by simp) (.cell _ 39 (rcs s M) (0, 0) _ rfl (sl_blk HS.out 1 rfl) Try.underlying39 rfl (by kernel_rfl) (.tmp (.tmp (.tmp .nil))))) rfl ?_
    exact ⟨rfl, sl_below HL.out (sl_below0 HS.out)⟩
theorem rRsz_any {w0 w : World} {L : List Res} (h : SL w0 w L) (s : WSt) {M : Int} (hM : mskI s.b = M) (k x y V H : Int) (hV : Go.bits .and .i64 k 3 = V) (hH : Go.bits .and .i64 k 12 = H) (hk : edgeB k = true) (hx : (H != 0) = edX k) (hy : (V != 0) = edY k) (hne : (edX k || edY k) = true) : Calls Try.prog 33 #[rvS s M, .int .i64 k, .int .i64 x, .int .i64 y] w fun e w' => e = .returned (.tuple #[rvS (rszS s k x y) M, .int .i64 (rszA s k x y), .int .i64 (rszB s k x y), .int .i64 (rszE s k x y)]) ∧ SL w0 w' L := by
  have a4 := and4 s.b
  have a3 := and3 s.b
  rw [hM] at a4 a3
  unfold rszA rszB rszS
  by_cases hb : s.b.c = true ∧ s.b.a = false ∧ s.b.b = false
  rotate_left
  · have hE : rszE s k x y = 14 := by unfold rszE; rw [if_pos hk, if_neg hb]
    rw [hE]
    refine rRsz_no h s k x y hk ?_
    unfold bne
    rw [a4, a3]
    cases h1 : s.b.c <;> cases h2 : s.b.a <;> cases h3 : s.b.b <;> simp_all
  have hc4 : (Go.bits .and .i64 M 4 == 0) = false := by rw [a4, hb.1]; rfl
  have hcon : (Go.bits .and .i64 M 3 != 0) = false := by unfold bne; rw [a3, hb.2.1, hb.2.2]; rfl
  by_cases hv : valB 1 x y = true
  rotate_left
  · have hE : rszE s k x y = 6 := by unfold rszE; rw [if_pos hk, if_pos hb, if_neg hv]
    rw [hE]
    exact rRsz_rng h s k x y hk hc4 hcon (Bool.eq_false_iff.2 hv)
  have hE : rszE s k x y = 0 := by unfold rszE; rw [if_pos hk, if_pos hb, if_pos hv]
  rw [hE, if_pos rfl, if_pos rfl, if_pos rfl]
  unfold rszX rszY
  cases h1 : edX k <;> cases h2 : edY k
  · rw [h1, h2] at hne
    cases hne
  all_goals rw [h1] at hx; rw [h2] at hy
  · exact rRsz_01 h s k x y V H _ _ hV hH hk hx hy hc4 hcon hv rfl rfl
  · exact rRsz_10 h s k x y V H _ _ hV hH hk hx hy hc4 hcon hv rfl rfl
  · exact rRsz_11 h s k x y V H _ _ hV hH hk hx hy hc4 hcon hv rfl rfl
theorem rRsz_c {w0 w : World} {L : List Res} (h : SL w0 w L) (s : WSt) {M : Int} (hM : mskI s.b = M) (k x y : Int) : Calls Try.prog 33 #[rvS s M, .int .i64 k, .int .i64 x, .int .i64 y] w fun e w' => e = .returned (.tuple #[rvS (rszS s k x y) M, .int .i64 (rszA s k x y), .int .i64 (rszB s k x y), .int .i64 (rszE s k x y)]) ∧ SL w0 w' L := by
  by_cases hk : edgeB k = true
  · have hc : k = 1 ∨ k = 2 ∨ k = 4 ∨ k = 5 ∨ k = 6 ∨ k = 8 ∨ k = 9 ∨ k = 10 := by
      unfold edgeB at hk
      simp only [Bool.or_eq_true, beq_iff_eq] at hk
      omega
    rcases hc with rfl | rfl | rfl | rfl | rfl | rfl | rfl | rfl
    · exact rRsz_any h s hM 1 x y 1 0 (by kernel_rfl) (by kernel_rfl) hk rfl rfl rfl
    · exact rRsz_any h s hM 2 x y 2 0 (by kernel_rfl) (by kernel_rfl) hk rfl rfl rfl
    · exact rRsz_any h s hM 4 x y 0 4 (by kernel_rfl) (by kernel_rfl) hk rfl rfl rfl
    · exact rRsz_any h s hM 5 x y 1 4 (by kernel_rfl) (by kernel_rfl) hk rfl rfl rfl
    · exact rRsz_any h s hM 6 x y 2 4 (by kernel_rfl) (by kernel_rfl) hk rfl rfl rfl
    · exact rRsz_any h s hM 8 x y 0 8 (by kernel_rfl) (by kernel_rfl) hk rfl rfl rfl
    · exact rRsz_any h s hM 9 x y 1 8 (by kernel_rfl) (by kernel_rfl) hk rfl rfl rfl
    · exact rRsz_any h s hM 10 x y 2 8 (by kernel_rfl) (by kernel_rfl) hk rfl rfl rfl
  · have hk := Bool.eq_false_iff.2 hk
    have hE : rszE s k x y = 2 := by unfold rszE; rw [hk]; rfl
    unfold rszA rszB rszS
    rw [hE]
    exact rRsz_bad h s k x y hk
end Go.Proofs.Ytckpgccbhaejgaa.Q

