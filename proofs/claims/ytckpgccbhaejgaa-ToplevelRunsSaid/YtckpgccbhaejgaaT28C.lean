import Derived.Laws.StandIn
import Derived.Test.YtckpgccbhaejgaaT25
namespace Go.Proofs.Ytckpgccbhaejgaa.Q
open Go.RowKit Go.Proofs.YtckpgccbhaejgaaW.PrintWords Go.Proofs.YtckpgccbhaejgaaW.PrintLast Go.Proofs.YtckpgccbhaejgaaW.PrintMore Go.Proofs.Ytckpgccbhaejgaa.Sl Go.Proofs.Ytckpgccbhaejgaa.Hand 
attribute [local go_sem] max2_int min2_int max_two min_two max_three min_three max_four min_four 
set_option linter.unusedVariables false
set_option linter.unusedSimpArgs false

set_option maxHeartbeats 8000000 in
theorem rReq_c0 {w0 w : World} {L : List Res} (h : SL w0 w L) (s : WSt) {M : Int} (k : Int) (hk : k = 1 ∨ k = 2 ∨ k = 4 ∨ k = 8) (p0 q0 p1 q1 N0 N1 N : Int) (h0 : Go.bits .andNot .i64 M k = N0) (h1 : Go.bits .or .i64 M k = N1) (hN : (if false = true then N1 else N0) = N) (hcon : (Go.bits .and .i64 N 3 != 0) = true) (he : emptyB p0 q0 p1 q1 = false) (DX DY : Int) (hx : wrap64 (p1 - p0) = DX) (hy : wrap64 (q1 - q0) = DY) : Calls Try.prog 32 #[rvS s M, .int .i64 k, .bool false, .agg #[.int .i64 p0, .int .i64 q0, .int .i64 p1, .int .i64 q1]] w fun e w' => e = .returned (.tuple #[rvS { s with sx := DX, sy := DY } N, .int .i64 DX, .int .i64 DY, .int .i64 N, .int .i64 0]) ∧ SL w0 w' L := by
  have HL := Aside0.mk h
  have HS := Aside0.mk (sl_start w)
  have HC := Aside0.mk hcon
  have HE := Aside0.mk he
  obtain ⟨A, hA⟩ : ∃ A, limI s.lx s.mx s.fx = A := ⟨_, rfl⟩
  obtain ⟨B, hB⟩ : ∃ B, limI s.ly s.my s.fy = B := ⟨_, rfl⟩
  have HA := Aside0.mk (And.intro hA hB)
  clear h hcon he hA hB
  simp only [↓reduceIte, Bool.false_eq_true] at hN <;> (first | rw [hN] at h0 | rw [hN] at h1) <;> clear hN <;> rcases hk with rfl | rfl | rfl | rfl <;> (
    go_enter Try.func32, Try.ntmps32
    go_wp2_with (first
      | (go_at_call 42; (first | refine (con_c (by repeat (with_reducible first | exact HS.out | apply sl_drewN | apply sl_drew | apply sl_box | apply sl_alloc)) s HC.out).mono ?_ | refine (con_c (show SL w _ _ from (sl_put (sl_put HS.out 3 rfl 8 (.int .i64 A)) 3 rfl 9 (.int .i64 B))) { s with sx := A, sy := B } HC.out).mono ?_); rintro e w8 ⟨rfl, hs⟩; (try simp only [World.size_alloc] at hs); replace HS := Aside0.mk hs; clear hs; (try clear a0 a1 a2 a3 a4 a5 a6 a7 a8 a9 a10 la); (try (have a0 := c_at HS.out 0 rfl 0 rfl; have a1 := c_at HS.out 0 rfl 1 rfl; have a2 := c_at HS.out 0 rfl 2 rfl; have a3 := c_at HS.out 0 rfl 3 rfl; have a4 := c_at HS.out 0 rfl 4 rfl; have a5 := c_at HS.out 0 rfl 5 rfl; have a6 := c_at HS.out 0 rfl 6 rfl; have a7 := c_at HS.out 0 rfl 7 rfl; have a8 := c_at HS.out 0 rfl 8 rfl; have a9 := c_at HS.out 0 rfl 9 rfl; have a10 := c_at HS.out 0 rfl 10 rfl; have la := blk_lt (sl_blk HS.out 0 rfl))); (try clear b0 b1 b2 b3 lb); (try (have b0 := c_at HS.out 1 rfl 0 rfl; have b1 := c_at HS.out 1 rfl 1 rfl; have b2 := c_at HS.out 1 rfl 2 rfl; have b3 := c_at HS.out 1 rfl 3 rfl; have lb := blk_lt (sl_blk HS.out 1 rfl))); (try clear e0 e1 e2 e3 e4 e5 e6 e7 e8 e9 e10 fe8 fe9 le); (try (have e0 := c_at HS.out 3 rfl 0 rfl; have e1 := c_at HS.out 3 rfl 1 rfl; have e2 := c_at HS.out 3 rfl 2 rfl; have e3 := c_at HS.out 3 rfl 3 rfl; have e4 := c_at HS.out 3 rfl 4 rfl; have e5 := c_at HS.out 3 rfl 5 rfl; have e6 := c_at HS.out 3 rfl 6 rfl; have e7 := c_at HS.out 3 rfl 7 rfl; have e8 := c_at HS.out 3 rfl 8 rfl; have e9 := c_at HS.out 3 rfl 9 rfl; have e10 := c_at HS.out 3 rfl 10 rfl; have fe8 := f_at HS.out 3 rfl 8; have fe9 := f_at HS.out 3 rfl 9; have le := blk_lt (sl_blk HS.out 3 rfl))))
      | (go_at_call 43; refine (emp04_c (by repeat (with_reducible first | exact HS.out | apply sl_drewN | apply sl_drew | apply sl_box | apply sl_alloc)) p0 q0 p1 q1 HE.out).mono ?_; rintro e w1 ⟨rfl, hs⟩; (try simp only [World.size_alloc] at hs); replace HS := Aside0.mk hs; clear hs; (try clear a0 a1 a2 a3 a4 a5 a6 a7 a8 a9 a10 la); (try (have a0 := c_at HS.out 0 rfl 0 rfl; have a1 := c_at HS.out 0 rfl 1 rfl; have a2 := c_at HS.out 0 rfl 2 rfl; have a3 := c_at HS.out 0 rfl 3 rfl; have a4 := c_at HS.out 0 rfl 4 rfl; have a5 := c_at HS.out 0 rfl 5 rfl; have a6 := c_at HS.out 0 rfl 6 rfl; have a7 := c_at HS.out 0 rfl 7 rfl; have a8 := c_at HS.out 0 rfl 8 rfl; have a9 := c_at HS.out 0 rfl 9 rfl; have a10 := c_at HS.out 0 rfl 10 rfl; have la := blk_lt (sl_blk HS.out 0 rfl))); (try clear b0 b1 b2 b3 lb); (try (have b0 := c_at HS.out 1 rfl 0 rfl; have b1 := c_at HS.out 1 rfl 1 rfl; have b2 := c_at HS.out 1 rfl 2 rfl; have b3 := c_at HS.out 1 rfl 3 rfl; have lb := blk_lt (sl_blk HS.out 1 rfl))); (try clear e0 e1 e2 e3 e4 e5 e6 e7 e8 e9 e10 fe8 fe9 le); (try (have e0 := c_at HS.out 3 rfl 0 rfl; have e1 := c_at HS.out 3 rfl 1 rfl; have e2 := c_at HS.out 3 rfl 2 rfl; have e3 := c_at HS.out 3 rfl 3 rfl; have e4 := c_at HS.out 3 rfl 4 rfl; have e5 := c_at HS.out 3 rfl 5 rfl; have e6 := c_at HS.out 3 rfl 6 rfl; have e7 := c_at HS.out 3 rfl 7 rfl; have e8 := c_at HS.out 3 rfl 8 rfl; have e9 := c_at HS.out 3 rfl 9 rfl; have e10 := c_at HS.out 3 rfl 10 rfl; have fe8 := f_at HS.out 3 rfl 8; have fe9 := f_at HS.out 3 rfl 9; have le := blk_lt (sl_blk HS.out 3 rfl))))
      | (go_at_call 44; refine (Limited_c (by repeat (with_reducible first | exact HS.out | apply sl_drewN | apply sl_drew | apply sl_box | apply sl_alloc)) s _ s.fx s.fy HA.out.1 HA.out.2).mono ?_; rintro e w9 ⟨rfl, hs⟩; (try simp only [World.size_alloc] at hs); replace HS := Aside0.mk hs; clear hs; (try clear a0 a1 a2 a3 a4 a5 a6 a7 a8 a9 a10 la); (try (have a0 := c_at HS.out 0 rfl 0 rfl; have a1 := c_at HS.out 0 rfl 1 rfl; have a2 := c_at HS.out 0 rfl 2 rfl; have a3 := c_at HS.out 0 rfl 3 rfl; have a4 := c_at HS.out 0 rfl 4 rfl; have a5 := c_at HS.out 0 rfl 5 rfl; have a6 := c_at HS.out 0 rfl 6 rfl; have a7 := c_at HS.out 0 rfl 7 rfl; have a8 := c_at HS.out 0 rfl 8 rfl; have a9 := c_at HS.out 0 rfl 9 rfl; have a10 := c_at HS.out 0 rfl 10 rfl; have la := blk_lt (sl_blk HS.out 0 rfl))); (try clear b0 b1 b2 b3 lb); (try (have b0 := c_at HS.out 1 rfl 0 rfl; have b1 := c_at HS.out 1 rfl 1 rfl; have b2 := c_at HS.out 1 rfl 2 rfl; have b3 := c_at HS.out 1 rfl 3 rfl; have lb := blk_lt (sl_blk HS.out 1 rfl))); (try clear e0 e1 e2 e3 e4 e5 e6 e7 e8 e9 e10 fe8 fe9 le); (try (have e0 := c_at HS.out 3 rfl 0 rfl; have e1 := c_at HS.out 3 rfl 1 rfl; have e2 := c_at HS.out 3 rfl 2 rfl; have e3 := c_at HS.out 3 rfl 3 rfl; have e4 := c_at HS.out 3 rfl 4 rfl; have e5 := c_at HS.out 3 rfl 5 rfl; have e6 := c_at HS.out 3 rfl 6 rfl; have e7 := c_at HS.out 3 rfl 7 rfl; have e8 := c_at HS.out 3 rfl 8 rfl; have e9 := c_at HS.out 3 rfl 9 rfl; have e10 := c_at HS.out 3 rfl 10 rfl; have fe8 := f_at HS.out 3 rfl 8; have fe9 := f_at HS.out 3 rfl 9; have le := blk_lt (sl_blk HS.out 3 rfl)))))
    have HP := Aside0.mk (sl_put (sl_put HS.out 3 rfl 8 (.int .i64 DX)) 3 rfl 9 (.int .i64 DY))
    refine start_ (n := 14) (S := fun w' => w'.cell? ⟨(w.heap.size + 1 + 1 + 1), 0, none⟩ = some (.int .i64 s.lx) ∧ w'.cell? ⟨(w.heap.size + 1 + 1 + 1), 1, none⟩ = some (.int .i64 s.ly) ∧ w'.cell? ⟨(w.heap.size + 1 + 1 + 1), 2, none⟩ = some (.int .i64 s.mx) ∧ w'.cell? ⟨(w.heap.size + 1 + 1 + 1), 3, none⟩ = some (.int .i64 s.my) ∧ w'.cell? ⟨(w.heap.size + 1 + 1 + 1), 4, none⟩ = some (.int .i64 s.gx) ∧ w'.cell? ⟨(w.heap.size + 1 + 1 + 1), 5, none⟩ = some (.int .i64 s.gy) ∧ w'.cell? ⟨(w.heap.size + 1 + 1 + 1), 6, none⟩ = some (.int .i64 s.fx) ∧ w'.cell? ⟨(w.heap.size + 1 + 1 + 1), 7, none⟩ = some (.int .i64 s.fy) ∧ w'.cell? ⟨(w.heap.size + 1 + 1 + 1), 8, none⟩ = some (.int .i64 DX) ∧ w'.cell? ⟨(w.heap.size + 1 + 1 + 1), 9, none⟩ = some (.int .i64 DY) ∧ w'.cell? ⟨(w.heap.size + 1 + 1 + 1), 10, none⟩ = some (.int .i64 N)) (ds := []) #[false, false, false, false, false, false, false, false, false, false, false, false, false, false] (by kernel_rfl) rfl rfl ⟨(c_at (sl_drew HP.out) 3 rfl 0 rfl), (c_at (sl_drew HP.out) 3 rfl 1 rfl), (c_at (sl_drew HP.out) 3 rfl 2 rfl), (c_at (sl_drew HP.out) 3 rfl 3 rfl), (c_at (sl_drew HP.out) 3 rfl 4 rfl), (c_at (sl_drew HP.out) 3 rfl 5 rfl), (c_at (sl_drew HP.out) 3 rfl 6 rfl), (c_at (sl_drew HP.out) 3 rfl 7 rfl), (c_at (sl_drew HP.out) 3 rfl 8 rfl), (c_at (sl_drew HP.out) 3 rfl 9 rfl), (c_at (sl_drew HP.out) 3 rfl 10 rfl)⟩ (fun hHeld => ?_)
    refine pure_ (i := 1) (N := some 68) (v := ?_) (a' := ?_) #[false, true, false, false, false, false, false, false, false, false, false, false, false, false] rfl rfl (by kernel_rfl) (fun _ _ _ h => h) (Or.inl ⟨by rfl, ?_⟩) ?_ ?_
    rotate_left
    · intro w'
      go_simp
      with_reducible rfl
    rotate_left
    · simp only [Act.put, List.setIfInBounds_toArray, List.set_cons_zero, List.set_cons_succ, i64_w, i32_w, IntKind.wrap_u32, IntKind.wrap_u8, IntKind.wrap_u16]
      rfl
    refine pure_ (i := 2) (N := some 69) (v := ?_) (a' := ?_) #[false, true, true, false, false, false, false, false, false, false, false, false, false, false] rfl rfl (by kernel_rfl) (fun _ _ _ h => h) (Or.inl ⟨by rfl, ?_⟩) ?_ ?_
    rotate_left
    · intro w'
      go_simp
      with_reducible rfl
    rotate_left
    · simp only [Act.put, List.setIfInBounds_toArray, List.set_cons_zero, List.set_cons_succ, i64_w, i32_w, IntKind.wrap_u32, IntKind.wrap_u8, IntKind.wrap_u16]
      rfl
    refine pure_ (i := 4) (N := some 71) (v := ?_) (a' := ?_) #[false, true, true, false, true, false, false, false, false, false, false, false, false, false] rfl rfl (by kernel_rfl) (fun _ _ _ h => h) (Or.inl ⟨by rfl, ?_⟩) ?_ ?_
    rotate_left
    · intro w'
      go_simp
      with_reducible rfl
    rotate_left
    · simp only [Act.put, List.setIfInBounds_toArray, List.set_cons_zero, List.set_cons_succ, i64_w, i32_w, IntKind.wrap_u32, IntKind.wrap_u8, IntKind.wrap_u16]
      rfl
    refine pure_ (i := 5) (N := some 72) (v := ?_) (a' := ?_) #[false, true, true, false, true, true, false, false, false, false, false, false, false, false] rfl rfl (by kernel_rfl) (fun _ _ _ h => h) (Or.inl ⟨by rfl, ?_⟩) ?_ ?_
    rotate_left
    · intro w'
      go_simp
      with_reducible rfl
    rotate_left
    · simp only [Act.put, List.setIfInBounds_toArray, List.set_cons_zero, List.set_cons_succ, i64_w, i32_w, IntKind.wrap_u32, IntKind.wrap_u8, IntKind.wrap_u16]
      rfl
    refine pure_ (i := 7) (N := some 74) (v := ?_) (a' := ?_) #[false, true, true, false, true, true, false, true, false, false, false, false, false, false] rfl rfl (by kernel_rfl) (fun _ _ _ h => h) (Or.inl ⟨by rfl, ?_⟩) ?_ ?_
    rotate_left
    · intro w'
      go_simp
      with_reducible rfl
    rotate_left
    · simp only [Act.put, List.setIfInBounds_toArray, List.set_cons_zero, List.set_cons_succ, i64_w, i32_w, IntKind.wrap_u32, IntKind.wrap_u8, IntKind.wrap_u16]
      rfl
    refine take_ (i := 0) (N := some 67) (v := ?_) (a' := ?_) #[true, true, true, false, true, true, false, true, false, false, false, false, false, false] rfl rfl (by kernel_rfl) (fun _ _ _ h => h) (Or.inl ⟨by rfl, ?_⟩) hHeld ?_ ?_
    rotate_left
    · rintro w' ⟨s0, s1, s2, s3, s4, s5, s6, s7, s8, s9, s10⟩
      go_simp
      with_reducible rfl
    rotate_left
    · simp only [Act.put, List.setIfInBounds_toArray, List.set_cons_zero, List.set_cons_succ, i64_w, i32_w, IntKind.wrap_u32, IntKind.wrap_u8, IntKind.wrap_u16]
      rfl
    refine take_ (i := 3) (N := some 70) (v := ?_) (a' := ?_) #[true, true, true, true, true, true, false, true, false, false, false, false, false, false] rfl rfl (by kernel_rfl) (fun _ _ _ h => h) (Or.inl ⟨by rfl, ?_⟩) hHeld ?_ ?_
    rotate_left
    · rintro w' ⟨s0, s1, s2, s3, s4, s5, s6, s7, s8, s9, s10⟩
      go_simp
      with_reducible rfl
    rotate_left
    · simp only [Act.put, List.setIfInBounds_toArray, List.set_cons_zero, List.set_cons_succ, i64_w, i32_w, IntKind.wrap_u32, IntKind.wrap_u8, IntKind.wrap_u16]
      rfl
    refine take_ (i := 6) (N := some 73) (v := ?_) (a' := ?_) #[true, true, true, true, true, true, true, true, false, false, false, false, false, false] rfl rfl (by kernel_rfl) (fun _ _ _ h => h) (Or.inl ⟨by rfl, ?_⟩) hHeld ?_ ?_
    rotate_left
    · rintro w' ⟨s0, s1, s2, s3, s4, s5, s6, s7, s8, s9, s10⟩
      go_simp
      with_reducible rfl
    rotate_left
    · simp only [Act.put, List.setIfInBounds_toArray, List.set_cons_zero, List.set_cons_succ, i64_w, i32_w, IntKind.wrap_u32, IntKind.wrap_u8, IntKind.wrap_u16]
      rfl
    refine take_ (i := 8) (N := some 75) (v := ?_) (a' := ?_) #[true, true, true, true, true, true, true, true, true, false, false, false, false, false] rfl rfl (by kernel_rfl) (fun _ _ _ h => h) (Or.inl ⟨by rfl, ?_⟩) hHeld ?_ ?_
    rotate_left
    · rintro w' ⟨s0, s1, s2, s3, s4, s5, s6, s7, s8, s9, s10⟩
      go_simp
      with_reducible rfl
    rotate_left
    · simp only [Act.put, List.setIfInBounds_toArray, List.set_cons_zero, List.set_cons_succ, i64_w, i32_w, IntKind.wrap_u32, IntKind.wrap_u8, IntKind.wrap_u16]
      rfl
    refine one_ (i := 9) (N := none) #[true, true, true, true, true, true, true, true, true, true, false, false, false, false] rfl rfl (by kernel_rfl) (by decide) (fun K hK => ?_)
    rw [if_pos (by rfl)]
    refine wp_store_row 39 _ _ rfl (w.heap.size + 1 + 1) (rcs { s with sx := DX, sy := DY } N) rfl rfl 39 rcz (sl_blk (sl_drew HP.out) 2 rfl) (by kernel_rfl) rfl (by simp [Value.oneCell']) ?_
    refine hK.out _ _ ⟨cell_row (show w.heap.size + 1 + 1 + 1 ≠ w.heap.size + 1 + 1 by omega) _ ((c_at (sl_drew HP.out) 3 rfl 0 rfl)), cell_row (show w.heap.size + 1 + 1 + 1 ≠ w.heap.size + 1 + 1 by omega) _ ((c_at (sl_drew HP.out) 3 rfl 1 rfl)), cell_row (show w.heap.size + 1 + 1 + 1 ≠ w.heap.size + 1 + 1 by omega) _ ((c_at (sl_drew HP.out) 3 rfl 2 rfl)), cell_row (show w.heap.size + 1 + 1 + 1 ≠ w.heap.size + 1 + 1 by omega) _ ((c_at (sl_drew HP.out) 3 rfl 3 rfl)), cell_row (show w.heap.size + 1 + 1 + 1 ≠ w.heap.size + 1 + 1 by omega) _ ((c_at (sl_drew HP.out) 3 rfl 4 rfl)), cell_row (show w.heap.size + 1 + 1 + 1 ≠ w.heap.size + 1 + 1 by omega) _ ((c_at (sl_drew HP.out) 3 rfl 5 rfl)), cell_row (show w.heap.size + 1 + 1 + 1 ≠ w.heap.size + 1 + 1 by omega) _ ((c_at (sl_drew HP.out) 3 rfl 6 rfl)), cell_row (show w.heap.size + 1 + 1 + 1 ≠ w.heap.size + 1 + 1 by omega) _ ((c_at (sl_drew HP.out) 3 rfl 7 rfl)), cell_row (show w.heap.size + 1 + 1 + 1 ≠ w.heap.size + 1 + 1 by omega) _ ((c_at (sl_drew HP.out) 3 rfl 8 rfl)), cell_row (show w.heap.size + 1 + 1 + 1 ≠ w.heap.size + 1 + 1 by omega) _ ((c_at (sl_drew HP.out) 3 rfl 9 rfl)), cell_row (show w.heap.size + 1 + 1 + 1 ≠ w.heap.size + 1 + 1 by omega) _ ((c_at (sl_drew HP.out) 3 rfl 10 rfl))⟩ (fun hHeld => ?_)
    clear hK K
    refine pure_ (i := 10) (N := some 9) (v := ?_) (a' := ?_) #[true, true, true, true, true, true, true, true, true, true, true, false, false, false] rfl rfl (by kernel_rfl) (fun _ _ _ h => h) (Or.inl ⟨by rfl, ?_⟩) ?_ ?_
    rotate_left
    · intro w'
      go_simp
      with_reducible rfl
    rotate_left
    · simp only [Act.put, List.setIfInBounds_toArray, List.set_cons_zero, List.set_cons_succ, i64_w, i32_w, IntKind.wrap_u32, IntKind.wrap_u8, IntKind.wrap_u16]
      rfl
    refine pure_ (i := 11) (N := some 10) (v := ?_) (a' := ?_) #[true, true, true, true, true, true, true, true, true, true, true, true, false, false] rfl rfl (by kernel_rfl) (fun _ _ _ h => h) (Or.inl ⟨by rfl, ?_⟩) ?_ ?_
    rotate_left
    · intro w'
      go_simp
      with_reducible rfl
    rotate_left
    · simp only [Act.put, List.setIfInBounds_toArray, List.set_cons_zero, List.set_cons_succ, i64_w, i32_w, IntKind.wrap_u32, IntKind.wrap_u8, IntKind.wrap_u16]
      rfl
    refine pure_ (i := 12) (N := some 11) (v := ?_) (a' := ?_) #[true, true, true, true, true, true, true, true, true, true, true, true, true, false] rfl rfl (by kernel_rfl) (fun _ _ _ h => h) (Or.inl ⟨by rfl, ?_⟩) ?_ ?_
    rotate_left
    · intro w'
      go_simp
      with_reducible rfl
    rotate_left
    · simp only [Act.put, List.setIfInBounds_toArray, List.set_cons_zero, List.set_cons_succ, i64_w, i32_w, IntKind.wrap_u32, IntKind.wrap_u8, IntKind.wrap_u16]
      rfl
    refine pure_ (i := 13) (N := some 12) (v := ?_) (a' := ?_) #[true, true, true, true, true, true, true, true, true, true, true, true, true, true] rfl rfl (by kernel_rfl) (fun _ _ _ h => h) (Or.inl ⟨by rfl, ?_⟩) ?_ ?_
    rotate_left
    · intro w'
      go_simp
      with_reducible rfl
    rotate_left
    · simp only [Act.put, List.setIfInBounds_toArray, List.set_cons_zero, List.set_cons_succ, i64_w, i32_w, IntKind.wrap_u32, IntKind.wrap_u8, IntKind.wrap_u16]
      rfl
    refine done_ (by kernel_rfl) ?_
    have hs := sl_row (sl_drew HP.out) 2 rfl (rcs { s with sx := DX, sy := DY } N)
    replace HS := Aside0.mk hs
    clear hs
    go_wp2_with (fail)
    refine bodyPost_ret (results_list (rs := [.cell 8 39, .tmp 9, .tmp 10, .tmp 11, .tmp 12]) rfl (by simp) (.cell _ 39 (rcs { s with sx := DX, sy := DY } N) (0, 0) _ rfl (sl_blk HS.out 2 rfl) Try.underlying39 rfl (by kernel_rfl) (.tmp (.tmp (.tmp (.tmp .nil)))))) rfl ?_
    exact ⟨rfl, sl_below HL.out (sl_below0 HS.out)⟩)
end Go.Proofs.Ytckpgccbhaejgaa.Q
