import Derived.Test.YtegkkomlpgappaaI3
import Derived.Test.YtegkkomlpgappaaI4
namespace Go.Proofs.Ytegkkomlpgappaa.Q
open Go.RowKit Go.Proofs.YtegkkomlpgappaaW.PrintWords Go.Proofs.YtegkkomlpgappaaW.PrintLast Go.Proofs.YtegkkomlpgappaaW.PrintMore Go.Proofs.Ytegkkomlpgappaa.Sl Go.Proofs.Ytegkkomlpgappaa.Hand 
attribute [local go_sem] max2_int min2_int max_two min_two max_three min_three max_four min_four 
set_option linter.unusedVariables false
set_option linter.unusedSimpArgs false

theorem rAll_e {w0 w : World} {L : List Res} {x : XS} {s S : TSt} {V E : Int} (h : SL w0 w L) (i : Nat) (hi : L[i]? = some (refX x s)) (ho : TOk s) (hV : allV s = V) (hE : allE s = E) (hS : allS s = S) : Calls Try.prog 26 #[rvX x s] w fun e w' => ∃ y, e = .returned (.tuple #[rvX y S, .int .u32 V, .int .i64 E]) ∧ SL w0 w' (L.set i (refX y S)) := by
  subst hE; subst hS; subst hV
  exact liftX (ret := fun y => .returned (.tuple #[rvX y (allS s), .int .u32 (allV s), .int .i64 (allE s)])) (B := fun y => refX y (allS s)) h i hi fun h => rAll_in x s h ho
theorem rTake_e {w0 w : World} {L : List Res} {x : XS} {s S : TSt} {E : Int} (h : SL w0 w L) (i : Nat) (hi : L[i]? = some (refX x s)) (id : Int) (h0 : 0 ≤ id) (h1 : id < 4294967296) (ho : TOk s) (hE : takeE s id = E) (hS : takeS s id = S) : Calls Try.prog 27 #[rvX x s, .int .u32 id] w fun e w' => ∃ y, e = .returned (.tuple #[rvX y S, .int .i64 E]) ∧ SL w0 w' (L.set i (refX y S)) := by
  subst hE; subst hS
  exact liftX (ret := fun y => .returned (.tuple #[rvX y (takeS s id), .int .i64 (takeE s id)])) (B := fun y => refX y (takeS s id)) h i hi fun h => rTake_in x s id h h0 h1 ho
theorem rRel_e {w0 w : World} {L : List Res} {x : XS} {s S : TSt} {E : Int} (h : SL w0 w L) (i : Nat) (hi : L[i]? = some (refX x s)) (id : Int) (ho : TOk s) (hd : id ∈ s.live → id ∉ s.rel) (hE : relE s id = E) (hS : relS s id = S) : Calls Try.prog 28 #[rvX x s, .int .u32 id] w fun e w' => ∃ y, e = .returned (.tuple #[rvX y S, .int .i64 E]) ∧ SL w0 w' (L.set i (refX y S)) := by
  subst hE; subst hS
  exact liftX (ret := fun y => .returned (.tuple #[rvX y (relS s id), .int .i64 (relE s id)])) (B := fun y => refX y (relS s id)) h i hi fun h => rRel_in x s id h ho hd
theorem rCon_e {w0 w : World} {L : List Res} {x : XS} {s S : TSt} {E : Int} (h : SL w0 w L) (i : Nat) (hi : L[i]? = some (refX x s)) (id : Int) (ho : TOk s) (hE : conE s id = E) (hS : conS s id = S) : Calls Try.prog 29 #[rvX x s, .int .u32 id] w fun e w' => ∃ y, e = .returned (.tuple #[rvX y S, .int .i64 E]) ∧ SL w0 w' (L.set i (refX y S)) := by
  subst hE; subst hS
  exact liftX (ret := fun y => .returned (.tuple #[rvX y (conS s id), .int .i64 (conE s id)])) (B := fun y => refX y (conS s id)) h i hi fun h => rCon_in x s id h ho
set_option maxHeartbeats 4000000 in
theorem rstep_in {w0 w : World} {R : Res} (x : XS) (s : TSt) (k id : Int) (hs : SL w0 w [refX x s, R]) (h0 : 0 ≤ id) (h1 : id < 4294967296) (ho : TOk s) (hd : id ∈ s.live → id ∉ s.rel) : Calls Try.prog 17 #[rvX x s, .agg #[.int .i64 k, .int .u32 id]] w fun e w' => ∃ y, e = .returned (.tuple #[rvX y (doS s k id), .int .u32 (doV s k id), .int .i64 (doE s k id)]) ∧ SL w0 w' [refX y (doS s k id), R] := by
  have HS := Aside0.mk (sl_box (sl_box (sl_box hs (rcX x s) 35) #[.int .i64 k, .int .u32 id] 39) rc0 35)
  simp only [World.size_alloc] at HS
  have HO := Aside0.mk ho
  have HU := Aside0.mk (And.intro h0 h1)
  have HDj := Aside0.mk hd
  clear hs ho hd
  unfold doS doV doE
  by_cases k0 : k = 0
  · rw [if_pos k0, if_pos k0, if_pos k0]
    have z0 : (k == 0) = true := beq_iff_eq.2 k0
    obtain ⟨V, hV⟩ : ∃ z, allV s = z := ⟨_, rfl⟩
    obtain ⟨E, hE⟩ : ∃ z, allE s = z := ⟨_, rfl⟩
    obtain ⟨S, hS⟩ : ∃ z, allS s = z := ⟨_, rfl⟩
    rw [hV, hE, hS]
    have HE := Aside0.mk (And.intro hV (And.intro hE hS))
    clear hV hE hS k0
    go_enter Try.func17, Try.ntmps17
    go_wp2_with (first
      | (go_at_call 26; refine (rAll_e (by repeat (with_reducible first | exact HS.out | apply sl_drewN | apply sl_drew | apply sl_box | apply sl_alloc)) 0 (by rfl) HO.out HE.out.1 HE.out.2.1 HE.out.2.2).mono ?_; rintro e w1 ⟨y, rfl, hs⟩; (try simp only [World.size_alloc] at hs); replace HS := Aside0.mk hs; clear hs; (try clear a0 a1 a2 a3 fa0 fa1 fa2 fa3 la); (try (have a0 := c_at HS.out 2 rfl 0 rfl; have a1 := c_at HS.out 2 rfl 1 rfl; have a2 := c_at HS.out 2 rfl 2 rfl; have a3 := c_at HS.out 2 rfl 3 rfl; have fa0 := f_at HS.out 2 rfl 0; have fa1 := f_at HS.out 2 rfl 1; have fa2 := f_at HS.out 2 rfl 2; have fa3 := f_at HS.out 2 rfl 3; have la := blk_lt (sl_blk HS.out 2 rfl))); (try clear o0 o1 lo); (try (have o0 := c_at HS.out 3 rfl 0 rfl; have o1 := c_at HS.out 3 rfl 1 rfl; have lo := blk_lt (sl_blk HS.out 3 rfl))))
      | (refine wpList_store_row rfl 35 _ _ rfl _ (rcX y S) rfl rfl 35 (rc0) (sl_blk HS.out 4 rfl) (by kernel_rfl) rfl (by simp [Value.oneCell']) ?_; have hs := sl_row HS.out 4 rfl (rcX y S); (try simp only [World.size_alloc] at hs); replace HS := Aside0.mk hs; clear hs))
    try rw [Exit.noGoto_ret]
    refine bodyPost_ret (results_list (rs := [.cell 4 35, .tmp 5, .tmp 6]) rfl (by simp) (.cell _ 35 (rcX y S) (0, 0) _ rfl (sl_blk HS.out 4 rfl) Try.underlying35 rfl (by kernel_rfl) (.tmp (.tmp .nil)))) rfl ?_
    first | exact ⟨y, rfl, sl_take HS.out 2⟩ | exact ⟨y.1, y.2.1, y.2.2.1, y.2.2.2, rfl, sl_take HS.out 2⟩
  have z0 : (k == 0) = false := beq_eq_false_iff_ne.2 k0
  rw [if_neg k0, if_neg k0, if_neg k0]
  by_cases k1 : k = 1
  · rw [if_pos k1, if_pos k1]
    have z1 : (k == 1) = true := beq_iff_eq.2 k1
    obtain ⟨E, hE⟩ : ∃ z, takeE s id = z := ⟨_, rfl⟩
    obtain ⟨S, hS⟩ : ∃ z, takeS s id = z := ⟨_, rfl⟩
    rw [hE, hS]
    have HE := Aside0.mk (And.intro hE hS)
    clear hE hS k0 k1
    go_enter Try.func17, Try.ntmps17
    go_wp2_with (first
      | (go_at_call 27; refine (rTake_e (by repeat (with_reducible first | exact HS.out | apply sl_drewN | apply sl_drew | apply sl_box | apply sl_alloc)) 0 (by rfl) id HU.out.1 HU.out.2 HO.out HE.out.1 HE.out.2).mono ?_; rintro e w1 ⟨y, rfl, hs⟩; (try simp only [World.size_alloc] at hs); replace HS := Aside0.mk hs; clear hs; (try clear a0 a1 a2 a3 fa0 fa1 fa2 fa3 la); (try (have a0 := c_at HS.out 2 rfl 0 rfl; have a1 := c_at HS.out 2 rfl 1 rfl; have a2 := c_at HS.out 2 rfl 2 rfl; have a3 := c_at HS.out 2 rfl 3 rfl; have fa0 := f_at HS.out 2 rfl 0; have fa1 := f_at HS.out 2 rfl 1; have fa2 := f_at HS.out 2 rfl 2; have fa3 := f_at HS.out 2 rfl 3; have la := blk_lt (sl_blk HS.out 2 rfl))); (try clear o0 o1 lo); (try (have o0 := c_at HS.out 3 rfl 0 rfl; have o1 := c_at HS.out 3 rfl 1 rfl; have lo := blk_lt (sl_blk HS.out 3 rfl))))
      | (refine wpList_store_row rfl 35 _ _ rfl _ (rcX y S) rfl rfl 35 (rcX x s) (sl_blk HS.out 2 rfl) (by kernel_rfl) rfl (by simp [Value.oneCell']) ?_; have hs := sl_row HS.out 2 rfl (rcX y S); (try simp only [World.size_alloc] at hs); replace HS := Aside0.mk hs; clear hs))
    refine start_ (n := 7) (S := fun w' => w'.cell? ⟨w.heap.size, 0, none⟩ = some (.bool S.srv) ∧ w'.cell? ⟨w.heap.size, 1, none⟩ = some (.int .i64 S.lar) ∧ w'.cell? ⟨w.heap.size, 2, none⟩ = some (.slice y.1 S.live.length y.2.1) ∧ w'.cell? ⟨w.heap.size, 3, none⟩ = some (.slice y.2.2.1 S.rel.length y.2.2.2) ∧ w'.cell? ⟨w.heap.size + 1, 1, none⟩ = some (.int .u32 id)) (ds := []) #[false, false, false, false, false, false, false] (by kernel_rfl) rfl rfl ⟨(c_at (sl_drew HS.out) 2 rfl 0 rfl), (c_at (sl_drew HS.out) 2 rfl 1 rfl), (c_at (sl_drew HS.out) 2 rfl 2 rfl), (c_at (sl_drew HS.out) 2 rfl 3 rfl), (c_at (sl_drew HS.out) 3 rfl 1 rfl)⟩ (fun hHeld => ?_)
    refine pure_ (i := 1) (N := some 43) (v := ?_) (a' := ?_) #[false, true, false, false, false, false, false] rfl rfl (by kernel_rfl) (fun _ _ _ h => h) (Or.inl ⟨by rfl, ?_⟩) ?_ ?_
    rotate_left
    · intro w'
      go_simp
      with_reducible rfl
    rotate_left
    · simp only [Act.put, List.setIfInBounds_toArray, List.set_cons_zero, List.set_cons_succ, i64_w, i32_w, IntKind.wrap_u32, IntKind.wrap_u8, IntKind.wrap_u16]
      rfl
    refine pure_ (i := 3) (N := some 45) (v := ?_) (a' := ?_) #[false, true, false, true, false, false, false] rfl rfl (by kernel_rfl) (fun _ _ _ h => h) (Or.inl ⟨by rfl, ?_⟩) ?_ ?_
    rotate_left
    · intro w'
      go_simp
      with_reducible rfl
    rotate_left
    · simp only [Act.put, List.setIfInBounds_toArray, List.set_cons_zero, List.set_cons_succ, i64_w, i32_w, IntKind.wrap_u32, IntKind.wrap_u8, IntKind.wrap_u16]
      rfl
    refine take_ (i := 0) (N := some 42) (v := ?_) (a' := ?_) #[true, true, false, true, false, false, false] rfl rfl (by kernel_rfl) (fun _ _ _ h => h) (Or.inl ⟨by rfl, ?_⟩) hHeld ?_ ?_
    rotate_left
    · rintro w' ⟨s0, s1, s2, s3, s4⟩
      go_simp
      with_reducible rfl
    rotate_left
    · simp only [Act.put, List.setIfInBounds_toArray, List.set_cons_zero, List.set_cons_succ, i64_w, i32_w, IntKind.wrap_u32, IntKind.wrap_u8, IntKind.wrap_u16]
      rfl
    refine take_ (i := 2) (N := some 44) (v := ?_) (a' := ?_) #[true, true, true, true, false, false, false] rfl rfl (by kernel_rfl) (fun _ _ _ h => h) (Or.inl ⟨by rfl, ?_⟩) hHeld ?_ ?_
    rotate_left
    · rintro w' ⟨s0, s1, s2, s3, s4⟩
      go_simp
      with_reducible rfl
    rotate_left
    · simp only [Act.put, List.setIfInBounds_toArray, List.set_cons_zero, List.set_cons_succ, i64_w, i32_w, IntKind.wrap_u32, IntKind.wrap_u8, IntKind.wrap_u16]
      rfl
    refine one_ (i := 4) (N := none) #[true, true, true, true, true, false, false] rfl rfl (by kernel_rfl) (by decide) (fun K hK => ?_)
    rw [if_pos (by rfl)]
    refine wp_store_row 35 _ _ rfl (w.heap.size + 1 + 1) (rcX y S) rfl rfl 35 rc0 (sl_blk (sl_drew HS.out) 4 rfl) (by kernel_rfl) rfl (by simp [Value.oneCell']) ?_
    refine hK.out _ _ ⟨cell_row (show w.heap.size ≠ w.heap.size + 1 + 1 by omega) _ (c_at (sl_drew HS.out) 2 rfl 0 rfl), cell_row (show w.heap.size ≠ w.heap.size + 1 + 1 by omega) _ (c_at (sl_drew HS.out) 2 rfl 1 rfl), cell_row (show w.heap.size ≠ w.heap.size + 1 + 1 by omega) _ (c_at (sl_drew HS.out) 2 rfl 2 rfl), cell_row (show w.heap.size ≠ w.heap.size + 1 + 1 by omega) _ (c_at (sl_drew HS.out) 2 rfl 3 rfl), cell_row (show w.heap.size + 1 ≠ w.heap.size + 1 + 1 by omega) _ (c_at (sl_drew HS.out) 3 rfl 1 rfl)⟩ (fun hHeld => ?_)
    clear hK K
    refine pure_ (i := 5) (N := some 5) (v := ?_) (a' := ?_) #[true, true, true, true, true, true, false] rfl rfl (by kernel_rfl) (fun _ _ _ h => h) (Or.inl ⟨by rfl, ?_⟩) ?_ ?_
    rotate_left
    · intro w'
      go_simp
      with_reducible rfl
    rotate_left
    · simp only [Act.put, List.setIfInBounds_toArray, List.set_cons_zero, List.set_cons_succ, i64_w, i32_w, IntKind.wrap_u32, IntKind.wrap_u8, IntKind.wrap_u16]
      rfl
    refine pure_ (i := 6) (N := some 6) (v := ?_) (a' := ?_) #[true, true, true, true, true, true, true] rfl rfl (by kernel_rfl) (fun _ _ _ h => h) (Or.inl ⟨by rfl, ?_⟩) ?_ ?_
    rotate_left
    · intro w'
      go_simp
      with_reducible rfl
    rotate_left
    · simp only [Act.put, List.setIfInBounds_toArray, List.set_cons_zero, List.set_cons_succ, i64_w, i32_w, IntKind.wrap_u32, IntKind.wrap_u8, IntKind.wrap_u16]
      rfl
    refine done_ (by kernel_rfl) ?_
    have hs := sl_row (sl_drew HS.out) 4 rfl (rcX y S)
    replace HS := Aside0.mk hs
    clear hs
    go_wp2_with (fail)
    try rw [Exit.noGoto_ret]
    refine bodyPost_ret (results_list (rs := [.cell 4 35, .tmp 5, .tmp 6]) rfl (by simp) (.cell _ 35 (rcX y S) (0, 0) _ rfl (sl_blk HS.out 4 rfl) Try.underlying35 rfl (by kernel_rfl) (.tmp (.tmp .nil)))) rfl ?_
    first | exact ⟨y, rfl, sl_take HS.out 2⟩ | exact ⟨y.1, y.2.1, y.2.2.1, y.2.2.2, rfl, sl_take HS.out 2⟩
  have z1 : (k == 1) = false := beq_eq_false_iff_ne.2 k1
  rw [if_neg k1, if_neg k1]
  by_cases k2 : k = 2
  · rw [if_pos k2, if_pos k2]
    have z2 : (k == 2) = true := beq_iff_eq.2 k2
    obtain ⟨E, hE⟩ : ∃ z, relE s id = z := ⟨_, rfl⟩
    obtain ⟨S, hS⟩ : ∃ z, relS s id = z := ⟨_, rfl⟩
    rw [hE, hS]
    have HE := Aside0.mk (And.intro hE hS)
    clear hE hS k0 k1 k2
    go_enter Try.func17, Try.ntmps17
    go_wp2_with (first
      | (go_at_call 28; refine (rRel_e (by repeat (with_reducible first | exact HS.out | apply sl_drewN | apply sl_drew | apply sl_box | apply sl_alloc)) 0 (by rfl) id HO.out HDj.out HE.out.1 HE.out.2).mono ?_; rintro e w1 ⟨y, rfl, hs⟩; (try simp only [World.size_alloc] at hs); replace HS := Aside0.mk hs; clear hs; (try clear a0 a1 a2 a3 fa0 fa1 fa2 fa3 la); (try (have a0 := c_at HS.out 2 rfl 0 rfl; have a1 := c_at HS.out 2 rfl 1 rfl; have a2 := c_at HS.out 2 rfl 2 rfl; have a3 := c_at HS.out 2 rfl 3 rfl; have fa0 := f_at HS.out 2 rfl 0; have fa1 := f_at HS.out 2 rfl 1; have fa2 := f_at HS.out 2 rfl 2; have fa3 := f_at HS.out 2 rfl 3; have la := blk_lt (sl_blk HS.out 2 rfl))); (try clear o0 o1 lo); (try (have o0 := c_at HS.out 3 rfl 0 rfl; have o1 := c_at HS.out 3 rfl 1 rfl; have lo := blk_lt (sl_blk HS.out 3 rfl))))
      | (refine wpList_store_row rfl 35 _ _ rfl _ (rcX y S) rfl rfl 35 (rcX x s) (sl_blk HS.out 2 rfl) (by kernel_rfl) rfl (by simp [Value.oneCell']) ?_; have hs := sl_row HS.out 2 rfl (rcX y S); (try simp only [World.size_alloc] at hs); replace HS := Aside0.mk hs; clear hs))
    refine start_ (n := 7) (S := fun w' => w'.cell? ⟨w.heap.size, 0, none⟩ = some (.bool S.srv) ∧ w'.cell? ⟨w.heap.size, 1, none⟩ = some (.int .i64 S.lar) ∧ w'.cell? ⟨w.heap.size, 2, none⟩ = some (.slice y.1 S.live.length y.2.1) ∧ w'.cell? ⟨w.heap.size, 3, none⟩ = some (.slice y.2.2.1 S.rel.length y.2.2.2) ∧ w'.cell? ⟨w.heap.size + 1, 1, none⟩ = some (.int .u32 id)) (ds := []) #[false, false, false, false, false, false, false] (by kernel_rfl) rfl rfl ⟨(c_at (sl_drew HS.out) 2 rfl 0 rfl), (c_at (sl_drew HS.out) 2 rfl 1 rfl), (c_at (sl_drew HS.out) 2 rfl 2 rfl), (c_at (sl_drew HS.out) 2 rfl 3 rfl), (c_at (sl_drew HS.out) 3 rfl 1 rfl)⟩ (fun hHeld => ?_)
    refine pure_ (i := 1) (N := some 43) (v := ?_) (a' := ?_) #[false, true, false, false, false, false, false] rfl rfl (by kernel_rfl) (fun _ _ _ h => h) (Or.inl ⟨by rfl, ?_⟩) ?_ ?_
    rotate_left
    · intro w'
      go_simp
      with_reducible rfl
    rotate_left
    · simp only [Act.put, List.setIfInBounds_toArray, List.set_cons_zero, List.set_cons_succ, i64_w, i32_w, IntKind.wrap_u32, IntKind.wrap_u8, IntKind.wrap_u16]
      rfl
    refine pure_ (i := 3) (N := some 45) (v := ?_) (a' := ?_) #[false, true, false, true, false, false, false] rfl rfl (by kernel_rfl) (fun _ _ _ h => h) (Or.inl ⟨by rfl, ?_⟩) ?_ ?_
    rotate_left
    · intro w'
      go_simp
      with_reducible rfl
    rotate_left
    · simp only [Act.put, List.setIfInBounds_toArray, List.set_cons_zero, List.set_cons_succ, i64_w, i32_w, IntKind.wrap_u32, IntKind.wrap_u8, IntKind.wrap_u16]
      rfl
    refine take_ (i := 0) (N := some 42) (v := ?_) (a' := ?_) #[true, true, false, true, false, false, false] rfl rfl (by kernel_rfl) (fun _ _ _ h => h) (Or.inl ⟨by rfl, ?_⟩) hHeld ?_ ?_
    rotate_left
    · rintro w' ⟨s0, s1, s2, s3, s4⟩
      go_simp
      with_reducible rfl
    rotate_left
    · simp only [Act.put, List.setIfInBounds_toArray, List.set_cons_zero, List.set_cons_succ, i64_w, i32_w, IntKind.wrap_u32, IntKind.wrap_u8, IntKind.wrap_u16]
      rfl
    refine take_ (i := 2) (N := some 44) (v := ?_) (a' := ?_) #[true, true, true, true, false, false, false] rfl rfl (by kernel_rfl) (fun _ _ _ h => h) (Or.inl ⟨by rfl, ?_⟩) hHeld ?_ ?_
    rotate_left
    · rintro w' ⟨s0, s1, s2, s3, s4⟩
      go_simp
      with_reducible rfl
    rotate_left
    · simp only [Act.put, List.setIfInBounds_toArray, List.set_cons_zero, List.set_cons_succ, i64_w, i32_w, IntKind.wrap_u32, IntKind.wrap_u8, IntKind.wrap_u16]
      rfl
    refine one_ (i := 4) (N := none) #[true, true, true, true, true, false, false] rfl rfl (by kernel_rfl) (by decide) (fun K hK => ?_)
    rw [if_pos (by rfl)]
    refine wp_store_row 35 _ _ rfl (w.heap.size + 1 + 1) (rcX y S) rfl rfl 35 rc0 (sl_blk (sl_drew HS.out) 4 rfl) (by kernel_rfl) rfl (by simp [Value.oneCell']) ?_
    refine hK.out _ _ ⟨cell_row (show w.heap.size ≠ w.heap.size + 1 + 1 by omega) _ (c_at (sl_drew HS.out) 2 rfl 0 rfl), cell_row (show w.heap.size ≠ w.heap.size + 1 + 1 by omega) _ (c_at (sl_drew HS.out) 2 rfl 1 rfl), cell_row (show w.heap.size ≠ w.heap.size + 1 + 1 by omega) _ (c_at (sl_drew HS.out) 2 rfl 2 rfl), cell_row (show w.heap.size ≠ w.heap.size + 1 + 1 by omega) _ (c_at (sl_drew HS.out) 2 rfl 3 rfl), cell_row (show w.heap.size + 1 ≠ w.heap.size + 1 + 1 by omega) _ (c_at (sl_drew HS.out) 3 rfl 1 rfl)⟩ (fun hHeld => ?_)
    clear hK K
    refine pure_ (i := 5) (N := some 5) (v := ?_) (a' := ?_) #[true, true, true, true, true, true, false] rfl rfl (by kernel_rfl) (fun _ _ _ h => h) (Or.inl ⟨by rfl, ?_⟩) ?_ ?_
    rotate_left
    · intro w'
      go_simp
      with_reducible rfl
    rotate_left
    · simp only [Act.put, List.setIfInBounds_toArray, List.set_cons_zero, List.set_cons_succ, i64_w, i32_w, IntKind.wrap_u32, IntKind.wrap_u8, IntKind.wrap_u16]
      rfl
    refine pure_ (i := 6) (N := some 6) (v := ?_) (a' := ?_) #[true, true, true, true, true, true, true] rfl rfl (by kernel_rfl) (fun _ _ _ h => h) (Or.inl ⟨by rfl, ?_⟩) ?_ ?_
    rotate_left
    · intro w'
      go_simp
      with_reducible rfl
    rotate_left
    · simp only [Act.put, List.setIfInBounds_toArray, List.set_cons_zero, List.set_cons_succ, i64_w, i32_w, IntKind.wrap_u32, IntKind.wrap_u8, IntKind.wrap_u16]
      rfl
    refine done_ (by kernel_rfl) ?_
    have hs := sl_row (sl_drew HS.out) 4 rfl (rcX y S)
    replace HS := Aside0.mk hs
    clear hs
    go_wp2_with (fail)
    try rw [Exit.noGoto_ret]
    refine bodyPost_ret (results_list (rs := [.cell 4 35, .tmp 5, .tmp 6]) rfl (by simp) (.cell _ 35 (rcX y S) (0, 0) _ rfl (sl_blk HS.out 4 rfl) Try.underlying35 rfl (by kernel_rfl) (.tmp (.tmp .nil)))) rfl ?_
    first | exact ⟨y, rfl, sl_take HS.out 2⟩ | exact ⟨y.1, y.2.1, y.2.2.1, y.2.2.2, rfl, sl_take HS.out 2⟩
  · have z2 : (k == 2) = false := beq_eq_false_iff_ne.2 k2
    rw [if_neg k2, if_neg k2]
    obtain ⟨E, hE⟩ : ∃ z, conE s id = z := ⟨_, rfl⟩
    obtain ⟨S, hS⟩ : ∃ z, conS s id = z := ⟨_, rfl⟩
    rw [hE, hS]
    have HE := Aside0.mk (And.intro hE hS)
    clear hE hS k0 k1 k2
    go_enter Try.func17, Try.ntmps17
    go_wp2_with (first
      | (go_at_call 29; refine (rCon_e (by repeat (with_reducible first | exact HS.out | apply sl_drewN | apply sl_drew | apply sl_box | apply sl_alloc)) 0 (by rfl) id HO.out HE.out.1 HE.out.2).mono ?_; rintro e w1 ⟨y, rfl, hs⟩; (try simp only [World.size_alloc] at hs); replace HS := Aside0.mk hs; clear hs; (try clear a0 a1 a2 a3 fa0 fa1 fa2 fa3 la); (try (have a0 := c_at HS.out 2 rfl 0 rfl; have a1 := c_at HS.out 2 rfl 1 rfl; have a2 := c_at HS.out 2 rfl 2 rfl; have a3 := c_at HS.out 2 rfl 3 rfl; have fa0 := f_at HS.out 2 rfl 0; have fa1 := f_at HS.out 2 rfl 1; have fa2 := f_at HS.out 2 rfl 2; have fa3 := f_at HS.out 2 rfl 3; have la := blk_lt (sl_blk HS.out 2 rfl))); (try clear o0 o1 lo); (try (have o0 := c_at HS.out 3 rfl 0 rfl; have o1 := c_at HS.out 3 rfl 1 rfl; have lo := blk_lt (sl_blk HS.out 3 rfl))))
      | (refine wpList_store_row rfl 35 _ _ rfl _ (rcX y S) rfl rfl 35 (rcX x s) (sl_blk HS.out 2 rfl) (by kernel_rfl) rfl (by simp [Value.oneCell']) ?_; have hs := sl_row HS.out 2 rfl (rcX y S); (try simp only [World.size_alloc] at hs); replace HS := Aside0.mk hs; clear hs))
    refine start_ (n := 7) (S := fun w' => w'.cell? ⟨w.heap.size, 0, none⟩ = some (.bool S.srv) ∧ w'.cell? ⟨w.heap.size, 1, none⟩ = some (.int .i64 S.lar) ∧ w'.cell? ⟨w.heap.size, 2, none⟩ = some (.slice y.1 S.live.length y.2.1) ∧ w'.cell? ⟨w.heap.size, 3, none⟩ = some (.slice y.2.2.1 S.rel.length y.2.2.2) ∧ w'.cell? ⟨w.heap.size + 1, 1, none⟩ = some (.int .u32 id)) (ds := []) #[false, false, false, false, false, false, false] (by kernel_rfl) rfl rfl ⟨(c_at (sl_drew HS.out) 2 rfl 0 rfl), (c_at (sl_drew HS.out) 2 rfl 1 rfl), (c_at (sl_drew HS.out) 2 rfl 2 rfl), (c_at (sl_drew HS.out) 2 rfl 3 rfl), (c_at (sl_drew HS.out) 3 rfl 1 rfl)⟩ (fun hHeld => ?_)
    refine pure_ (i := 1) (N := some 43) (v := ?_) (a' := ?_) #[false, true, false, false, false, false, false] rfl rfl (by kernel_rfl) (fun _ _ _ h => h) (Or.inl ⟨by rfl, ?_⟩) ?_ ?_
    rotate_left
    · intro w'
      go_simp
      with_reducible rfl
    rotate_left
    · simp only [Act.put, List.setIfInBounds_toArray, List.set_cons_zero, List.set_cons_succ, i64_w, i32_w, IntKind.wrap_u32, IntKind.wrap_u8, IntKind.wrap_u16]
      rfl
    refine pure_ (i := 3) (N := some 45) (v := ?_) (a' := ?_) #[false, true, false, true, false, false, false] rfl rfl (by kernel_rfl) (fun _ _ _ h => h) (Or.inl ⟨by rfl, ?_⟩) ?_ ?_
    rotate_left
    · intro w'
      go_simp
      with_reducible rfl
    rotate_left
    · simp only [Act.put, List.setIfInBounds_toArray, List.set_cons_zero, List.set_cons_succ, i64_w, i32_w, IntKind.wrap_u32, IntKind.wrap_u8, IntKind.wrap_u16]
      rfl
    refine take_ (i := 0) (N := some 42) (v := ?_) (a' := ?_) #[true, true, false, true, false, false, false] rfl rfl (by kernel_rfl) (fun _ _ _ h => h) (Or.inl ⟨by rfl, ?_⟩) hHeld ?_ ?_
    rotate_left
    · rintro w' ⟨s0, s1, s2, s3, s4⟩
      go_simp
      with_reducible rfl
    rotate_left
    · simp only [Act.put, List.setIfInBounds_toArray, List.set_cons_zero, List.set_cons_succ, i64_w, i32_w, IntKind.wrap_u32, IntKind.wrap_u8, IntKind.wrap_u16]
      rfl
    refine take_ (i := 2) (N := some 44) (v := ?_) (a' := ?_) #[true, true, true, true, false, false, false] rfl rfl (by kernel_rfl) (fun _ _ _ h => h) (Or.inl ⟨by rfl, ?_⟩) hHeld ?_ ?_
    rotate_left
    · rintro w' ⟨s0, s1, s2, s3, s4⟩
      go_simp
      with_reducible rfl
    rotate_left
    · simp only [Act.put, List.setIfInBounds_toArray, List.set_cons_zero, List.set_cons_succ, i64_w, i32_w, IntKind.wrap_u32, IntKind.wrap_u8, IntKind.wrap_u16]
      rfl
    refine one_ (i := 4) (N := none) #[true, true, true, true, true, false, false] rfl rfl (by kernel_rfl) (by decide) (fun K hK => ?_)
    rw [if_pos (by rfl)]
    refine wp_store_row 35 _ _ rfl (w.heap.size + 1 + 1) (rcX y S) rfl rfl 35 rc0 (sl_blk (sl_drew HS.out) 4 rfl) (by kernel_rfl) rfl (by simp [Value.oneCell']) ?_
    refine hK.out _ _ ⟨cell_row (show w.heap.size ≠ w.heap.size + 1 + 1 by omega) _ (c_at (sl_drew HS.out) 2 rfl 0 rfl), cell_row (show w.heap.size ≠ w.heap.size + 1 + 1 by omega) _ (c_at (sl_drew HS.out) 2 rfl 1 rfl), cell_row (show w.heap.size ≠ w.heap.size + 1 + 1 by omega) _ (c_at (sl_drew HS.out) 2 rfl 2 rfl), cell_row (show w.heap.size ≠ w.heap.size + 1 + 1 by omega) _ (c_at (sl_drew HS.out) 2 rfl 3 rfl), cell_row (show w.heap.size + 1 ≠ w.heap.size + 1 + 1 by omega) _ (c_at (sl_drew HS.out) 3 rfl 1 rfl)⟩ (fun hHeld => ?_)
    clear hK K
    refine pure_ (i := 5) (N := some 5) (v := ?_) (a' := ?_) #[true, true, true, true, true, true, false] rfl rfl (by kernel_rfl) (fun _ _ _ h => h) (Or.inl ⟨by rfl, ?_⟩) ?_ ?_
    rotate_left
    · intro w'
      go_simp
      with_reducible rfl
    rotate_left
    · simp only [Act.put, List.setIfInBounds_toArray, List.set_cons_zero, List.set_cons_succ, i64_w, i32_w, IntKind.wrap_u32, IntKind.wrap_u8, IntKind.wrap_u16]
      rfl
    refine pure_ (i := 6) (N := some 6) (v := ?_) (a' := ?_) #[true, true, true, true, true, true, true] rfl rfl (by kernel_rfl) (fun _ _ _ h => h) (Or.inl ⟨by rfl, ?_⟩) ?_ ?_
    rotate_left
    · intro w'
      go_simp
      with_reducible rfl
    rotate_left
    · simp only [Act.put, List.setIfInBounds_toArray, List.set_cons_zero, List.set_cons_succ, i64_w, i32_w, IntKind.wrap_u32, IntKind.wrap_u8, IntKind.wrap_u16]
      rfl
    refine done_ (by kernel_rfl) ?_
    have hs := sl_row (sl_drew HS.out) 4 rfl (rcX y S)
    replace HS := Aside0.mk hs
    clear hs
    go_wp2_with (fail)
    try rw [Exit.noGoto_ret]
    refine bodyPost_ret (results_list (rs := [.cell 4 35, .tmp 5, .tmp 6]) rfl (by simp) (.cell _ 35 (rcX y S) (0, 0) _ rfl (sl_blk HS.out 4 rfl) Try.underlying35 rfl (by kernel_rfl) (.tmp (.tmp .nil)))) rfl ?_
    first | exact ⟨y, rfl, sl_take HS.out 2⟩ | exact ⟨y.1, y.2.1, y.2.2.1, y.2.2.2, rfl, sl_take HS.out 2⟩
theorem rstep_e {w0 w : World} {L : List Res} {x : XS} {s S : TSt} {k id V E : Int} (h : SL w0 w L) (i : Nat) (hi : L[i]? = some (refX x s)) (h0 : 0 ≤ id) (h1 : id < 4294967296) (ho : TOk s) (hd : id ∈ s.live → id ∉ s.rel) (hV : doV s k id = V) (hE : doE s k id = E) (hS : doS s k id = S) : Calls Try.prog 17 #[rvX x s, .agg #[.int .i64 k, .int .u32 id]] w fun e w' => ∃ y, e = .returned (.tuple #[rvX y S, .int .u32 V, .int .i64 E]) ∧ SL w0 w' (L.set i (refX y S)) := by
  subst hV; subst hE; subst hS
  exact liftX (ret := fun y => .returned (.tuple #[rvX y (doS s k id), .int .u32 (doV s k id), .int .i64 (doE s k id)])) (B := fun y => refX y (doS s k id)) h i hi fun h => rstep_in x s k id h h0 h1 ho hd
end Go.Proofs.Ytegkkomlpgappaa.Q
