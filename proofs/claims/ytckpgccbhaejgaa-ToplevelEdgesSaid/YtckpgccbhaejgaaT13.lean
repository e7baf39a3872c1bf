import Derived.Test.YtckpgccbhaejgaaT11
namespace Go.Proofs.Ytckpgccbhaejgaa.Q
open Go.RowKit Go.Proofs.YtckpgccbhaejgaaW.PrintWords Go.Proofs.YtckpgccbhaejgaaW.PrintLast Go.Proofs.YtckpgccbhaejgaaW.PrintMore Go.Proofs.Ytckpgccbhaejgaa.Sl Go.Proofs.Ytckpgccbhaejgaa.Hand 
attribute [local go_sem] max2_int min2_int max_two min_two max_three min_three max_four min_four 
set_option linter.unusedVariables false
set_option linter.unusedSimpArgs false

theorem limI_0 (n : Int) (h : 0 ≤ n) : limI 0 0 n = n := by
  unfold limI
  rw [if_neg (by omega), if_neg (by omega)]
def edS1 (gx gy : Int) : WSt := { wz with gx := gx, gy := gy, fx := gx, fy := gy }
def edS2 (gx gy : Int) : WSt := { edS1 gx gy with sx := gx, sy := gy, b := ⟨false, false, true, false⟩ }
theorem ed_facts (k gx gy sx sy : Int) (h1 : 1 ≤ gx) (h2 : gx ≤ 16384) (h3 : 1 ≤ gy) (h4 : gy ≤ 16384) {E1 E2 A B : Int} (hE1 : (if edgeB k = true then 14 else 2) = E1) (hE2 : (if edgeB k = true then (if valB 1 sx sy = true then 0 else 6) else 2) = E2) (hA : (if E2 = 0 then (if edX k = true then sx else gx) else 0) = A) (hB : (if E2 = 0 then (if edY k = true then sy else gy) else 0) = B) :
    ∃ S0 S1 S2 S3, wz = S0 ∧ (rszA S0 k sx sy = 0 ∧ rszB S0 k sx sy = 0 ∧ rszE S0 k sx sy = E1 ∧ rszS S0 k sx sy = S0) ∧ (accE S0 gx gy = 0 ∧ accS S0 gx gy = S1) ∧ (rqV S1 4 true 0 0 0 0 = .tuple #[.int .i64 gx, .int .i64 gy, .int .i64 4, .int .i64 0] ∧ rqS S1 4 true 0 0 0 0 = S2) ∧ (rszA S2 k sx sy = A ∧ rszB S2 k sx sy = B ∧ rszE S2 k sx sy = E2 ∧ rszS S2 k sx sy = S3) := by
  have l1 := limI_0 gx (by omega)
  have l2 := limI_0 gy (by omega)
  have v1 : valB 1 gx gy = true := by unfold valB; rw [decide_eq_true h1, decide_eq_true h2, decide_eq_true h3, decide_eq_true h4]; rfl
  have hr : rszE wz k sx sy = E1 := by
    rw [← hE1]
    unfold rszE
    by_cases hk : edgeB k = true
    · rw [if_pos hk, if_pos hk, if_neg (fun h => by cases h.1)]
    · rw [if_neg hk, if_neg hk]
  have hn : E1 ≠ 0 := by
    rw [← hE1]
    by_cases hk : edgeB k = true
    · rw [if_pos hk]; decide
    · rw [if_neg hk]; decide
  have ha : accE wz gx gy = 0 := by
    unfold accE
    rw [if_pos v1, if_neg (show ¬ (wz.b.a || wz.b.b) = true by decide)]
    rw [if_pos]
    show (gx == limI 0 0 gx && (gy == limI 0 0 gy)) = true
    rw [l1, l2]
    simp
  have hr2 : rszE (edS2 gx gy) k sx sy = E2 := by
    rw [← hE2]
    unfold rszE
    by_cases hk : edgeB k = true
    · rw [if_pos hk, if_pos hk, if_pos (show (edS2 gx gy).b.c = true ∧ (edS2 gx gy).b.a = false ∧ (edS2 gx gy).b.b = false from ⟨rfl, rfl, rfl⟩)]
    · rw [if_neg hk, if_neg hk]
  have hq : rqE (edS1 gx gy) 4 true (emptyB 0 0 0 0) = 0 := rfl
  refine ⟨wz, edS1 gx gy, edS2 gx gy, _, rfl, ⟨?_, ?_, hr, ?_⟩, ⟨ha, ?_⟩, ⟨?_, ?_⟩, ⟨?_, ?_, hr2, rfl⟩⟩
  · unfold rszA; rw [hr, if_neg hn]
  · unfold rszB; rw [hr, if_neg hn]
  · unfold rszS; rw [hr, if_neg hn]
  · unfold accS; rw [ha]; rfl
  · unfold rqV
    rw [if_pos hq]
    unfold rqX rqY
    rw [if_neg (show ¬ rqC (edS1 gx gy) 4 true = true by intro h; cases h), if_neg (show ¬ rqC (edS1 gx gy) 4 true = true by intro h; cases h)]
    show Value.tuple #[.int .i64 (limI 0 0 gx), .int .i64 (limI 0 0 gy), _, _] = _
    rw [l1, l2]
    rfl
  · unfold rqS
    rw [if_pos hq]
    unfold rqX rqY
    rw [if_neg (show ¬ rqC (edS1 gx gy) 4 true = true by intro h; cases h), if_neg (show ¬ rqC (edS1 gx gy) 4 true = true by intro h; cases h)]
    show WSt.mk _ _ _ _ _ _ _ _ (limI 0 0 gx) (limI 0 0 gy) _ = _
    rw [l1, l2]
    rfl
  · rw [← hA]
    unfold rszA
    rw [hr2]
    by_cases he : E2 = 0
    · rw [if_pos he, if_pos he]
      have hv : valB 1 sx sy = true := by
        by_cases hk : edgeB k = true
        · rw [if_pos hk] at hE2
          by_cases hv : valB 1 sx sy = true
          · exact hv
          · rw [if_neg hv] at hE2; omega
        · rw [if_neg hk] at hE2; omega
      unfold valB at hv
      simp only [Bool.and_eq_true, decide_eq_true_eq] at hv
      unfold rszX
      show limI 0 0 (if edX k = true then sx else gx) = _
      by_cases hx : edX k = true
      · rw [if_pos hx]; exact limI_0 sx (by omega)
      · rw [if_neg hx]; exact l1
    · rw [if_neg he, if_neg he]
  · rw [← hB]
    unfold rszB
    rw [hr2]
    by_cases he : E2 = 0
    · rw [if_pos he, if_pos he]
      have hv : valB 1 sx sy = true := by
        by_cases hk : edgeB k = true
        · rw [if_pos hk] at hE2
          by_cases hv : valB 1 sx sy = true
          · exact hv
          · rw [if_neg hv] at hE2; omega
        · rw [if_neg hk] at hE2; omega
      unfold valB at hv
      simp only [Bool.and_eq_true, decide_eq_true_eq] at hv
      unfold rszY
      show limI 0 0 (if edY k = true then sy else gy) = _
      by_cases hx : edY k = true
      · rw [if_pos hx]; exact limI_0 sy (by omega)
      · rw [if_neg hx]; exact l2
    · rw [if_neg he, if_neg he]
set_option maxHeartbeats 4000000 in
set_option maxRecDepth 100000 in
theorem out_1 (gx gy k sx sy : Int) (w : World) (h : gx < 1) : Calls Try.prog 3 #[.agg #[.int .i64 gx, .int .i64 gy], .int .i64 k, .agg #[.int .i64 sx, .int .i64 sy]] w fun e w' => e = .returned (.bool true) ∧ Below w.heap.size w w' := by
  have HS := Aside0.mk (sl_box (sl_box (sl_start w) #[.int .i64 gx, .int .i64 gy] 23) #[.int .i64 sx, .int .i64 sy] 23)
  have d1 : decide (gx < 1) = true := decide_eq_true (by omega)
  clear h
  go_enter Try.func3, Try.ntmps3
  go_wp2_with (fail)
  simp only [World.size_alloc] at HS
  refine start_ (n := 6) (S := fun w' => w'.cell? ⟨w.heap.size + 1, 0, none⟩ = some (.int .i64 sx) ∧ w'.cell? ⟨w.heap.size + 1, 1, none⟩ = some (.int .i64 sy)) (ds := []) #[false, false, false, false, false, false] (by kernel_rfl) rfl rfl ⟨(c_at (sl_drew HS.out) 1 rfl 0 rfl), (c_at (sl_drew HS.out) 1 rfl 1 rfl)⟩ (fun hHeld => ?_)
  refine pure_ (i := 0) (N := some 19) (v := ?_) (a' := ?_) #[true, false, false, false, false, false] rfl rfl (by kernel_rfl) (fun _ _ _ h => h) (Or.inl ⟨by rfl, ?_⟩) ?_ ?_
  rotate_left
  · intro w'
    go_simp
    with_reducible rfl
  rotate_left
  · simp only [Act.put, List.setIfInBounds_toArray, List.set_cons_zero, List.set_cons_succ, i64_w, i32_w, IntKind.wrap_u32, IntKind.wrap_u8, IntKind.wrap_u16]
    rfl
  refine pure_ (i := 2) (N := some 21) (v := ?_) (a' := ?_) #[true, false, true, false, false, false] rfl rfl (by kernel_rfl) (fun _ _ _ h => h) (Or.inl ⟨by rfl, ?_⟩) ?_ ?_
  rotate_left
  · intro w'
    go_simp
    with_reducible rfl
  rotate_left
  · simp only [Act.put, List.setIfInBounds_toArray, List.set_cons_zero, List.set_cons_succ, i64_w, i32_w, IntKind.wrap_u32, IntKind.wrap_u8, IntKind.wrap_u16]
    rfl
  refine take_ (i := 1) (N := some 20) (v := ?_) (a' := ?_) #[true, true, true, false, false, false] rfl rfl (by kernel_rfl) (fun _ _ _ h => h) (Or.inl ⟨by rfl, ?_⟩) hHeld ?_ ?_
  rotate_left
  · rintro w' ⟨s0, s1⟩
    go_simp
    with_reducible rfl
  rotate_left
  · simp only [Act.put, List.setIfInBounds_toArray, List.set_cons_zero, List.set_cons_succ, i64_w, i32_w, IntKind.wrap_u32, IntKind.wrap_u8, IntKind.wrap_u16]
    rfl
  refine pure_ (i := 4) (N := some 7) (v := ?_) (a' := ?_) #[true, true, true, false, true, false] rfl rfl (by kernel_rfl) (fun _ _ _ h => h) (Or.inl ⟨by rfl, ?_⟩) ?_ ?_
  rotate_left
  · intro w'
    go_simp
    with_reducible rfl
  rotate_left
  · simp only [Act.put, List.setIfInBounds_toArray, List.set_cons_zero, List.set_cons_succ, i64_w, i32_w, IntKind.wrap_u32, IntKind.wrap_u8, IntKind.wrap_u16]
    rfl
  refine take_ (i := 3) (N := some 22) (v := ?_) (a' := ?_) #[true, true, true, true, true, false] rfl rfl (by kernel_rfl) (fun _ _ _ h => h) (Or.inl ⟨by rfl, ?_⟩) hHeld ?_ ?_
  rotate_left
  · rintro w' ⟨s0, s1⟩
    go_simp
    with_reducible rfl
  rotate_left
  · simp only [Act.put, List.setIfInBounds_toArray, List.set_cons_zero, List.set_cons_succ, i64_w, i32_w, IntKind.wrap_u32, IntKind.wrap_u8, IntKind.wrap_u16]
    rfl
  refine pure_ (i := 5) (N := some 8) (v := ?_) (a' := ?_) #[true, true, true, true, true, true] rfl rfl (by kernel_rfl) (fun _ _ _ h => h) (Or.inl ⟨by rfl, ?_⟩) ?_ ?_
  rotate_left
  · intro w'
    go_simp
    with_reducible rfl
  rotate_left
  · simp only [Act.put, List.setIfInBounds_toArray, List.set_cons_zero, List.set_cons_succ, i64_w, i32_w, IntKind.wrap_u32, IntKind.wrap_u8, IntKind.wrap_u16]
    rfl
  refine done_ (by kernel_rfl) ?_
  go_wp2_with (first
    | (go_at_call 8; refine (ex_c (by repeat (with_reducible first | exact HS.out | apply sl_drewN | apply sl_drew | apply sl_box | apply sl_alloc))).mono ?_; rintro e w1 ⟨rfl, hs⟩; (try simp only [World.size_alloc] at hs); replace HS := Aside0.mk hs; clear hs))
  all_goals
    go_ret
    exact ⟨rfl, sl_below0 HS.out⟩
set_option maxHeartbeats 4000000 in
set_option maxRecDepth 100000 in
theorem out_2 (gx gy k sx sy : Int) (w : World) (h : 16384 < gx) : Calls Try.prog 3 #[.agg #[.int .i64 gx, .int .i64 gy], .int .i64 k, .agg #[.int .i64 sx, .int .i64 sy]] w fun e w' => e = .returned (.bool true) ∧ Below w.heap.size w w' := by
  have HS := Aside0.mk (sl_box (sl_box (sl_start w) #[.int .i64 gx, .int .i64 gy] 23) #[.int .i64 sx, .int .i64 sy] 23)
  have d1 : decide (gx < 1) = false := decide_eq_false (by omega)
  have d2 : decide (16384 < gx) = true := decide_eq_true (by omega)
  clear h
  go_enter Try.func3, Try.ntmps3
  go_wp2_with (fail)
  simp only [World.size_alloc] at HS
  refine start_ (n := 6) (S := fun w' => w'.cell? ⟨w.heap.size + 1, 0, none⟩ = some (.int .i64 sx) ∧ w'.cell? ⟨w.heap.size + 1, 1, none⟩ = some (.int .i64 sy)) (ds := []) #[false, false, false, false, false, false] (by kernel_rfl) rfl rfl ⟨(c_at (sl_drew HS.out) 1 rfl 0 rfl), (c_at (sl_drew HS.out) 1 rfl 1 rfl)⟩ (fun hHeld => ?_)
  refine pure_ (i := 0) (N := some 19) (v := ?_) (a' := ?_) #[true, false, false, false, false, false] rfl rfl (by kernel_rfl) (fun _ _ _ h => h) (Or.inl ⟨by rfl, ?_⟩) ?_ ?_
  rotate_left
  · intro w'
    go_simp
    with_reducible rfl
  rotate_left
  · simp only [Act.put, List.setIfInBounds_toArray, List.set_cons_zero, List.set_cons_succ, i64_w, i32_w, IntKind.wrap_u32, IntKind.wrap_u8, IntKind.wrap_u16]
    rfl
  refine pure_ (i := 2) (N := some 21) (v := ?_) (a' := ?_) #[true, false, true, false, false, false] rfl rfl (by kernel_rfl) (fun _ _ _ h => h) (Or.inl ⟨by rfl, ?_⟩) ?_ ?_
  rotate_left
  · intro w'
    go_simp
    with_reducible rfl
  rotate_left
  · simp only [Act.put, List.setIfInBounds_toArray, List.set_cons_zero, List.set_cons_succ, i64_w, i32_w, IntKind.wrap_u32, IntKind.wrap_u8, IntKind.wrap_u16]
    rfl
  refine take_ (i := 1) (N := some 20) (v := ?_) (a' := ?_) #[true, true, true, false, false, false] rfl rfl (by kernel_rfl) (fun _ _ _ h => h) (Or.inl ⟨by rfl, ?_⟩) hHeld ?_ ?_
  rotate_left
  · rintro w' ⟨s0, s1⟩
    go_simp
    with_reducible rfl
  rotate_left
  · simp only [Act.put, List.setIfInBounds_toArray, List.set_cons_zero, List.set_cons_succ, i64_w, i32_w, IntKind.wrap_u32, IntKind.wrap_u8, IntKind.wrap_u16]
    rfl
  refine pure_ (i := 4) (N := some 7) (v := ?_) (a' := ?_) #[true, true, true, false, true, false] rfl rfl (by kernel_rfl) (fun _ _ _ h => h) (Or.inl ⟨by rfl, ?_⟩) ?_ ?_
  rotate_left
  · intro w'
    go_simp
    with_reducible rfl
  rotate_left
  · simp only [Act.put, List.setIfInBounds_toArray, List.set_cons_zero, List.set_cons_succ, i64_w, i32_w, IntKind.wrap_u32, IntKind.wrap_u8, IntKind.wrap_u16]
    rfl
  refine take_ (i := 3) (N := some 22) (v := ?_) (a' := ?_) #[true, true, true, true, true, false] rfl rfl (by kernel_rfl) (fun _ _ _ h => h) (Or.inl ⟨by rfl, ?_⟩) hHeld ?_ ?_
  rotate_left
  · rintro w' ⟨s0, s1⟩
    go_simp
    with_reducible rfl
  rotate_left
  · simp only [Act.put, List.setIfInBounds_toArray, List.set_cons_zero, List.set_cons_succ, i64_w, i32_w, IntKind.wrap_u32, IntKind.wrap_u8, IntKind.wrap_u16]
    rfl
  refine pure_ (i := 5) (N := some 8) (v := ?_) (a' := ?_) #[true, true, true, true, true, true] rfl rfl (by kernel_rfl) (fun _ _ _ h => h) (Or.inl ⟨by rfl, ?_⟩) ?_ ?_
  rotate_left
  · intro w'
    go_simp
    with_reducible rfl
  rotate_left
  · simp only [Act.put, List.setIfInBounds_toArray, List.set_cons_zero, List.set_cons_succ, i64_w, i32_w, IntKind.wrap_u32, IntKind.wrap_u8, IntKind.wrap_u16]
    rfl
  refine done_ (by kernel_rfl) ?_
  go_wp2_with (first
    | (go_at_call 8; refine (ex_c (by repeat (with_reducible first | exact HS.out | apply sl_drewN | apply sl_drew | apply sl_box | apply sl_alloc))).mono ?_; rintro e w1 ⟨rfl, hs⟩; (try simp only [World.size_alloc] at hs); replace HS := Aside0.mk hs; clear hs))
  all_goals
    go_ret
    exact ⟨rfl, sl_below0 HS.out⟩
set_option maxHeartbeats 4000000 in
set_option maxRecDepth 100000 in
theorem out_3 (gx gy k sx sy : Int) (w : World) (h1 : 1 ≤ gx) (h2 : gx ≤ 16384) (h : gy < 1) : Calls Try.prog 3 #[.agg #[.int .i64 gx, .int .i64 gy], .int .i64 k, .agg #[.int .i64 sx, .int .i64 sy]] w fun e w' => e = .returned (.bool true) ∧ Below w.heap.size w w' := by
  have HS := Aside0.mk (sl_box (sl_box (sl_start w) #[.int .i64 gx, .int .i64 gy] 23) #[.int .i64 sx, .int .i64 sy] 23)
  have d1 : decide (gx < 1) = false := decide_eq_false (by omega)
  have d2 : decide (16384 < gx) = false := decide_eq_false (by omega)
  have d3 : decide (gy < 1) = true := decide_eq_true (by omega)
  clear h h1 h2
  go_enter Try.func3, Try.ntmps3
  go_wp2_with (fail)
  simp only [World.size_alloc] at HS
  refine start_ (n := 6) (S := fun w' => w'.cell? ⟨w.heap.size + 1, 0, none⟩ = some (.int .i64 sx) ∧ w'.cell? ⟨w.heap.size + 1, 1, none⟩ = some (.int .i64 sy)) (ds := []) #[false, false, false, false, false, false] (by kernel_rfl) rfl rfl ⟨(c_at (sl_drew HS.out) 1 rfl 0 rfl), (c_at (sl_drew HS.out) 1 rfl 1 rfl)⟩ (fun hHeld => ?_)
  refine pure_ (i := 0) (N := some 19) (v := ?_) (a' := ?_) #[true, false, false, false, false, false] rfl rfl (by kernel_rfl) (fun _ _ _ h => h) (Or.inl ⟨by rfl, ?_⟩) ?_ ?_
  rotate_left
  · intro w'
    go_simp
    with_reducible rfl
  rotate_left
  · simp only [Act.put, List.setIfInBounds_toArray, List.set_cons_zero, List.set_cons_succ, i64_w, i32_w, IntKind.wrap_u32, IntKind.wrap_u8, IntKind.wrap_u16]
    rfl
  refine pure_ (i := 2) (N := some 21) (v := ?_) (a' := ?_) #[true, false, true, false, false, false] rfl rfl (by kernel_rfl) (fun _ _ _ h => h) (Or.inl ⟨by rfl, ?_⟩) ?_ ?_
  rotate_left
  · intro w'
    go_simp
    with_reducible rfl
  rotate_left
  · simp only [Act.put, List.setIfInBounds_toArray, List.set_cons_zero, List.set_cons_succ, i64_w, i32_w, IntKind.wrap_u32, IntKind.wrap_u8, IntKind.wrap_u16]
    rfl
  refine take_ (i := 1) (N := some 20) (v := ?_) (a' := ?_) #[true, true, true, false, false, false] rfl rfl (by kernel_rfl) (fun _ _ _ h => h) (Or.inl ⟨by rfl, ?_⟩) hHeld ?_ ?_
  rotate_left
  · rintro w' ⟨s0, s1⟩
    go_simp
    with_reducible rfl
  rotate_left
  · simp only [Act.put, List.setIfInBounds_toArray, List.set_cons_zero, List.set_cons_succ, i64_w, i32_w, IntKind.wrap_u32, IntKind.wrap_u8, IntKind.wrap_u16]
    rfl
  refine pure_ (i := 4) (N := some 7) (v := ?_) (a' := ?_) #[true, true, true, false, true, false] rfl rfl (by kernel_rfl) (fun _ _ _ h => h) (Or.inl ⟨by rfl, ?_⟩) ?_ ?_
  rotate_left
  · intro w'
    go_simp
    with_reducible rfl
  rotate_left
  · simp only [Act.put, List.setIfInBounds_toArray, List.set_cons_zero, List.set_cons_succ, i64_w, i32_w, IntKind.wrap_u32, IntKind.wrap_u8, IntKind.wrap_u16]
    rfl
  refine take_ (i := 3) (N := some 22) (v := ?_) (a' := ?_) #[true, true, true, true, true, false] rfl rfl (by kernel_rfl) (fun _ _ _ h => h) (Or.inl ⟨by rfl, ?_⟩) hHeld ?_ ?_
  rotate_left
  · rintro w' ⟨s0, s1⟩
    go_simp
    with_reducible rfl
  rotate_left
  · simp only [Act.put, List.setIfInBounds_toArray, List.set_cons_zero, List.set_cons_succ, i64_w, i32_w, IntKind.wrap_u32, IntKind.wrap_u8, IntKind.wrap_u16]
    rfl
  refine pure_ (i := 5) (N := some 8) (v := ?_) (a' := ?_) #[true, true, true, true, true, true] rfl rfl (by kernel_rfl) (fun _ _ _ h => h) (Or.inl ⟨by rfl, ?_⟩) ?_ ?_
  rotate_left
  · intro w'
    go_simp
    with_reducible rfl
  rotate_left
  · simp only [Act.put, List.setIfInBounds_toArray, List.set_cons_zero, List.set_cons_succ, i64_w, i32_w, IntKind.wrap_u32, IntKind.wrap_u8, IntKind.wrap_u16]
    rfl
  refine done_ (by kernel_rfl) ?_
  go_wp2_with (first
    | (go_at_call 8; refine (ex_c (by repeat (with_reducible first | exact HS.out | apply sl_drewN | apply sl_drew | apply sl_box | apply sl_alloc))).mono ?_; rintro e w1 ⟨rfl, hs⟩; (try simp only [World.size_alloc] at hs); replace HS := Aside0.mk hs; clear hs))
  all_goals
    go_ret
    exact ⟨rfl, sl_below0 HS.out⟩
set_option maxHeartbeats 4000000 in
set_option maxRecDepth 100000 in
theorem out_4 (gx gy k sx sy : Int) (w : World) (h1 : 1 ≤ gx) (h2 : gx ≤ 16384) (h : 16384 < gy) : Calls Try.prog 3 #[.agg #[.int .i64 gx, .int .i64 gy], .int .i64 k, .agg #[.int .i64 sx, .int .i64 sy]] w fun e w' => e = .returned (.bool true) ∧ Below w.heap.size w w' := by
  have HS := Aside0.mk (sl_box (sl_box (sl_start w) #[.int .i64 gx, .int .i64 gy] 23) #[.int .i64 sx, .int .i64 sy] 23)
  have d1 : decide (gx < 1) = false := decide_eq_false (by omega)
  have d2 : decide (16384 < gx) = false := decide_eq_false (by omega)
  have d3 : decide (gy < 1) = false := decide_eq_false (by omega)
  have d4 : decide (16384 < gy) = true := decide_eq_true (by omega)
  clear h h1 h2
  go_enter Try.func3, Try.ntmps3
  go_wp2_with (fail)
  simp only [World.size_alloc] at HS
  refine start_ (n := 6) (S := fun w' => w'.cell? ⟨w.heap.size + 1, 0, none⟩ = some (.int .i64 sx) ∧ w'.cell? ⟨w.heap.size + 1, 1, none⟩ = some (.int .i64 sy)) (ds := []) #[false, false, false, false, false, false] (by kernel_rfl) rfl rfl ⟨(c_at (sl_drew HS.out) 1 rfl 0 rfl), (c_at (sl_drew HS.out) 1 rfl 1 rfl)⟩ (fun hHeld => ?_)
  refine pure_ (i := 0) (N := some 19) (v := ?_) (a' := ?_) #[true, false, false, false, false, false] rfl rfl (by kernel_rfl) (fun _ _ _ h => h) (Or.inl ⟨by rfl, ?_⟩) ?_ ?_
  rotate_left
  · intro w'
    go_simp
    with_reducible rfl
  rotate_left
  · simp only [Act.put, List.setIfInBounds_toArray, List.set_cons_zero, List.set_cons_succ, i64_w, i32_w, IntKind.wrap_u32, IntKind.wrap_u8, IntKind.wrap_u16]
    rfl
  refine pure_ (i := 2) (N := some 21) (v := ?_) (a' := ?_) #[true, false, true, false, false, false] rfl rfl (by kernel_rfl) (fun _ _ _ h => h) (Or.inl ⟨by rfl, ?_⟩) ?_ ?_
  rotate_left
  · intro w'
    go_simp
    with_reducible rfl
  rotate_left
  · simp only [Act.put, List.setIfInBounds_toArray, List.set_cons_zero, List.set_cons_succ, i64_w, i32_w, IntKind.wrap_u32, IntKind.wrap_u8, IntKind.wrap_u16]
    rfl
  refine take_ (i := 1) (N := some 20) (v := ?_) (a' := ?_) #[true, true, true, false, false, false] rfl rfl (by kernel_rfl) (fun _ _ _ h => h) (Or.inl ⟨by rfl, ?_⟩) hHeld ?_ ?_
  rotate_left
  · rintro w' ⟨s0, s1⟩
    go_simp
    with_reducible rfl
  rotate_left
  · simp only [Act.put, List.setIfInBounds_toArray, List.set_cons_zero, List.set_cons_succ, i64_w, i32_w, IntKind.wrap_u32, IntKind.wrap_u8, IntKind.wrap_u16]
    rfl
  refine pure_ (i := 4) (N := some 7) (v := ?_) (a' := ?_) #[true, true, true, false, true, false] rfl rfl (by kernel_rfl) (fun _ _ _ h => h) (Or.inl ⟨by rfl, ?_⟩) ?_ ?_
  rotate_left
  · intro w'
    go_simp
    with_reducible rfl
  rotate_left
  · simp only [Act.put, List.setIfInBounds_toArray, List.set_cons_zero, List.set_cons_succ, i64_w, i32_w, IntKind.wrap_u32, IntKind.wrap_u8, IntKind.wrap_u16]
    rfl
  refine take_ (i := 3) (N := some 22) (v := ?_) (a' := ?_) #[true, true, true, true, true, false] rfl rfl (by kernel_rfl) (fun _ _ _ h => h) (Or.inl ⟨by rfl, ?_⟩) hHeld ?_ ?_
  rotate_left
  · rintro w' ⟨s0, s1⟩
    go_simp
    with_reducible rfl
  rotate_left
  · simp only [Act.put, List.setIfInBounds_toArray, List.set_cons_zero, List.set_cons_succ, i64_w, i32_w, IntKind.wrap_u32, IntKind.wrap_u8, IntKind.wrap_u16]
    rfl
  refine pure_ (i := 5) (N := some 8) (v := ?_) (a' := ?_) #[true, true, true, true, true, true] rfl rfl (by kernel_rfl) (fun _ _ _ h => h) (Or.inl ⟨by rfl, ?_⟩) ?_ ?_
  rotate_left
  · intro w'
    go_simp
    with_reducible rfl
  rotate_left
  · simp only [Act.put, List.setIfInBounds_toArray, List.set_cons_zero, List.set_cons_succ, i64_w, i32_w, IntKind.wrap_u32, IntKind.wrap_u8, IntKind.wrap_u16]
    rfl
  refine done_ (by kernel_rfl) ?_
  go_wp2_with (first
    | (go_at_call 8; refine (ex_c (by repeat (with_reducible first | exact HS.out | apply sl_drewN | apply sl_drew | apply sl_box | apply sl_alloc))).mono ?_; rintro e w1 ⟨rfl, hs⟩; (try simp only [World.size_alloc] at hs); replace HS := Aside0.mk hs; clear hs))
  all_goals
    go_ret
    exact ⟨rfl, sl_below0 HS.out⟩
set_option maxHeartbeats 4000000 in
set_option maxRecDepth 100000 in
theorem bad (gx gy k sx sy : Int) (w : World) (h1 : 1 ≤ gx) (h2 : gx ≤ 16384) (h3 : 1 ≤ gy) (h4 : gy ≤ 16384) (hk : edgeB k = false) : Calls Try.prog 3 #[.agg #[.int .i64 gx, .int .i64 gy], .int .i64 k, .agg #[.int .i64 sx, .int .i64 sy]] w fun e w' => e = .returned (.bool true) ∧ Below w.heap.size w w' := by
  have HS := Aside0.mk (sl_box (sl_box (sl_start w) #[.int .i64 gx, .int .i64 gy] 23) #[.int .i64 sx, .int .i64 sy] 23)
  have d1 : decide (gx < 1) = false := decide_eq_false (by omega)
  have d2 : decide (16384 < gx) = false := decide_eq_false (by omega)
  have d3 : decide (gy < 1) = false := decide_eq_false (by omega)
  have d4 : decide (16384 < gy) = false := decide_eq_false (by omega)
  have k1 : (k == 1) = false := beq_eq_false_iff_ne.2 (fun h => by subst h; cases hk)
  have k2 : (k == 2) = false := beq_eq_false_iff_ne.2 (fun h => by subst h; cases hk)
  have k4 : (k == 4) = false := beq_eq_false_iff_ne.2 (fun h => by subst h; cases hk)
  have k8 : (k == 8) = false := beq_eq_false_iff_ne.2 (fun h => by subst h; cases hk)
  have k5 : (k == 5) = false := beq_eq_false_iff_ne.2 (fun h => by subst h; cases hk)
  have k6 : (k == 6) = false := beq_eq_false_iff_ne.2 (fun h => by subst h; cases hk)
  have k9 : (k == 9) = false := beq_eq_false_iff_ne.2 (fun h => by subst h; cases hk)
  have k10 : (k == 10) = false := beq_eq_false_iff_ne.2 (fun h => by subst h; cases hk)
  obtain ⟨S0, S1, S2, S3, f0, f1, f2, f3, f4⟩ := ed_facts k gx gy sx sy h1 h2 h3 h4 (E1 := 2) (E2 := 2) (A := 0) (B := 0) (by rw [hk]; rfl) (by rw [hk]; rfl) rfl rfl
  have HW := Aside0.mk (show ∀ {w' : World} {L : List Res}, SL w w' L → Calls Try.prog 9 #[] w' fun e w'' => ∃ g : Nat, e = .returned (.pointer (some ⟨g, 0, none⟩)) ∧ SL w w'' (L ++ [winR g S0]) from fun h => f0 ▸ New_c h)
  have H1 := Aside0.mk f1
  have H2 := Aside0.mk f2
  have H3 := Aside0.mk f3
  have H4 := Aside0.mk f4
  clear f0 f1 f2 f3 f4 h1 h2 h3 h4
  clear hk
  go_enter Try.func3, Try.ntmps3
  go_wp2_with (fail)
  simp only [World.size_alloc] at HS
  refine start_ (n := 6) (S := fun w' => w'.cell? ⟨w.heap.size + 1, 0, none⟩ = some (.int .i64 sx) ∧ w'.cell? ⟨w.heap.size + 1, 1, none⟩ = some (.int .i64 sy)) (ds := []) #[false, false, false, false, false, false] (by kernel_rfl) rfl rfl ⟨(c_at (sl_drew HS.out) 1 rfl 0 rfl), (c_at (sl_drew HS.out) 1 rfl 1 rfl)⟩ (fun hHeld => ?_)
  refine pure_ (i := 0) (N := some 19) (v := ?_) (a' := ?_) #[true, false, false, false, false, false] rfl rfl (by kernel_rfl) (fun _ _ _ h => h) (Or.inl ⟨by rfl, ?_⟩) ?_ ?_
  rotate_left
  · intro w'
    go_simp
    with_reducible rfl
  rotate_left
  · simp only [Act.put, List.setIfInBounds_toArray, List.set_cons_zero, List.set_cons_succ, i64_w, i32_w, IntKind.wrap_u32, IntKind.wrap_u8, IntKind.wrap_u16]
    rfl
  refine pure_ (i := 2) (N := some 21) (v := ?_) (a' := ?_) #[true, false, true, false, false, false] rfl rfl (by kernel_rfl) (fun _ _ _ h => h) (Or.inl ⟨by rfl, ?_⟩) ?_ ?_
  rotate_left
  · intro w'
    go_simp
    with_reducible rfl
  rotate_left
  · simp only [Act.put, List.setIfInBounds_toArray, List.set_cons_zero, List.set_cons_succ, i64_w, i32_w, IntKind.wrap_u32, IntKind.wrap_u8, IntKind.wrap_u16]
    rfl
  refine take_ (i := 1) (N := some 20) (v := ?_) (a' := ?_) #[true, true, true, false, false, false] rfl rfl (by kernel_rfl) (fun _ _ _ h => h) (Or.inl ⟨by rfl, ?_⟩) hHeld ?_ ?_
  rotate_left
  · rintro w' ⟨s0, s1⟩
    go_simp
    with_reducible rfl
  rotate_left
  · simp only [Act.put, List.setIfInBounds_toArray, List.set_cons_zero, List.set_cons_succ, i64_w, i32_w, IntKind.wrap_u32, IntKind.wrap_u8, IntKind.wrap_u16]
    rfl
  refine pure_ (i := 4) (N := some 7) (v := ?_) (a' := ?_) #[true, true, true, false, true, false] rfl rfl (by kernel_rfl) (fun _ _ _ h => h) (Or.inl ⟨by rfl, ?_⟩) ?_ ?_
  rotate_left
  · intro w'
    go_simp
    with_reducible rfl
  rotate_left
  · simp only [Act.put, List.setIfInBounds_toArray, List.set_cons_zero, List.set_cons_succ, i64_w, i32_w, IntKind.wrap_u32, IntKind.wrap_u8, IntKind.wrap_u16]
    rfl
  refine take_ (i := 3) (N := some 22) (v := ?_) (a' := ?_) #[true, true, true, true, true, false] rfl rfl (by kernel_rfl) (fun _ _ _ h => h) (Or.inl ⟨by rfl, ?_⟩) hHeld ?_ ?_
  rotate_left
  · rintro w' ⟨s0, s1⟩
    go_simp
    with_reducible rfl
  rotate_left
  · simp only [Act.put, List.setIfInBounds_toArray, List.set_cons_zero, List.set_cons_succ, i64_w, i32_w, IntKind.wrap_u32, IntKind.wrap_u8, IntKind.wrap_u16]
    rfl
  refine pure_ (i := 5) (N := some 8) (v := ?_) (a' := ?_) #[true, true, true, true, true, true] rfl rfl (by kernel_rfl) (fun _ _ _ h => h) (Or.inl ⟨by rfl, ?_⟩) ?_ ?_
  rotate_left
  · intro w'
    go_simp
    with_reducible rfl
  rotate_left
  · simp only [Act.put, List.setIfInBounds_toArray, List.set_cons_zero, List.set_cons_succ, i64_w, i32_w, IntKind.wrap_u32, IntKind.wrap_u8, IntKind.wrap_u16]
    rfl
  refine done_ (by kernel_rfl) ?_
  go_wp2_with (first
    | (go_at_call 9; refine (HW.out (by repeat (with_reducible first | exact HS.out | apply sl_drewN | apply sl_drew | apply sl_box | apply sl_alloc))).mono ?_; rintro e w1 ⟨g, rfl, hs⟩; (try simp only [World.size_alloc] at hs); replace HS := Aside0.mk hs; clear hs; (try clear hm0 hm1 bl); have hm0 := c_at HS.out 0 rfl 0 rfl; have hm1 := c_at HS.out 0 rfl 1 rfl; have bl := blk_lt (sl_blk HS.out 0 rfl))
    | (go_at_call 10; with_reducible refine (Rsz_eq (s := S0) (by repeat (with_reducible first | exact HS.out | apply sl_drewN | apply sl_drew | apply sl_box | apply sl_alloc)) 2 _ sx sy H1.out.1 H1.out.2.1 H1.out.2.2.1 H1.out.2.2.2 rfl).mono ?_; rintro e w1 ⟨rfl, hs⟩; (try simp only [World.size_alloc] at hs); replace HS := Aside0.mk hs; clear hs; (try clear hm0 hm1 bl); have hm0 := c_at HS.out 0 rfl 0 rfl; have hm1 := c_at HS.out 0 rfl 1 rfl; have bl := blk_lt (sl_blk HS.out 0 rfl))
    | (go_at_call 11; refine (Acc_eq (s := S0) (by repeat (with_reducible first | exact HS.out | apply sl_drewN | apply sl_drew | apply sl_box | apply sl_alloc)) 2 gx gy H2.out.1 H2.out.2 (by rfl)).mono ?_; rintro e w1 ⟨rfl, hs⟩; (try simp only [World.size_alloc] at hs); replace HS := Aside0.mk hs; clear hs; (try clear hm0 hm1 bl); have hm0 := c_at HS.out 0 rfl 0 rfl; have hm1 := c_at HS.out 0 rfl 1 rfl; have bl := blk_lt (sl_blk HS.out 0 rfl))
    | (go_at_call 12; refine (Req_eq (s := S1) (by repeat (with_reducible first | exact HS.out | apply sl_drewN | apply sl_drew | apply sl_box | apply sl_alloc)) 2 4 true 0 0 0 0 H3.out.1 H3.out.2 (by rfl)).mono ?_; rintro e w1 ⟨rfl, hs⟩; (try simp only [World.size_alloc] at hs); replace HS := Aside0.mk hs; clear hs; (try clear hm0 hm1 bl); have hm0 := c_at HS.out 0 rfl 0 rfl; have hm1 := c_at HS.out 0 rfl 1 rfl; have bl := blk_lt (sl_blk HS.out 0 rfl))
    | (go_at_call 10; with_reducible refine (Rsz_eq (s := S2) (by repeat (with_reducible first | exact HS.out | apply sl_drewN | apply sl_drew | apply sl_box | apply sl_alloc)) 2 _ sx sy H4.out.1 H4.out.2.1 H4.out.2.2.1 H4.out.2.2.2 rfl).mono ?_; rintro e w1 ⟨rfl, hs⟩; (try simp only [World.size_alloc] at hs); replace HS := Aside0.mk hs; clear hs; (try clear hm0 hm1 bl); have hm0 := c_at HS.out 0 rfl 0 rfl; have hm1 := c_at HS.out 0 rfl 1 rfl; have bl := blk_lt (sl_blk HS.out 0 rfl))
    | (go_at_call 8; refine (ex_c (by repeat (with_reducible first | exact HS.out | apply sl_drewN | apply sl_drew | apply sl_box | apply sl_alloc))).mono ?_; rintro e w1 ⟨rfl, hs⟩; (try simp only [World.size_alloc] at hs); replace HS := Aside0.mk hs; clear hs))
  all_goals
    go_ret
    exact ⟨rfl, sl_below0 HS.out⟩
set_option maxHeartbeats 4000000 in
set_option maxRecDepth 100000 in
theorem no_1 (gx gy sx sy : Int) (w : World) (h1 : 1 ≤ gx) (h2 : gx ≤ 16384) (h3 : 1 ≤ gy) (h4 : gy ≤ 16384) (hv : valB 1 sx sy = false) : Calls Try.prog 3 #[.agg #[.int .i64 gx, .int .i64 gy], .int .i64 1, .agg #[.int .i64 sx, .int .i64 sy]] w fun e w' => e = .returned (.bool true) ∧ Below w.heap.size w w' := by
  have HS := Aside0.mk (sl_box (sl_box (sl_start w) #[.int .i64 gx, .int .i64 gy] 23) #[.int .i64 sx, .int .i64 sy] 23)
  have d1 : decide (gx < 1) = false := decide_eq_false (by omega)
  have d2 : decide (16384 < gx) = false := decide_eq_false (by omega)
  have d3 : decide (gy < 1) = false := decide_eq_false (by omega)
  have d4 : decide (16384 < gy) = false := decide_eq_false (by omega)
  obtain ⟨S0, S1, S2, S3, f0, f1, f2, f3, f4⟩ := ed_facts 1 gx gy sx sy h1 h2 h3 h4 (E1 := 14) (E2 := 6) (A := 0) (B := 0) (by simp [edgeB, edX, edY, hv]) (by simp [edgeB, edX, edY, hv]) (by simp [edgeB, edX, edY, hv]) (by simp [edgeB, edX, edY, hv])
  have HW := Aside0.mk (show ∀ {w' : World} {L : List Res}, SL w w' L → Calls Try.prog 9 #[] w' fun e w'' => ∃ g : Nat, e = .returned (.pointer (some ⟨g, 0, none⟩)) ∧ SL w w'' (L ++ [winR g S0]) from fun h => f0 ▸ New_c h)
  have H1 := Aside0.mk f1
  have H2 := Aside0.mk f2
  have H3 := Aside0.mk f3
  have H4 := Aside0.mk f4
  clear f0 f1 f2 f3 f4 h1 h2 h3 h4 hv
  go_enter Try.func3, Try.ntmps3
  go_wp2_with (fail)
  simp only [World.size_alloc] at HS
  refine start_ (n := 6) (S := fun w' => w'.cell? ⟨w.heap.size + 1, 0, none⟩ = some (.int .i64 sx) ∧ w'.cell? ⟨w.heap.size + 1, 1, none⟩ = some (.int .i64 sy)) (ds := []) #[false, false, false, false, false, false] (by kernel_rfl) rfl rfl ⟨(c_at (sl_drew HS.out) 1 rfl 0 rfl), (c_at (sl_drew HS.out) 1 rfl 1 rfl)⟩ (fun hHeld => ?_)
  refine pure_ (i := 0) (N := some 19) (v := ?_) (a' := ?_) #[true, false, false, false, false, false] rfl rfl (by kernel_rfl) (fun _ _ _ h => h) (Or.inl ⟨by rfl, ?_⟩) ?_ ?_
  rotate_left
  · intro w'
    go_simp
    with_reducible rfl
  rotate_left
  · simp only [Act.put, List.setIfInBounds_toArray, List.set_cons_zero, List.set_cons_succ, i64_w, i32_w, IntKind.wrap_u32, IntKind.wrap_u8, IntKind.wrap_u16]
    rfl
  refine pure_ (i := 2) (N := some 21) (v := ?_) (a' := ?_) #[true, false, true, false, false, false] rfl rfl (by kernel_rfl) (fun _ _ _ h => h) (Or.inl ⟨by rfl, ?_⟩) ?_ ?_
  rotate_left
  · intro w'
    go_simp
    with_reducible rfl
  rotate_left
  · simp only [Act.put, List.setIfInBounds_toArray, List.set_cons_zero, List.set_cons_succ, i64_w, i32_w, IntKind.wrap_u32, IntKind.wrap_u8, IntKind.wrap_u16]
    rfl
  refine take_ (i := 1) (N := some 20) (v := ?_) (a' := ?_) #[true, true, true, false, false, false] rfl rfl (by kernel_rfl) (fun _ _ _ h => h) (Or.inl ⟨by rfl, ?_⟩) hHeld ?_ ?_
  rotate_left
  · rintro w' ⟨s0, s1⟩
    go_simp
    with_reducible rfl
  rotate_left
  · simp only [Act.put, List.setIfInBounds_toArray, List.set_cons_zero, List.set_cons_succ, i64_w, i32_w, IntKind.wrap_u32, IntKind.wrap_u8, IntKind.wrap_u16]
    rfl
  refine pure_ (i := 4) (N := some 7) (v := ?_) (a' := ?_) #[true, true, true, false, true, false] rfl rfl (by kernel_rfl) (fun _ _ _ h => h) (Or.inl ⟨by rfl, ?_⟩) ?_ ?_
  rotate_left
  · intro w'
    go_simp
    with_reducible rfl
  rotate_left
  · simp only [Act.put, List.setIfInBounds_toArray, List.set_cons_zero, List.set_cons_succ, i64_w, i32_w, IntKind.wrap_u32, IntKind.wrap_u8, IntKind.wrap_u16]
    rfl
  refine take_ (i := 3) (N := some 22) (v := ?_) (a' := ?_) #[true, true, true, true, true, false] rfl rfl (by kernel_rfl) (fun _ _ _ h => h) (Or.inl ⟨by rfl, ?_⟩) hHeld ?_ ?_
  rotate_left
  · rintro w' ⟨s0, s1⟩
    go_simp
    with_reducible rfl
  rotate_left
  · simp only [Act.put, List.setIfInBounds_toArray, List.set_cons_zero, List.set_cons_succ, i64_w, i32_w, IntKind.wrap_u32, IntKind.wrap_u8, IntKind.wrap_u16]
    rfl
  refine pure_ (i := 5) (N := some 8) (v := ?_) (a' := ?_) #[true, true, true, true, true, true] rfl rfl (by kernel_rfl) (fun _ _ _ h => h) (Or.inl ⟨by rfl, ?_⟩) ?_ ?_
  rotate_left
  · intro w'
    go_simp
    with_reducible rfl
  rotate_left
  · simp only [Act.put, List.setIfInBounds_toArray, List.set_cons_zero, List.set_cons_succ, i64_w, i32_w, IntKind.wrap_u32, IntKind.wrap_u8, IntKind.wrap_u16]
    rfl
  refine done_ (by kernel_rfl) ?_
  go_wp2_with (first
    | (go_at_call 9; refine (HW.out (by repeat (with_reducible first | exact HS.out | apply sl_drewN | apply sl_drew | apply sl_box | apply sl_alloc))).mono ?_; rintro e w1 ⟨g, rfl, hs⟩; (try simp only [World.size_alloc] at hs); replace HS := Aside0.mk hs; clear hs; (try clear hm0 hm1 bl); have hm0 := c_at HS.out 0 rfl 0 rfl; have hm1 := c_at HS.out 0 rfl 1 rfl; have bl := blk_lt (sl_blk HS.out 0 rfl))
    | (go_at_call 10; with_reducible refine (Rsz_eq (s := S0) (by repeat (with_reducible first | exact HS.out | apply sl_drewN | apply sl_drew | apply sl_box | apply sl_alloc)) 2 _ sx sy H1.out.1 H1.out.2.1 H1.out.2.2.1 H1.out.2.2.2 rfl).mono ?_; rintro e w1 ⟨rfl, hs⟩; (try simp only [World.size_alloc] at hs); replace HS := Aside0.mk hs; clear hs; (try clear hm0 hm1 bl); have hm0 := c_at HS.out 0 rfl 0 rfl; have hm1 := c_at HS.out 0 rfl 1 rfl; have bl := blk_lt (sl_blk HS.out 0 rfl))
    | (go_at_call 11; refine (Acc_eq (s := S0) (by repeat (with_reducible first | exact HS.out | apply sl_drewN | apply sl_drew | apply sl_box | apply sl_alloc)) 2 gx gy H2.out.1 H2.out.2 (by rfl)).mono ?_; rintro e w1 ⟨rfl, hs⟩; (try simp only [World.size_alloc] at hs); replace HS := Aside0.mk hs; clear hs; (try clear hm0 hm1 bl); have hm0 := c_at HS.out 0 rfl 0 rfl; have hm1 := c_at HS.out 0 rfl 1 rfl; have bl := blk_lt (sl_blk HS.out 0 rfl))
    | (go_at_call 12; refine (Req_eq (s := S1) (by repeat (with_reducible first | exact HS.out | apply sl_drewN | apply sl_drew | apply sl_box | apply sl_alloc)) 2 4 true 0 0 0 0 H3.out.1 H3.out.2 (by rfl)).mono ?_; rintro e w1 ⟨rfl, hs⟩; (try simp only [World.size_alloc] at hs); replace HS := Aside0.mk hs; clear hs; (try clear hm0 hm1 bl); have hm0 := c_at HS.out 0 rfl 0 rfl; have hm1 := c_at HS.out 0 rfl 1 rfl; have bl := blk_lt (sl_blk HS.out 0 rfl))
    | (go_at_call 10; with_reducible refine (Rsz_eq (s := S2) (by repeat (with_reducible first | exact HS.out | apply sl_drewN | apply sl_drew | apply sl_box | apply sl_alloc)) 2 _ sx sy H4.out.1 H4.out.2.1 H4.out.2.2.1 H4.out.2.2.2 rfl).mono ?_; rintro e w1 ⟨rfl, hs⟩; (try simp only [World.size_alloc] at hs); replace HS := Aside0.mk hs; clear hs; (try clear hm0 hm1 bl); have hm0 := c_at HS.out 0 rfl 0 rfl; have hm1 := c_at HS.out 0 rfl 1 rfl; have bl := blk_lt (sl_blk HS.out 0 rfl))
    | (go_at_call 8; refine (ex_c (by repeat (with_reducible first | exact HS.out | apply sl_drewN | apply sl_drew | apply sl_box | apply sl_alloc))).mono ?_; rintro e w1 ⟨rfl, hs⟩; (try simp only [World.size_alloc] at hs); replace HS := Aside0.mk hs; clear hs))
  all_goals
    go_ret
    exact ⟨rfl, sl_below0 HS.out⟩
set_option maxHeartbeats 4000000 in
set_option maxRecDepth 100000 in
theorem ok_1 (gx gy sx sy : Int) (w : World) (h1 : 1 ≤ gx) (h2 : gx ≤ 16384) (h3 : 1 ≤ gy) (h4 : gy ≤ 16384) (hv : valB 1 sx sy = true) : Calls Try.prog 3 #[.agg #[.int .i64 gx, .int .i64 gy], .int .i64 1, .agg #[.int .i64 sx, .int .i64 sy]] w fun e w' => e = .returned (.bool true) ∧ Below w.heap.size w w' := by
  have HS := Aside0.mk (sl_box (sl_box (sl_start w) #[.int .i64 gx, .int .i64 gy] 23) #[.int .i64 sx, .int .i64 sy] 23)
  have d1 : decide (gx < 1) = false := decide_eq_false (by omega)
  have d2 : decide (16384 < gx) = false := decide_eq_false (by omega)
  have d3 : decide (gy < 1) = false := decide_eq_false (by omega)
  have d4 : decide (16384 < gy) = false := decide_eq_false (by omega)
  obtain ⟨S0, S1, S2, S3, f0, f1, f2, f3, f4⟩ := ed_facts 1 gx gy sx sy h1 h2 h3 h4 (E1 := 14) (E2 := 0) (A := gx) (B := sy) (by simp [edgeB, edX, edY, hv]) (by simp [edgeB, edX, edY, hv]) (by simp [edgeB, edX, edY, hv]) (by simp [edgeB, edX, edY, hv])
  have HW := Aside0.mk (show ∀ {w' : World} {L : List Res}, SL w w' L → Calls Try.prog 9 #[] w' fun e w'' => ∃ g : Nat, e = .returned (.pointer (some ⟨g, 0, none⟩)) ∧ SL w w'' (L ++ [winR g S0]) from fun h => f0 ▸ New_c h)
  have H1 := Aside0.mk f1
  have H2 := Aside0.mk f2
  have H3 := Aside0.mk f3
  have H4 := Aside0.mk f4
  clear f0 f1 f2 f3 f4 h1 h2 h3 h4 hv
  go_enter Try.func3, Try.ntmps3
  go_wp2_with (fail)
  simp only [World.size_alloc] at HS
  refine start_ (n := 6) (S := fun w' => w'.cell? ⟨w.heap.size + 1, 0, none⟩ = some (.int .i64 sx) ∧ w'.cell? ⟨w.heap.size + 1, 1, none⟩ = some (.int .i64 sy)) (ds := []) #[false, false, false, false, false, false] (by kernel_rfl) rfl rfl ⟨(c_at (sl_drew HS.out) 1 rfl 0 rfl), (c_at (sl_drew HS.out) 1 rfl 1 rfl)⟩ (fun hHeld => ?_)
  refine pure_ (i := 0) (N := some 19) (v := ?_) (a' := ?_) #[true, false, false, false, false, false] rfl rfl (by kernel_rfl) (fun _ _ _ h => h) (Or.inl ⟨by rfl, ?_⟩) ?_ ?_
  rotate_left
  · intro w'
    go_simp
    with_reducible rfl
  rotate_left
  · simp only [Act.put, List.setIfInBounds_toArray, List.set_cons_zero, List.set_cons_succ, i64_w, i32_w, IntKind.wrap_u32, IntKind.wrap_u8, IntKind.wrap_u16]
    rfl
  refine pure_ (i := 2) (N := some 21) (v := ?_) (a' := ?_) #[true, false, true, false, false, false] rfl rfl (by kernel_rfl) (fun _ _ _ h => h) (Or.inl ⟨by rfl, ?_⟩) ?_ ?_
  rotate_left
  · intro w'
    go_simp
    with_reducible rfl
  rotate_left
  · simp only [Act.put, List.setIfInBounds_toArray, List.set_cons_zero, List.set_cons_succ, i64_w, i32_w, IntKind.wrap_u32, IntKind.wrap_u8, IntKind.wrap_u16]
    rfl
  refine take_ (i := 1) (N := some 20) (v := ?_) (a' := ?_) #[true, true, true, false, false, false] rfl rfl (by kernel_rfl) (fun _ _ _ h => h) (Or.inl ⟨by rfl, ?_⟩) hHeld ?_ ?_
  rotate_left
  · rintro w' ⟨s0, s1⟩
    go_simp
    with_reducible rfl
  rotate_left
  · simp only [Act.put, List.setIfInBounds_toArray, List.set_cons_zero, List.set_cons_succ, i64_w, i32_w, IntKind.wrap_u32, IntKind.wrap_u8, IntKind.wrap_u16]
    rfl
  refine pure_ (i := 4) (N := some 7) (v := ?_) (a' := ?_) #[true, true, true, false, true, false] rfl rfl (by kernel_rfl) (fun _ _ _ h => h) (Or.inl ⟨by rfl, ?_⟩) ?_ ?_
  rotate_left
  · intro w'
    go_simp
    with_reducible rfl
  rotate_left
  · simp only [Act.put, List.setIfInBounds_toArray, List.set_cons_zero, List.set_cons_succ, i64_w, i32_w, IntKind.wrap_u32, IntKind.wrap_u8, IntKind.wrap_u16]
    rfl
  refine take_ (i := 3) (N := some 22) (v := ?_) (a' := ?_) #[true, true, true, true, true, false] rfl rfl (by kernel_rfl) (fun _ _ _ h => h) (Or.inl ⟨by rfl, ?_⟩) hHeld ?_ ?_
  rotate_left
  · rintro w' ⟨s0, s1⟩
    go_simp
    with_reducible rfl
  rotate_left
  · simp only [Act.put, List.setIfInBounds_toArray, List.set_cons_zero, List.set_cons_succ, i64_w, i32_w, IntKind.wrap_u32, IntKind.wrap_u8, IntKind.wrap_u16]
    rfl
  refine pure_ (i := 5) (N := some 8) (v := ?_) (a' := ?_) #[true, true, true, true, true, true] rfl rfl (by kernel_rfl) (fun _ _ _ h => h) (Or.inl ⟨by rfl, ?_⟩) ?_ ?_
  rotate_left
  · intro w'
    go_simp
    with_reducible rfl
  rotate_left
  · simp only [Act.put, List.setIfInBounds_toArray, List.set_cons_zero, List.set_cons_succ, i64_w, i32_w, IntKind.wrap_u32, IntKind.wrap_u8, IntKind.wrap_u16]
    rfl
  refine done_ (by kernel_rfl) ?_
  go_wp2_with (first
    | (go_at_call 9; refine (HW.out (by repeat (with_reducible first | exact HS.out | apply sl_drewN | apply sl_drew | apply sl_box | apply sl_alloc))).mono ?_; rintro e w1 ⟨g, rfl, hs⟩; (try simp only [World.size_alloc] at hs); replace HS := Aside0.mk hs; clear hs; (try clear hm0 hm1 bl); have hm0 := c_at HS.out 0 rfl 0 rfl; have hm1 := c_at HS.out 0 rfl 1 rfl; have bl := blk_lt (sl_blk HS.out 0 rfl))
    | (go_at_call 10; with_reducible refine (Rsz_eq (s := S0) (by repeat (with_reducible first | exact HS.out | apply sl_drewN | apply sl_drew | apply sl_box | apply sl_alloc)) 2 _ sx sy H1.out.1 H1.out.2.1 H1.out.2.2.1 H1.out.2.2.2 rfl).mono ?_; rintro e w1 ⟨rfl, hs⟩; (try simp only [World.size_alloc] at hs); replace HS := Aside0.mk hs; clear hs; (try clear hm0 hm1 bl); have hm0 := c_at HS.out 0 rfl 0 rfl; have hm1 := c_at HS.out 0 rfl 1 rfl; have bl := blk_lt (sl_blk HS.out 0 rfl))
    | (go_at_call 11; refine (Acc_eq (s := S0) (by repeat (with_reducible first | exact HS.out | apply sl_drewN | apply sl_drew | apply sl_box | apply sl_alloc)) 2 gx gy H2.out.1 H2.out.2 (by rfl)).mono ?_; rintro e w1 ⟨rfl, hs⟩; (try simp only [World.size_alloc] at hs); replace HS := Aside0.mk hs; clear hs; (try clear hm0 hm1 bl); have hm0 := c_at HS.out 0 rfl 0 rfl; have hm1 := c_at HS.out 0 rfl 1 rfl; have bl := blk_lt (sl_blk HS.out 0 rfl))
    | (go_at_call 12; refine (Req_eq (s := S1) (by repeat (with_reducible first | exact HS.out | apply sl_drewN | apply sl_drew | apply sl_box | apply sl_alloc)) 2 4 true 0 0 0 0 H3.out.1 H3.out.2 (by rfl)).mono ?_; rintro e w1 ⟨rfl, hs⟩; (try simp only [World.size_alloc] at hs); replace HS := Aside0.mk hs; clear hs; (try clear hm0 hm1 bl); have hm0 := c_at HS.out 0 rfl 0 rfl; have hm1 := c_at HS.out 0 rfl 1 rfl; have bl := blk_lt (sl_blk HS.out 0 rfl))
    | (go_at_call 10; with_reducible refine (Rsz_eq (s := S2) (by repeat (with_reducible first | exact HS.out | apply sl_drewN | apply sl_drew | apply sl_box | apply sl_alloc)) 2 _ sx sy H4.out.1 H4.out.2.1 H4.out.2.2.1 H4.out.2.2.2 rfl).mono ?_; rintro e w1 ⟨rfl, hs⟩; (try simp only [World.size_alloc] at hs); replace HS := Aside0.mk hs; clear hs; (try clear hm0 hm1 bl); have hm0 := c_at HS.out 0 rfl 0 rfl; have hm1 := c_at HS.out 0 rfl 1 rfl; have bl := blk_lt (sl_blk HS.out 0 rfl))
    | (go_at_call 8; refine (ex_c (by repeat (with_reducible first | exact HS.out | apply sl_drewN | apply sl_drew | apply sl_box | apply sl_alloc))).mono ?_; rintro e w1 ⟨rfl, hs⟩; (try simp only [World.size_alloc] at hs); replace HS := Aside0.mk hs; clear hs))
  all_goals
    go_ret
    exact ⟨rfl, sl_below0 HS.out⟩
set_option maxHeartbeats 4000000 in
set_option maxRecDepth 100000 in
theorem no_2 (gx gy sx sy : Int) (w : World) (h1 : 1 ≤ gx) (h2 : gx ≤ 16384) (h3 : 1 ≤ gy) (h4 : gy ≤ 16384) (hv : valB 1 sx sy = false) : Calls Try.prog 3 #[.agg #[.int .i64 gx, .int .i64 gy], .int .i64 2, .agg #[.int .i64 sx, .int .i64 sy]] w fun e w' => e = .returned (.bool true) ∧ Below w.heap.size w w' := by
  have HS := Aside0.mk (sl_box (sl_box (sl_start w) #[.int .i64 gx, .int .i64 gy] 23) #[.int .i64 sx, .int .i64 sy] 23)
  have d1 : decide (gx < 1) = false := decide_eq_false (by omega)
  have d2 : decide (16384 < gx) = false := decide_eq_false (by omega)
  have d3 : decide (gy < 1) = false := decide_eq_false (by omega)
  have d4 : decide (16384 < gy) = false := decide_eq_false (by omega)
  obtain ⟨S0, S1, S2, S3, f0, f1, f2, f3, f4⟩ := ed_facts 2 gx gy sx sy h1 h2 h3 h4 (E1 := 14) (E2 := 6) (A := 0) (B := 0) (by simp [edgeB, edX, edY, hv]) (by simp [edgeB, edX, edY, hv]) (by simp [edgeB, edX, edY, hv]) (by simp [edgeB, edX, edY, hv])
  have HW := Aside0.mk (show ∀ {w' : World} {L : List Res}, SL w w' L → Calls Try.prog 9 #[] w' fun e w'' => ∃ g : Nat, e = .returned (.pointer (some ⟨g, 0, none⟩)) ∧ SL w w'' (L ++ [winR g S0]) from fun h => f0 ▸ New_c h)
  have H1 := Aside0.mk f1
  have H2 := Aside0.mk f2
  have H3 := Aside0.mk f3
  have H4 := Aside0.mk f4
  clear f0 f1 f2 f3 f4 h1 h2 h3 h4 hv
  go_enter Try.func3, Try.ntmps3
  go_wp2_with (fail)
  simp only [World.size_alloc] at HS
  refine start_ (n := 6) (S := fun w' => w'.cell? ⟨w.heap.size + 1, 0, none⟩ = some (.int .i64 sx) ∧ w'.cell? ⟨w.heap.size + 1, 1, none⟩ = some (.int .i64 sy)) (ds := []) #[false, false, false, false, false, false] (by kernel_rfl) rfl rfl ⟨(c_at (sl_drew HS.out) 1 rfl 0 rfl), (c_at (sl_drew HS.out) 1 rfl 1 rfl)⟩ (fun hHeld => ?_)
  refine pure_ (i := 0) (N := some 19) (v := ?_) (a' := ?_) #[true, false, false, false, false, false] rfl rfl (by kernel_rfl) (fun _ _ _ h => h) (Or.inl ⟨by rfl, ?_⟩) ?_ ?_
  rotate_left
  · intro w'
    go_simp
    with_reducible rfl
  rotate_left
  · simp only [Act.put, List.setIfInBounds_toArray, List.set_cons_zero, List.set_cons_succ, i64_w, i32_w, IntKind.wrap_u32, IntKind.wrap_u8, IntKind.wrap_u16]
    rfl
  refine pure_ (i := 2) (N := some 21) (v := ?_) (a' := ?_) #[true, false, true, false, false, false] rfl rfl (by kernel_rfl) (fun _ _ _ h => h) (Or.inl ⟨by rfl, ?_⟩) ?_ ?_
  rotate_left
  · intro w'
    go_simp
    with_reducible rfl
  rotate_left
  · simp only [Act.put, List.setIfInBounds_toArray, List.set_cons_zero, List.set_cons_succ, i64_w, i32_w, IntKind.wrap_u32, IntKind.wrap_u8, IntKind.wrap_u16]
    rfl
  refine take_ (i := 1) (N := some 20) (v := ?_) (a' := ?_) #[true, true, true, false, false, false] rfl rfl (by kernel_rfl) (fun _ _ _ h => h) (Or.inl ⟨by rfl, ?_⟩) hHeld ?_ ?_
  rotate_left
  · rintro w' ⟨s0, s1⟩
    go_simp
    with_reducible rfl
  rotate_left
  · simp only [Act.put, List.setIfInBounds_toArray, List.set_cons_zero, List.set_cons_succ, i64_w, i32_w, IntKind.wrap_u32, IntKind.wrap_u8, IntKind.wrap_u16]
    rfl
  refine pure_ (i := 4) (N := some 7) (v := ?_) (a' := ?_) #[true, true, true, false, true, false] rfl rfl (by kernel_rfl) (fun _ _ _ h => h) (Or.inl ⟨by rfl, ?_⟩) ?_ ?_
  rotate_left
  · intro w'
    go_simp
    with_reducible rfl
  rotate_left
  · simp only [Act.put, List.setIfInBounds_toArray, List.set_cons_zero, List.set_cons_succ, i64_w, i32_w, IntKind.wrap_u32, IntKind.wrap_u8, IntKind.wrap_u16]
    rfl
  refine take_ (i := 3) (N := some 22) (v := ?_) (a' := ?_) #[true, true, true, true, true, false] rfl rfl (by kernel_rfl) (fun _ _ _ h => h) (Or.inl ⟨by rfl, ?_⟩) hHeld ?_ ?_
  rotate_left
  · rintro w' ⟨s0, s1⟩
    go_simp
    with_reducible rfl
  rotate_left
  · simp only [Act.put, List.setIfInBounds_toArray, List.set_cons_zero, List.set_cons_succ, i64_w, i32_w, IntKind.wrap_u32, IntKind.wrap_u8, IntKind.wrap_u16]
    rfl
  refine pure_ (i := 5) (N := some 8) (v := ?_) (a' := ?_) #[true, true, true, true, true, true] rfl rfl (by kernel_rfl) (fun _ _ _ h => h) (Or.inl ⟨by rfl, ?_⟩) ?_ ?_
  rotate_left
  · intro w'
    go_simp
    with_reducible rfl
  rotate_left
  · simp only [Act.put, List.setIfInBounds_toArray, List.set_cons_zero, List.set_cons_succ, i64_w, i32_w, IntKind.wrap_u32, IntKind.wrap_u8, IntKind.wrap_u16]
    rfl
  refine done_ (by kernel_rfl) ?_
  go_wp2_with (first
    | (go_at_call 9; refine (HW.out (by repeat (with_reducible first | exact HS.out | apply sl_drewN | apply sl_drew | apply sl_box | apply sl_alloc))).mono ?_; rintro e w1 ⟨g, rfl, hs⟩; (try simp only [World.size_alloc] at hs); replace HS := Aside0.mk hs; clear hs; (try clear hm0 hm1 bl); have hm0 := c_at HS.out 0 rfl 0 rfl; have hm1 := c_at HS.out 0 rfl 1 rfl; have bl := blk_lt (sl_blk HS.out 0 rfl))
    | (go_at_call 10; with_reducible refine (Rsz_eq (s := S0) (by repeat (with_reducible first | exact HS.out | apply sl_drewN | apply sl_drew | apply sl_box | apply sl_alloc)) 2 _ sx sy H1.out.1 H1.out.2.1 H1.out.2.2.1 H1.out.2.2.2 rfl).mono ?_; rintro e w1 ⟨rfl, hs⟩; (try simp only [World.size_alloc] at hs); replace HS := Aside0.mk hs; clear hs; (try clear hm0 hm1 bl); have hm0 := c_at HS.out 0 rfl 0 rfl; have hm1 := c_at HS.out 0 rfl 1 rfl; have bl := blk_lt (sl_blk HS.out 0 rfl))
    | (go_at_call 11; refine (Acc_eq (s := S0) (by repeat (with_reducible first | exact HS.out | apply sl_drewN | apply sl_drew | apply sl_box | apply sl_alloc)) 2 gx gy H2.out.1 H2.out.2 (by rfl)).mono ?_; rintro e w1 ⟨rfl, hs⟩; (try simp only [World.size_alloc] at hs); replace HS := Aside0.mk hs; clear hs; (try clear hm0 hm1 bl); have hm0 := c_at HS.out 0 rfl 0 rfl; have hm1 := c_at HS.out 0 rfl 1 rfl; have bl := blk_lt (sl_blk HS.out 0 rfl))
    | (go_at_call 12; refine (Req_eq (s := S1) (by repeat (with_reducible first | exact HS.out | apply sl_drewN | apply sl_drew | apply sl_box | apply sl_alloc)) 2 4 true 0 0 0 0 H3.out.1 H3.out.2 (by rfl)).mono ?_; rintro e w1 ⟨rfl, hs⟩; (try simp only [World.size_alloc] at hs); replace HS := Aside0.mk hs; clear hs; (try clear hm0 hm1 bl); have hm0 := c_at HS.out 0 rfl 0 rfl; have hm1 := c_at HS.out 0 rfl 1 rfl; have bl := blk_lt (sl_blk HS.out 0 rfl))
    | (go_at_call 10; with_reducible refine (Rsz_eq (s := S2) (by repeat (with_reducible first | exact HS.out | apply sl_drewN | apply sl_drew | apply sl_box | apply sl_alloc)) 2 _ sx sy H4.out.1 H4.out.2.1 H4.out.2.2.1 H4.out.2.2.2 rfl).mono ?_; rintro e w1 ⟨rfl, hs⟩; (try simp only [World.size_alloc] at hs); replace HS := Aside0.mk hs; clear hs; (try clear hm0 hm1 bl); have hm0 := c_at HS.out 0 rfl 0 rfl; have hm1 := c_at HS.out 0 rfl 1 rfl; have bl := blk_lt (sl_blk HS.out 0 rfl))
    | (go_at_call 8; refine (ex_c (by repeat (with_reducible first | exact HS.out | apply sl_drewN | apply sl_drew | apply sl_box | apply sl_alloc))).mono ?_; rintro e w1 ⟨rfl, hs⟩; (try simp only [World.size_alloc] at hs); replace HS := Aside0.mk hs; clear hs))
  all_goals
    go_ret
    exact ⟨rfl, sl_below0 HS.out⟩
set_option maxHeartbeats 4000000 in
set_option maxRecDepth 100000 in
theorem ok_2 (gx gy sx sy : Int) (w : World) (h1 : 1 ≤ gx) (h2 : gx ≤ 16384) (h3 : 1 ≤ gy) (h4 : gy ≤ 16384) (hv : valB 1 sx sy = true) : Calls Try.prog 3 #[.agg #[.int .i64 gx, .int .i64 gy], .int .i64 2, .agg #[.int .i64 sx, .int .i64 sy]] w fun e w' => e = .returned (.bool true) ∧ Below w.heap.size w w' := by
  have HS := Aside0.mk (sl_box (sl_box (sl_start w) #[.int .i64 gx, .int .i64 gy] 23) #[.int .i64 sx, .int .i64 sy] 23)
  have d1 : decide (gx < 1) = false := decide_eq_false (by omega)
  have d2 : decide (16384 < gx) = false := decide_eq_false (by omega)
  have d3 : decide (gy < 1) = false := decide_eq_false (by omega)
  have d4 : decide (16384 < gy) = false := decide_eq_false (by omega)
  obtain ⟨S0, S1, S2, S3, f0, f1, f2, f3, f4⟩ := ed_facts 2 gx gy sx sy h1 h2 h3 h4 (E1 := 14) (E2 := 0) (A := gx) (B := sy) (by simp [edgeB, edX, edY, hv]) (by simp [edgeB, edX, edY, hv]) (by simp [edgeB, edX, edY, hv]) (by simp [edgeB, edX, edY, hv])
  have HW := Aside0.mk (show ∀ {w' : World} {L : List Res}, SL w w' L → Calls Try.prog 9 #[] w' fun e w'' => ∃ g : Nat, e = .returned (.pointer (some ⟨g, 0, none⟩)) ∧ SL w w'' (L ++ [winR g S0]) from fun h => f0 ▸ New_c h)
  have H1 := Aside0.mk f1
  have H2 := Aside0.mk f2
  have H3 := Aside0.mk f3
  have H4 := Aside0.mk f4
  clear f0 f1 f2 f3 f4 h1 h2 h3 h4 hv
  go_enter Try.func3, Try.ntmps3
  go_wp2_with (fail)
  simp only [World.size_alloc] at HS
  refine start_ (n := 6) (S := fun w' => w'.cell? ⟨w.heap.size + 1, 0, none⟩ = some (.int .i64 sx) ∧ w'.cell? ⟨w.heap.size + 1, 1, none⟩ = some (.int .i64 sy)) (ds := []) #[false, false, false, false, false, false] (by kernel_rfl) rfl rfl ⟨(c_at (sl_drew HS.out) 1 rfl 0 rfl), (c_at (sl_drew HS.out) 1 rfl 1 rfl)⟩ (fun hHeld => ?_)
  refine pure_ (i := 0) (N := some 19) (v := ?_) (a' := ?_) #[true, false, false, false, false, false] rfl rfl (by kernel_rfl) (fun _ _ _ h => h) (Or.inl ⟨by rfl, ?_⟩) ?_ ?_
  rotate_left
  · intro w'
    go_simp
    with_reducible rfl
  rotate_left
  · simp only [Act.put, List.setIfInBounds_toArray, List.set_cons_zero, List.set_cons_succ, i64_w, i32_w, IntKind.wrap_u32, IntKind.wrap_u8, IntKind.wrap_u16]
    rfl
  refine pure_ (i := 2) (N := some 21) (v := ?_) (a' := ?_) #[true, false, true, false, false, false] rfl rfl (by kernel_rfl) (fun _ _ _ h => h) (Or.inl ⟨by rfl, ?_⟩) ?_ ?_
  rotate_left
  · intro w'
    go_simp
    with_reducible rfl
  rotate_left
  · simp only [Act.put, List.setIfInBounds_toArray, List.set_cons_zero, List.set_cons_succ, i64_w, i32_w, IntKind.wrap_u32, IntKind.wrap_u8, IntKind.wrap_u16]
    rfl
  refine take_ (i := 1) (N := some 20) (v := ?_) (a' := ?_) #[true, true, true, false, false, false] rfl rfl (by kernel_rfl) (fun _ _ _ h => h) (Or.inl ⟨by rfl, ?_⟩) hHeld ?_ ?_
  rotate_left
  · rintro w' ⟨s0, s1⟩
    go_simp
    with_reducible rfl
  rotate_left
  · simp only [Act.put, List.setIfInBounds_toArray, List.set_cons_zero, List.set_cons_succ, i64_w, i32_w, IntKind.wrap_u32, IntKind.wrap_u8, IntKind.wrap_u16]
    rfl
  refine pure_ (i := 4) (N := some 7) (v := ?_) (a' := ?_) #[true, true, true, false, true, false] rfl rfl (by kernel_rfl) (fun _ _ _ h => h) (Or.inl ⟨by rfl, ?_⟩) ?_ ?_
  rotate_left
  · intro w'
    go_simp
    with_reducible rfl
  rotate_left
  · simp only [Act.put, List.setIfInBounds_toArray, List.set_cons_zero, List.set_cons_succ, i64_w, i32_w, IntKind.wrap_u32, IntKind.wrap_u8, IntKind.wrap_u16]
    rfl
  refine take_ (i := 3) (N := some 22) (v := ?_) (a' := ?_) #[true, true, true, true, true, false] rfl rfl (by kernel_rfl) (fun _ _ _ h => h) (Or.inl ⟨by rfl, ?_⟩) hHeld ?_ ?_
  rotate_left
  · rintro w' ⟨s0, s1⟩
    go_simp
    with_reducible rfl
  rotate_left
  · simp only [Act.put, List.setIfInBounds_toArray, List.set_cons_zero, List.set_cons_succ, i64_w, i32_w, IntKind.wrap_u32, IntKind.wrap_u8, IntKind.wrap_u16]
    rfl
  refine pure_ (i := 5) (N := some 8) (v := ?_) (a' := ?_) #[true, true, true, true, true, true] rfl rfl (by kernel_rfl) (fun _ _ _ h => h) (Or.inl ⟨by rfl, ?_⟩) ?_ ?_
  rotate_left
  · intro w'
    go_simp
    with_reducible rfl
  rotate_left
  · simp only [Act.put, List.setIfInBounds_toArray, List.set_cons_zero, List.set_cons_succ, i64_w, i32_w, IntKind.wrap_u32, IntKind.wrap_u8, IntKind.wrap_u16]
    rfl
  refine done_ (by kernel_rfl) ?_
  go_wp2_with (first
    | (go_at_call 9; refine (HW.out (by repeat (with_reducible first | exact HS.out | apply sl_drewN | apply sl_drew | apply sl_box | apply sl_alloc))).mono ?_; rintro e w1 ⟨g, rfl, hs⟩; (try simp only [World.size_alloc] at hs); replace HS := Aside0.mk hs; clear hs; (try clear hm0 hm1 bl); have hm0 := c_at HS.out 0 rfl 0 rfl; have hm1 := c_at HS.out 0 rfl 1 rfl; have bl := blk_lt (sl_blk HS.out 0 rfl))
    | (go_at_call 10; with_reducible refine (Rsz_eq (s := S0) (by repeat (with_reducible first | exact HS.out | apply sl_drewN | apply sl_drew | apply sl_box | apply sl_alloc)) 2 _ sx sy H1.out.1 H1.out.2.1 H1.out.2.2.1 H1.out.2.2.2 rfl).mono ?_; rintro e w1 ⟨rfl, hs⟩; (try simp only [World.size_alloc] at hs); replace HS := Aside0.mk hs; clear hs; (try clear hm0 hm1 bl); have hm0 := c_at HS.out 0 rfl 0 rfl; have hm1 := c_at HS.out 0 rfl 1 rfl; have bl := blk_lt (sl_blk HS.out 0 rfl))
    | (go_at_call 11; refine (Acc_eq (s := S0) (by repeat (with_reducible first | exact HS.out | apply sl_drewN | apply sl_drew | apply sl_box | apply sl_alloc)) 2 gx gy H2.out.1 H2.out.2 (by rfl)).mono ?_; rintro e w1 ⟨rfl, hs⟩; (try simp only [World.size_alloc] at hs); replace HS := Aside0.mk hs; clear hs; (try clear hm0 hm1 bl); have hm0 := c_at HS.out 0 rfl 0 rfl; have hm1 := c_at HS.out 0 rfl 1 rfl; have bl := blk_lt (sl_blk HS.out 0 rfl))
    | (go_at_call 12; refine (Req_eq (s := S1) (by repeat (with_reducible first | exact HS.out | apply sl_drewN | apply sl_drew | apply sl_box | apply sl_alloc)) 2 4 true 0 0 0 0 H3.out.1 H3.out.2 (by rfl)).mono ?_; rintro e w1 ⟨rfl, hs⟩; (try simp only [World.size_alloc] at hs); replace HS := Aside0.mk hs; clear hs; (try clear hm0 hm1 bl); have hm0 := c_at HS.out 0 rfl 0 rfl; have hm1 := c_at HS.out 0 rfl 1 rfl; have bl := blk_lt (sl_blk HS.out 0 rfl))
    | (go_at_call 10; with_reducible refine (Rsz_eq (s := S2) (by repeat (with_reducible first | exact HS.out | apply sl_drewN | apply sl_drew | apply sl_box | apply sl_alloc)) 2 _ sx sy H4.out.1 H4.out.2.1 H4.out.2.2.1 H4.out.2.2.2 rfl).mono ?_; rintro e w1 ⟨rfl, hs⟩; (try simp only [World.size_alloc] at hs); replace HS := Aside0.mk hs; clear hs; (try clear hm0 hm1 bl); have hm0 := c_at HS.out 0 rfl 0 rfl; have hm1 := c_at HS.out 0 rfl 1 rfl; have bl := blk_lt (sl_blk HS.out 0 rfl))
    | (go_at_call 8; refine (ex_c (by repeat (with_reducible first | exact HS.out | apply sl_drewN | apply sl_drew | apply sl_box | apply sl_alloc))).mono ?_; rintro e w1 ⟨rfl, hs⟩; (try simp only [World.size_alloc] at hs); replace HS := Aside0.mk hs; clear hs))
  all_goals
    go_ret
    exact ⟨rfl, sl_below0 HS.out⟩
set_option maxHeartbeats 4000000 in
set_option maxRecDepth 100000 in
theorem no_4 (gx gy sx sy : Int) (w : World) (h1 : 1 ≤ gx) (h2 : gx ≤ 16384) (h3 : 1 ≤ gy) (h4 : gy ≤ 16384) (hv : valB 1 sx sy = false) : Calls Try.prog 3 #[.agg #[.int .i64 gx, .int .i64 gy], .int .i64 4, .agg #[.int .i64 sx, .int .i64 sy]] w fun e w' => e = .returned (.bool true) ∧ Below w.heap.size w w' := by
  have HS := Aside0.mk (sl_box (sl_box (sl_start w) #[.int .i64 gx, .int .i64 gy] 23) #[.int .i64 sx, .int .i64 sy] 23)
  have d1 : decide (gx < 1) = false := decide_eq_false (by omega)
  have d2 : decide (16384 < gx) = false := decide_eq_false (by omega)
  have d3 : decide (gy < 1) = false := decide_eq_false (by omega)
  have d4 : decide (16384 < gy) = false := decide_eq_false (by omega)
  obtain ⟨S0, S1, S2, S3, f0, f1, f2, f3, f4⟩ := ed_facts 4 gx gy sx sy h1 h2 h3 h4 (E1 := 14) (E2 := 6) (A := 0) (B := 0) (by simp [edgeB, edX, edY, hv]) (by simp [edgeB, edX, edY, hv]) (by simp [edgeB, edX, edY, hv]) (by simp [edgeB, edX, edY, hv])
  have HW := Aside0.mk (show ∀ {w' : World} {L : List Res}, SL w w' L → Calls Try.prog 9 #[] w' fun e w'' => ∃ g : Nat, e = .returned (.pointer (some ⟨g, 0, none⟩)) ∧ SL w w'' (L ++ [winR g S0]) from fun h => f0 ▸ New_c h)
  have H1 := Aside0.mk f1
  have H2 := Aside0.mk f2
  have H3 := Aside0.mk f3
  have H4 := Aside0.mk f4
  clear f0 f1 f2 f3 f4 h1 h2 h3 h4 hv
  go_enter Try.func3, Try.ntmps3
  go_wp2_with (fail)
  simp only [World.size_alloc] at HS
  refine start_ (n := 6) (S := fun w' => w'.cell? ⟨w.heap.size + 1, 0, none⟩ = some (.int .i64 sx) ∧ w'.cell? ⟨w.heap.size + 1, 1, none⟩ = some (.int .i64 sy)) (ds := []) #[false, false, false, false, false, false] (by kernel_rfl) rfl rfl ⟨(c_at (sl_drew HS.out) 1 rfl 0 rfl), (c_at (sl_drew HS.out) 1 rfl 1 rfl)⟩ (fun hHeld => ?_)
  refine pure_ (i := 0) (N := some 19) (v := ?_) (a' := ?_) #[true, false, false, false, false, false] rfl rfl (by kernel_rfl) (fun _ _ _ h => h) (Or.inl ⟨by rfl, ?_⟩) ?_ ?_
  rotate_left
  · intro w'
    go_simp
    with_reducible rfl
  rotate_left
  · simp only [Act.put, List.setIfInBounds_toArray, List.set_cons_zero, List.set_cons_succ, i64_w, i32_w, IntKind.wrap_u32, IntKind.wrap_u8, IntKind.wrap_u16]
    rfl
  refine pure_ (i := 2) (N := some 21) (v := ?_) (a' := ?_) #[true, false, true, false, false, false] rfl rfl (by kernel_rfl) (fun _ _ _ h => h) (Or.inl ⟨by rfl, ?_⟩) ?_ ?_
  rotate_left
  · intro w'
    go_simp
    with_reducible rfl
  rotate_left
  · simp only [Act.put, List.setIfInBounds_toArray, List.set_cons_zero, List.set_cons_succ, i64_w, i32_w, IntKind.wrap_u32, IntKind.wrap_u8, IntKind.wrap_u16]
    rfl
  refine take_ (i := 1) (N := some 20) (v := ?_) (a' := ?_) #[true, true, true, false, false, false] rfl rfl (by kernel_rfl) (fun _ _ _ h => h) (Or.inl ⟨by rfl, ?_⟩) hHeld ?_ ?_
  rotate_left
  · rintro w' ⟨s0, s1⟩
    go_simp
    with_reducible rfl
  rotate_left
  · simp only [Act.put, List.setIfInBounds_toArray, List.set_cons_zero, List.set_cons_succ, i64_w, i32_w, IntKind.wrap_u32, IntKind.wrap_u8, IntKind.wrap_u16]
    rfl
  refine pure_ (i := 4) (N := some 7) (v := ?_) (a' := ?_) #[true, true, true, false, true, false] rfl rfl (by kernel_rfl) (fun _ _ _ h => h) (Or.inl ⟨by rfl, ?_⟩) ?_ ?_
  rotate_left
  · intro w'
    go_simp
    with_reducible rfl
  rotate_left
  · simp only [Act.put, List.setIfInBounds_toArray, List.set_cons_zero, List.set_cons_succ, i64_w, i32_w, IntKind.wrap_u32, IntKind.wrap_u8, IntKind.wrap_u16]
    rfl
  refine take_ (i := 3) (N := some 22) (v := ?_) (a' := ?_) #[true, true, true, true, true, false] rfl rfl (by kernel_rfl) (fun _ _ _ h => h) (Or.inl ⟨by rfl, ?_⟩) hHeld ?_ ?_
  rotate_left
  · rintro w' ⟨s0, s1⟩
    go_simp
    with_reducible rfl
  rotate_left
  · simp only [Act.put, List.setIfInBounds_toArray, List.set_cons_zero, List.set_cons_succ, i64_w, i32_w, IntKind.wrap_u32, IntKind.wrap_u8, IntKind.wrap_u16]
    rfl
  refine pure_ (i := 5) (N := some 8) (v := ?_) (a' := ?_) #[true, true, true, true, true, true] rfl rfl (by kernel_rfl) (fun _ _ _ h => h) (Or.inl ⟨by rfl, ?_⟩) ?_ ?_
  rotate_left
  · intro w'
    go_simp
    with_reducible rfl
  rotate_left
  · simp only [Act.put, List.setIfInBounds_toArray, List.set_cons_zero, List.set_cons_succ, i64_w, i32_w, IntKind.wrap_u32, IntKind.wrap_u8, IntKind.wrap_u16]
    rfl
  refine done_ (by kernel_rfl) ?_
  go_wp2_with (first
    | (go_at_call 9; refine (HW.out (by repeat (with_reducible first | exact HS.out | apply sl_drewN | apply sl_drew | apply sl_box | apply sl_alloc))).mono ?_; rintro e w1 ⟨g, rfl, hs⟩; (try simp only [World.size_alloc] at hs); replace HS := Aside0.mk hs; clear hs; (try clear hm0 hm1 bl); have hm0 := c_at HS.out 0 rfl 0 rfl; have hm1 := c_at HS.out 0 rfl 1 rfl; have bl := blk_lt (sl_blk HS.out 0 rfl))
    | (go_at_call 10; with_reducible refine (Rsz_eq (s := S0) (by repeat (with_reducible first | exact HS.out | apply sl_drewN | apply sl_drew | apply sl_box | apply sl_alloc)) 2 _ sx sy H1.out.1 H1.out.2.1 H1.out.2.2.1 H1.out.2.2.2 rfl).mono ?_; rintro e w1 ⟨rfl, hs⟩; (try simp only [World.size_alloc] at hs); replace HS := Aside0.mk hs; clear hs; (try clear hm0 hm1 bl); have hm0 := c_at HS.out 0 rfl 0 rfl; have hm1 := c_at HS.out 0 rfl 1 rfl; have bl := blk_lt (sl_blk HS.out 0 rfl))
    | (go_at_call 11; refine (Acc_eq (s := S0) (by repeat (with_reducible first | exact HS.out | apply sl_drewN | apply sl_drew | apply sl_box | apply sl_alloc)) 2 gx gy H2.out.1 H2.out.2 (by rfl)).mono ?_; rintro e w1 ⟨rfl, hs⟩; (try simp only [World.size_alloc] at hs); replace HS := Aside0.mk hs; clear hs; (try clear hm0 hm1 bl); have hm0 := c_at HS.out 0 rfl 0 rfl; have hm1 := c_at HS.out 0 rfl 1 rfl; have bl := blk_lt (sl_blk HS.out 0 rfl))
    | (go_at_call 12; refine (Req_eq (s := S1) (by repeat (with_reducible first | exact HS.out | apply sl_drewN | apply sl_drew | apply sl_box | apply sl_alloc)) 2 4 true 0 0 0 0 H3.out.1 H3.out.2 (by rfl)).mono ?_; rintro e w1 ⟨rfl, hs⟩; (try simp only [World.size_alloc] at hs); replace HS := Aside0.mk hs; clear hs; (try clear hm0 hm1 bl); have hm0 := c_at HS.out 0 rfl 0 rfl; have hm1 := c_at HS.out 0 rfl 1 rfl; have bl := blk_lt (sl_blk HS.out 0 rfl))
    | (go_at_call 10; with_reducible refine (Rsz_eq (s := S2) (by repeat (with_reducible first | exact HS.out | apply sl_drewN | apply sl_drew | apply sl_box | apply sl_alloc)) 2 _ sx sy H4.out.1 H4.out.2.1 H4.out.2.2.1 H4.out.2.2.2 rfl).mono ?_; rintro e w1 ⟨rfl, hs⟩; (try simp only [World.size_alloc] at hs); replace HS := Aside0.mk hs; clear hs; (try clear hm0 hm1 bl); have hm0 := c_at HS.out 0 rfl 0 rfl; have hm1 := c_at HS.out 0 rfl 1 rfl; have bl := blk_lt (sl_blk HS.out 0 rfl))
    | (go_at_call 8; refine (ex_c (by repeat (with_reducible first | exact HS.out | apply sl_drewN | apply sl_drew | apply sl_box | apply sl_alloc))).mono ?_; rintro e w1 ⟨rfl, hs⟩; (try simp only [World.size_alloc] at hs); replace HS := Aside0.mk hs; clear hs))
  all_goals
    go_ret
    exact ⟨rfl, sl_below0 HS.out⟩
set_option maxHeartbeats 4000000 in
set_option maxRecDepth 100000 in
theorem ok_4 (gx gy sx sy : Int) (w : World) (h1 : 1 ≤ gx) (h2 : gx ≤ 16384) (h3 : 1 ≤ gy) (h4 : gy ≤ 16384) (hv : valB 1 sx sy = true) : Calls Try.prog 3 #[.agg #[.int .i64 gx, .int .i64 gy], .int .i64 4, .agg #[.int .i64 sx, .int .i64 sy]] w fun e w' => e = .returned (.bool true) ∧ Below w.heap.size w w' := by
  have HS := Aside0.mk (sl_box (sl_box (sl_start w) #[.int .i64 gx, .int .i64 gy] 23) #[.int .i64 sx, .int .i64 sy] 23)
  have d1 : decide (gx < 1) = false := decide_eq_false (by omega)
  have d2 : decide (16384 < gx) = false := decide_eq_false (by omega)
  have d3 : decide (gy < 1) = false := decide_eq_false (by omega)
  have d4 : decide (16384 < gy) = false := decide_eq_false (by omega)
  obtain ⟨S0, S1, S2, S3, f0, f1, f2, f3, f4⟩ := ed_facts 4 gx gy sx sy h1 h2 h3 h4 (E1 := 14) (E2 := 0) (A := sx) (B := gy) (by simp [edgeB, edX, edY, hv]) (by simp [edgeB, edX, edY, hv]) (by simp [edgeB, edX, edY, hv]) (by simp [edgeB, edX, edY, hv])
  have HW := Aside0.mk (show ∀ {w' : World} {L : List Res}, SL w w' L → Calls Try.prog 9 #[] w' fun e w'' => ∃ g : Nat, e = .returned (.pointer (some ⟨g, 0, none⟩)) ∧ SL w w'' (L ++ [winR g S0]) from fun h => f0 ▸ New_c h)
  have H1 := Aside0.mk f1
  have H2 := Aside0.mk f2
  have H3 := Aside0.mk f3
  have H4 := Aside0.mk f4
  clear f0 f1 f2 f3 f4 h1 h2 h3 h4 hv
  go_enter Try.func3, Try.ntmps3
  go_wp2_with (fail)
  simp only [World.size_alloc] at HS
  refine start_ (n := 6) (S := fun w' => w'.cell? ⟨w.heap.size + 1, 0, none⟩ = some (.int .i64 sx) ∧ w'.cell? ⟨w.heap.size + 1, 1, none⟩ = some (.int .i64 sy)) (ds := []) #[false, false, false, false, false, false] (by kernel_rfl) rfl rfl ⟨(c_at (sl_drew HS.out) 1 rfl 0 rfl), (c_at (sl_drew HS.out) 1 rfl 1 rfl)⟩ (fun hHeld => ?_)
  refine pure_ (i := 0) (N := some 19) (v := ?_) (a' := ?_) #[true, false, false, false, false, false] rfl rfl (by kernel_rfl) (fun _ _ _ h => h) (Or.inl ⟨by rfl, ?_⟩) ?_ ?_
  rotate_left
  · intro w'
    go_simp
    with_reducible rfl
  rotate_left
  · simp only [Act.put, List.setIfInBounds_toArray, List.set_cons_zero, List.set_cons_succ, i64_w, i32_w, IntKind.wrap_u32, IntKind.wrap_u8, IntKind.wrap_u16]
    rfl
  refine pure_ (i := 2) (N := some 21) (v := ?_) (a' := ?_) #[true, false, true, false, false, false] rfl rfl (by kernel_rfl) (fun _ _ _ h => h) (Or.inl ⟨by rfl, ?_⟩) ?_ ?_
  rotate_left
  · intro w'
    go_simp
    with_reducible rfl
  rotate_left
  · simp only [Act.put, List.setIfInBounds_toArray, List.set_cons_zero, List.set_cons_succ, i64_w, i32_w, IntKind.wrap_u32, IntKind.wrap_u8, IntKind.wrap_u16]
    rfl
  refine take_ (i := 1) (N := some 20) (v := ?_) (a' := ?_) #[true, true, true, false, false, false] rfl rfl (by kernel_rfl) (fun _ _ _ h => h) (Or.inl ⟨by rfl, ?_⟩) hHeld ?_ ?_
  rotate_left
  · rintro w' ⟨s0, s1⟩
    go_simp
    with_reducible rfl
  rotate_left
  · simp only [Act.put, List.setIfInBounds_toArray, List.set_cons_zero, List.set_cons_succ, i64_w, i32_w, IntKind.wrap_u32, IntKind.wrap_u8, IntKind.wrap_u16]
    rfl
  refine pure_ (i := 4) (N := some 7) (v := ?_) (a' := ?_) #[true, true, true, false, true, false] rfl rfl (by kernel_rfl) (fun _ _ _ h => h) (Or.inl ⟨by rfl, ?_⟩) ?_ ?_
  rotate_left
  · intro w'
    go_simp
    with_reducible rfl
  rotate_left
  · simp only [Act.put, List.setIfInBounds_toArray, List.set_cons_zero, List.set_cons_succ, i64_w, i32_w, IntKind.wrap_u32, IntKind.wrap_u8, IntKind.wrap_u16]
    rfl
  refine take_ (i := 3) (N := some 22) (v := ?_) (a' := ?_) #[true, true, true, true, true, false] rfl rfl (by kernel_rfl) (fun _ _ _ h => h) (Or.inl ⟨by rfl, ?_⟩) hHeld ?_ ?_
  rotate_left
  · rintro w' ⟨s0, s1⟩
    go_simp
    with_reducible rfl
  rotate_left
  · simp only [Act.put, List.setIfInBounds_toArray, List.set_cons_zero, List.set_cons_succ, i64_w, i32_w, IntKind.wrap_u32, IntKind.wrap_u8, IntKind.wrap_u16]
    rfl
  refine pure_ (i := 5) (N := some 8) (v := ?_) (a' := ?_) #[true, true, true, true, true, true] rfl rfl (by kernel_rfl) (fun _ _ _ h => h) (Or.inl ⟨by rfl, ?_⟩) ?_ ?_
  rotate_left
  · intro w'
    go_simp
    with_reducible rfl
  rotate_left
  · simp only [Act.put, List.setIfInBounds_toArray, List.set_cons_zero, List.set_cons_succ, i64_w, i32_w, IntKind.wrap_u32, IntKind.wrap_u8, IntKind.wrap_u16]
    rfl
  refine done_ (by kernel_rfl) ?_
  go_wp2_with (first
    | (go_at_call 9; refine (HW.out (by repeat (with_reducible first | exact HS.out | apply sl_drewN | apply sl_drew | apply sl_box | apply sl_alloc))).mono ?_; rintro e w1 ⟨g, rfl, hs⟩; (try simp only [World.size_alloc] at hs); replace HS := Aside0.mk hs; clear hs; (try clear hm0 hm1 bl); have hm0 := c_at HS.out 0 rfl 0 rfl; have hm1 := c_at HS.out 0 rfl 1 rfl; have bl := blk_lt (sl_blk HS.out 0 rfl))
    | (go_at_call 10; with_reducible refine (Rsz_eq (s := S0) (by repeat (with_reducible first | exact HS.out | apply sl_drewN | apply sl_drew | apply sl_box | apply sl_alloc)) 2 _ sx sy H1.out.1 H1.out.2.1 H1.out.2.2.1 H1.out.2.2.2 rfl).mono ?_; rintro e w1 ⟨rfl, hs⟩; (try simp only [World.size_alloc] at hs); replace HS := Aside0.mk hs; clear hs; (try clear hm0 hm1 bl); have hm0 := c_at HS.out 0 rfl 0 rfl; have hm1 := c_at HS.out 0 rfl 1 rfl; have bl := blk_lt (sl_blk HS.out 0 rfl))
    | (go_at_call 11; refine (Acc_eq (s := S0) (by repeat (with_reducible first | exact HS.out | apply sl_drewN | apply sl_drew | apply sl_box | apply sl_alloc)) 2 gx gy H2.out.1 H2.out.2 (by rfl)).mono ?_; rintro e w1 ⟨rfl, hs⟩; (try simp only [World.size_alloc] at hs); replace HS := Aside0.mk hs; clear hs; (try clear hm0 hm1 bl); have hm0 := c_at HS.out 0 rfl 0 rfl; have hm1 := c_at HS.out 0 rfl 1 rfl; have bl := blk_lt (sl_blk HS.out 0 rfl))
    | (go_at_call 12; refine (Req_eq (s := S1) (by repeat (with_reducible first | exact HS.out | apply sl_drewN | apply sl_drew | apply sl_box | apply sl_alloc)) 2 4 true 0 0 0 0 H3.out.1 H3.out.2 (by rfl)).mono ?_; rintro e w1 ⟨rfl, hs⟩; (try simp only [World.size_alloc] at hs); replace HS := Aside0.mk hs; clear hs; (try clear hm0 hm1 bl); have hm0 := c_at HS.out 0 rfl 0 rfl; have hm1 := c_at HS.out 0 rfl 1 rfl; have bl := blk_lt (sl_blk HS.out 0 rfl))
    | (go_at_call 10; with_reducible refine (Rsz_eq (s := S2) (by repeat (with_reducible first | exact HS.out | apply sl_drewN | apply sl_drew | apply sl_box | apply sl_alloc)) 2 _ sx sy H4.out.1 H4.out.2.1 H4.out.2.2.1 H4.out.2.2.2 rfl).mono ?_; rintro e w1 ⟨rfl, hs⟩; (try simp only [World.size_alloc] at hs); replace HS := Aside0.mk hs; clear hs; (try clear hm0 hm1 bl); have hm0 := c_at HS.out 0 rfl 0 rfl; have hm1 := c_at HS.out 0 rfl 1 rfl; have bl := blk_lt (sl_blk HS.out 0 rfl))
    | (go_at_call 8; refine (ex_c (by repeat (with_reducible first | exact HS.out | apply sl_drewN | apply sl_drew | apply sl_box | apply sl_alloc))).mono ?_; rintro e w1 ⟨rfl, hs⟩; (try simp only [World.size_alloc] at hs); replace HS := Aside0.mk hs; clear hs))
  all_goals
    go_ret
    exact ⟨rfl, sl_below0 HS.out⟩
set_option maxHeartbeats 4000000 in
set_option maxRecDepth 100000 in
theorem no_5 (gx gy sx sy : Int) (w : World) (h1 : 1 ≤ gx) (h2 : gx ≤ 16384) (h3 : 1 ≤ gy) (h4 : gy ≤ 16384) (hv : valB 1 sx sy = false) : Calls Try.prog 3 #[.agg #[.int .i64 gx, .int .i64 gy], .int .i64 5, .agg #[.int .i64 sx, .int .i64 sy]] w fun e w' => e = .returned (.bool true) ∧ Below w.heap.size w w' := by
  have HS := Aside0.mk (sl_box (sl_box (sl_start w) #[.int .i64 gx, .int .i64 gy] 23) #[.int .i64 sx, .int .i64 sy] 23)
  have d1 : decide (gx < 1) = false := decide_eq_false (by omega)
  have d2 : decide (16384 < gx) = false := decide_eq_false (by omega)
  have d3 : decide (gy < 1) = false := decide_eq_false (by omega)
  have d4 : decide (16384 < gy) = false := decide_eq_false (by omega)
  obtain ⟨S0, S1, S2, S3, f0, f1, f2, f3, f4⟩ := ed_facts 5 gx gy sx sy h1 h2 h3 h4 (E1 := 14) (E2 := 6) (A := 0) (B := 0) (by simp [edgeB, edX, edY, hv]) (by simp [edgeB, edX, edY, hv]) (by simp [edgeB, edX, edY, hv]) (by simp [edgeB, edX, edY, hv])
  have HW := Aside0.mk (show ∀ {w' : World} {L : List Res}, SL w w' L → Calls Try.prog 9 #[] w' fun e w'' => ∃ g : Nat, e = .returned (.pointer (some ⟨g, 0, none⟩)) ∧ SL w w'' (L ++ [winR g S0]) from fun h => f0 ▸ New_c h)
  have H1 := Aside0.mk f1
  have H2 := Aside0.mk f2
  have H3 := Aside0.mk f3
  have H4 := Aside0.mk f4
  clear f0 f1 f2 f3 f4 h1 h2 h3 h4 hv
  go_enter Try.func3, Try.ntmps3
  go_wp2_with (fail)
  simp only [World.size_alloc] at HS
  refine start_ (n := 6) (S := fun w' => w'.cell? ⟨w.heap.size + 1, 0, none⟩ = some (.int .i64 sx) ∧ w'.cell? ⟨w.heap.size + 1, 1, none⟩ = some (.int .i64 sy)) (ds := []) #[false, false, false, false, false, false] (by kernel_rfl) rfl rfl ⟨(c_at (sl_drew HS.out) 1 rfl 0 rfl), (c_at (sl_drew HS.out) 1 rfl 1 rfl)⟩ (fun hHeld => ?_)
  refine pure_ (i := 0) (N := some 19) (v := ?_) (a' := ?_) #[true, false, false, false, false, false] rfl rfl (by kernel_rfl) (fun _ _ _ h => h) (Or.inl ⟨by rfl, ?_⟩) ?_ ?_
  rotate_left
  · intro w'
    go_simp
    with_reducible rfl
  rotate_left
  · simp only [Act.put, List.setIfInBounds_toArray, List.set_cons_zero, List.set_cons_succ, i64_w, i32_w, IntKind.wrap_u32, IntKind.wrap_u8, IntKind.wrap_u16]
    rfl
  refine pure_ (i := 2) (N := some 21) (v := ?_) (a' := ?_) #[true, false, true, false, false, false] rfl rfl (by kernel_rfl) (fun _ _ _ h => h) (Or.inl ⟨by rfl, ?_⟩) ?_ ?_
  rotate_left
  · intro w'
    go_simp
    with_reducible rfl
  rotate_left
  · simp only [Act.put, List.setIfInBounds_toArray, List.set_cons_zero, List.set_cons_succ, i64_w, i32_w, IntKind.wrap_u32, IntKind.wrap_u8, IntKind.wrap_u16]
    rfl
  refine take_ (i := 1) (N := some 20) (v := ?_) (a' := ?_) #[true, true, true, false, false, false] rfl rfl (by kernel_rfl) (fun _ _ _ h => h) (Or.inl ⟨by rfl, ?_⟩) hHeld ?_ ?_
  rotate_left
  · rintro w' ⟨s0, s1⟩
    go_simp
    with_reducible rfl
  rotate_left
  · simp only [Act.put, List.setIfInBounds_toArray, List.set_cons_zero, List.set_cons_succ, i64_w, i32_w, IntKind.wrap_u32, IntKind.wrap_u8, IntKind.wrap_u16]
    rfl
  refine pure_ (i := 4) (N := some 7) (v := ?_) (a' := ?_) #[true, true, true, false, true, false] rfl rfl (by kernel_rfl) (fun _ _ _ h => h) (Or.inl ⟨by rfl, ?_⟩) ?_ ?_
  rotate_left
  · intro w'
    go_simp
    with_reducible rfl
  rotate_left
  · simp only [Act.put, List.setIfInBounds_toArray, List.set_cons_zero, List.set_cons_succ, i64_w, i32_w, IntKind.wrap_u32, IntKind.wrap_u8, IntKind.wrap_u16]
    rfl
  refine take_ (i := 3) (N := some 22) (v := ?_) (a' := ?_) #[true, true, true, true, true, false] rfl rfl (by kernel_rfl) (fun _ _ _ h => h) (Or.inl ⟨by rfl, ?_⟩) hHeld ?_ ?_
  rotate_left
  · rintro w' ⟨s0, s1⟩
    go_simp
    with_reducible rfl
  rotate_left
  · simp only [Act.put, List.setIfInBounds_toArray, List.set_cons_zero, List.set_cons_succ, i64_w, i32_w, IntKind.wrap_u32, IntKind.wrap_u8, IntKind.wrap_u16]
    rfl
  refine pure_ (i := 5) (N := some 8) (v := ?_) (a' := ?_) #[true, true, true, true, true, true] rfl rfl (by kernel_rfl) (fun _ _ _ h => h) (Or.inl ⟨by rfl, ?_⟩) ?_ ?_
  rotate_left
  · intro w'
    go_simp
    with_reducible rfl
  rotate_left
  · simp only [Act.put, List.setIfInBounds_toArray, List.set_cons_zero, List.set_cons_succ, i64_w, i32_w, IntKind.wrap_u32, IntKind.wrap_u8, IntKind.wrap_u16]
    rfl
  refine done_ (by kernel_rfl) ?_
  go_wp2_with (first
    | (go_at_call 9; refine (HW.out (by repeat (with_reducible first | exact HS.out | apply sl_drewN | apply sl_drew | apply sl_box | apply sl_alloc))).mono ?_; rintro e w1 ⟨g, rfl, hs⟩; (try simp only [World.size_alloc] at hs); replace HS := Aside0.mk hs; clear hs; (try clear hm0 hm1 bl); have hm0 := c_at HS.out 0 rfl 0 rfl; have hm1 := c_at HS.out 0 rfl 1 rfl; have bl := blk_lt (sl_blk HS.out 0 rfl))
    | (go_at_call 10; with_reducible refine (Rsz_eq (s := S0) (by repeat (with_reducible first | exact HS.out | apply sl_drewN | apply sl_drew | apply sl_box | apply sl_alloc)) 2 _ sx sy H1.out.1 H1.out.2.1 H1.out.2.2.1 H1.out.2.2.2 rfl).mono ?_; rintro e w1 ⟨rfl, hs⟩; (try simp only [World.size_alloc] at hs); replace HS := Aside0.mk hs; clear hs; (try clear hm0 hm1 bl); have hm0 := c_at HS.out 0 rfl 0 rfl; have hm1 := c_at HS.out 0 rfl 1 rfl; have bl := blk_lt (sl_blk HS.out 0 rfl))
    | (go_at_call 11; refine (Acc_eq (s := S0) (by repeat (with_reducible first | exact HS.out | apply sl_drewN | apply sl_drew | apply sl_box | apply sl_alloc)) 2 gx gy H2.out.1 H2.out.2 (by rfl)).mono ?_; rintro e w1 ⟨rfl, hs⟩; (try simp only [World.size_alloc] at hs); replace HS := Aside0.mk hs; clear hs; (try clear hm0 hm1 bl); have hm0 := c_at HS.out 0 rfl 0 rfl; have hm1 := c_at HS.out 0 rfl 1 rfl; have bl := blk_lt (sl_blk HS.out 0 rfl))
    | (go_at_call 12; refine (Req_eq (s := S1) (by repeat (with_reducible first | exact HS.out | apply sl_drewN | apply sl_drew | apply sl_box | apply sl_alloc)) 2 4 true 0 0 0 0 H3.out.1 H3.out.2 (by rfl)).mono ?_; rintro e w1 ⟨rfl, hs⟩; (try simp only [World.size_alloc] at hs); replace HS := Aside0.mk hs; clear hs; (try clear hm0 hm1 bl); have hm0 := c_at HS.out 0 rfl 0 rfl; have hm1 := c_at HS.out 0 rfl 1 rfl; have bl := blk_lt (sl_blk HS.out 0 rfl))
    | (go_at_call 10; with_reducible refine (Rsz_eq (s := S2) (by repeat (with_reducible first | exact HS.out | apply sl_drewN | apply sl_drew | apply sl_box | apply sl_alloc)) 2 _ sx sy H4.out.1 H4.out.2.1 H4.out.2.2.1 H4.out.2.2.2 rfl).mono ?_; rintro e w1 ⟨rfl, hs⟩; (try simp only [World.size_alloc] at hs); replace HS := Aside0.mk hs; clear hs; (try clear hm0 hm1 bl); have hm0 := c_at HS.out 0 rfl 0 rfl; have hm1 := c_at HS.out 0 rfl 1 rfl; have bl := blk_lt (sl_blk HS.out 0 rfl))
    | (go_at_call 8; refine (ex_c (by repeat (with_reducible first | exact HS.out | apply sl_drewN | apply sl_drew | apply sl_box | apply sl_alloc))).mono ?_; rintro e w1 ⟨rfl, hs⟩; (try simp only [World.size_alloc] at hs); replace HS := Aside0.mk hs; clear hs))
  all_goals
    go_ret
    exact ⟨rfl, sl_below0 HS.out⟩
set_option maxHeartbeats 4000000 in
set_option maxRecDepth 100000 in
theorem ok_5 (gx gy sx sy : Int) (w : World) (h1 : 1 ≤ gx) (h2 : gx ≤ 16384) (h3 : 1 ≤ gy) (h4 : gy ≤ 16384) (hv : valB 1 sx sy = true) : Calls Try.prog 3 #[.agg #[.int .i64 gx, .int .i64 gy], .int .i64 5, .agg #[.int .i64 sx, .int .i64 sy]] w fun e w' => e = .returned (.bool true) ∧ Below w.heap.size w w' := by
  have HS := Aside0.mk (sl_box (sl_box (sl_start w) #[.int .i64 gx, .int .i64 gy] 23) #[.int .i64 sx, .int .i64 sy] 23)
  have d1 : decide (gx < 1) = false := decide_eq_false (by omega)
  have d2 : decide (16384 < gx) = false := decide_eq_false (by omega)
  have d3 : decide (gy < 1) = false := decide_eq_false (by omega)
  have d4 : decide (16384 < gy) = false := decide_eq_false (by omega)
  obtain ⟨S0, S1, S2, S3, f0, f1, f2, f3, f4⟩ := ed_facts 5 gx gy sx sy h1 h2 h3 h4 (E1 := 14) (E2 := 0) (A := sx) (B := sy) (by simp [edgeB, edX, edY, hv]) (by simp [edgeB, edX, edY, hv]) (by simp [edgeB, edX, edY, hv]) (by simp [edgeB, edX, edY, hv])
  have HW := Aside0.mk (show ∀ {w' : World} {L : List Res}, SL w w' L → Calls Try.prog 9 #[] w' fun e w'' => ∃ g : Nat, e = .returned (.pointer (some ⟨g, 0, none⟩)) ∧ SL w w'' (L ++ [winR g S0]) from fun h => f0 ▸ New_c h)
  have H1 := Aside0.mk f1
  have H2 := Aside0.mk f2
  have H3 := Aside0.mk f3
  have H4 := Aside0.mk f4
  clear f0 f1 f2 f3 f4 h1 h2 h3 h4 hv
  go_enter Try.func3, Try.ntmps3
  go_wp2_with (fail)
  simp only [World.size_alloc] at HS
  refine start_ (n := 6) (S := fun w' => w'.cell? ⟨w.heap.size + 1, 0, none⟩ = some (.int .i64 sx) ∧ w'.cell? ⟨w.heap.size + 1, 1, none⟩ = some (.int .i64 sy)) (ds := []) #[false, false, false, false, false, false] (by kernel_rfl) rfl rfl ⟨(c_at (sl_drew HS.out) 1 rfl 0 rfl), (c_at (sl_drew HS.out) 1 rfl 1 rfl)⟩ (fun hHeld => ?_)
  refine pure_ (i := 0) (N := some 19) (v := ?_) (a' := ?_) #[true, false, false, false, false, false] rfl rfl (by kernel_rfl) (fun _ _ _ h => h) (Or.inl ⟨by rfl, ?_⟩) ?_ ?_
  rotate_left
  · intro w'
    go_simp
    with_reducible rfl
  rotate_left
  · simp only [Act.put, List.setIfInBounds_toArray, List.set_cons_zero, List.set_cons_succ, i64_w, i32_w, IntKind.wrap_u32, IntKind.wrap_u8, IntKind.wrap_u16]
    rfl
  refine pure_ (i := 2) (N := some 21) (v := ?_) (a' := ?_) #[true, false, true, false, false, false] rfl rfl (by kernel_rfl) (fun _ _ _ h => h) (Or.inl ⟨by rfl, ?_⟩) ?_ ?_
  rotate_left
  · intro w'
    go_simp
    with_reducible rfl
  rotate_left
  · simp only [Act.put, List.setIfInBounds_toArray, List.set_cons_zero, List.set_cons_succ, i64_w, i32_w, IntKind.wrap_u32, IntKind.wrap_u8, IntKind.wrap_u16]
    rfl
  refine take_ (i := 1) (N := some 20) (v := ?_) (a' := ?_) #[true, true, true, false, false, false] rfl rfl (by kernel_rfl) (fun _ _ _ h => h) (Or.inl ⟨by rfl, ?_⟩) hHeld ?_ ?_
  rotate_left
  · rintro w' ⟨s0, s1⟩
    go_simp
    with_reducible rfl
  rotate_left
  · simp only [Act.put, List.setIfInBounds_toArray, List.set_cons_zero, List.set_cons_succ, i64_w, i32_w, IntKind.wrap_u32, IntKind.wrap_u8, IntKind.wrap_u16]
    rfl
  refine pure_ (i := 4) (N := some 7) (v := ?_) (a' := ?_) #[true, true, true, false, true, false] rfl rfl (by kernel_rfl) (fun _ _ _ h => h) (Or.inl ⟨by rfl, ?_⟩) ?_ ?_
  rotate_left
  · intro w'
    go_simp
    with_reducible rfl
  rotate_left
  · simp only [Act.put, List.setIfInBounds_toArray, List.set_cons_zero, List.set_cons_succ, i64_w, i32_w, IntKind.wrap_u32, IntKind.wrap_u8, IntKind.wrap_u16]
    rfl
  refine take_ (i := 3) (N := some 22) (v := ?_) (a' := ?_) #[true, true, true, true, true, false] rfl rfl (by kernel_rfl) (fun _ _ _ h => h) (Or.inl ⟨by rfl, ?_⟩) hHeld ?_ ?_
  rotate_left
  · rintro w' ⟨s0, s1⟩
    go_simp
    with_reducible rfl
  rotate_left
  · simp only [Act.put, List.setIfInBounds_toArray, List.set_cons_zero, List.set_cons_succ, i64_w, i32_w, IntKind.wrap_u32, IntKind.wrap_u8, IntKind.wrap_u16]
    rfl
  refine pure_ (i := 5) (N := some 8) (v := ?_) (a' := ?_) #[true, true, true, true, true, true] rfl rfl (by kernel_rfl) (fun _ _ _ h => h) (Or.inl ⟨by rfl, ?_⟩) ?_ ?_
  rotate_left
  · intro w'
    go_simp
    with_reducible rfl
  rotate_left
  · simp only [Act.put, List.setIfInBounds_toArray, List.set_cons_zero, List.set_cons_succ, i64_w, i32_w, IntKind.wrap_u32, IntKind.wrap_u8, IntKind.wrap_u16]
    rfl
  refine done_ (by kernel_rfl) ?_
  go_wp2_with (first
    | (go_at_call 9; refine (HW.out (by repeat (with_reducible first | exact HS.out | apply sl_drewN | apply sl_drew | apply sl_box | apply sl_alloc))).mono ?_; rintro e w1 ⟨g, rfl, hs⟩; (try simp only [World.size_alloc] at hs); replace HS := Aside0.mk hs; clear hs; (try clear hm0 hm1 bl); have hm0 := c_at HS.out 0 rfl 0 rfl; have hm1 := c_at HS.out 0 rfl 1 rfl; have bl := blk_lt (sl_blk HS.out 0 rfl))
    | (go_at_call 10; with_reducible refine (Rsz_eq (s := S0) (by repeat (with_reducible first | exact HS.out | apply sl_drewN | apply sl_drew | apply sl_box | apply sl_alloc)) 2 _ sx sy H1.out.1 H1.out.2.1 H1.out.2.2.1 H1.out.2.2.2 rfl).mono ?_; rintro e w1 ⟨rfl, hs⟩; (try simp only [World.size_alloc] at hs); replace HS := Aside0.mk hs; clear hs; (try clear hm0 hm1 bl); have hm0 := c_at HS.out 0 rfl 0 rfl; have hm1 := c_at HS.out 0 rfl 1 rfl; have bl := blk_lt (sl_blk HS.out 0 rfl))
    | (go_at_call 11; refine (Acc_eq (s := S0) (by repeat (with_reducible first | exact HS.out | apply sl_drewN | apply sl_drew | apply sl_box | apply sl_alloc)) 2 gx gy H2.out.1 H2.out.2 (by rfl)).mono ?_; rintro e w1 ⟨rfl, hs⟩; (try simp only [World.size_alloc] at hs); replace HS := Aside0.mk hs; clear hs; (try clear hm0 hm1 bl); have hm0 := c_at HS.out 0 rfl 0 rfl; have hm1 := c_at HS.out 0 rfl 1 rfl; have bl := blk_lt (sl_blk HS.out 0 rfl))
    | (go_at_call 12; refine (Req_eq (s := S1) (by repeat (with_reducible first | exact HS.out | apply sl_drewN | apply sl_drew | apply sl_box | apply sl_alloc)) 2 4 true 0 0 0 0 H3.out.1 H3.out.2 (by rfl)).mono ?_; rintro e w1 ⟨rfl, hs⟩; (try simp only [World.size_alloc] at hs); replace HS := Aside0.mk hs; clear hs; (try clear hm0 hm1 bl); have hm0 := c_at HS.out 0 rfl 0 rfl; have hm1 := c_at HS.out 0 rfl 1 rfl; have bl := blk_lt (sl_blk HS.out 0 rfl))
    | (go_at_call 10; with_reducible refine (Rsz_eq (s := S2) (by repeat (with_reducible first | exact HS.out | apply sl_drewN | apply sl_drew | apply sl_box | apply sl_alloc)) 2 _ sx sy H4.out.1 H4.out.2.1 H4.out.2.2.1 H4.out.2.2.2 rfl).mono ?_; rintro e w1 ⟨rfl, hs⟩; (try simp only [World.size_alloc] at hs); replace HS := Aside0.mk hs; clear hs; (try clear hm0 hm1 bl); have hm0 := c_at HS.out 0 rfl 0 rfl; have hm1 := c_at HS.out 0 rfl 1 rfl; have bl := blk_lt (sl_blk HS.out 0 rfl))
    | (go_at_call 8; refine (ex_c (by repeat (with_reducible first | exact HS.out | apply sl_drewN | apply sl_drew | apply sl_box | apply sl_alloc))).mono ?_; rintro e w1 ⟨rfl, hs⟩; (try simp only [World.size_alloc] at hs); replace HS := Aside0.mk hs; clear hs))
  all_goals
    go_ret
    exact ⟨rfl, sl_below0 HS.out⟩
set_option maxHeartbeats 4000000 in
set_option maxRecDepth 100000 in
theorem no_6 (gx gy sx sy : Int) (w : World) (h1 : 1 ≤ gx) (h2 : gx ≤ 16384) (h3 : 1 ≤ gy) (h4 : gy ≤ 16384) (hv : valB 1 sx sy = false) : Calls Try.prog 3 #[.agg #[.int .i64 gx, .int .i64 gy], .int .i64 6, .agg #[.int .i64 sx, .int .i64 sy]] w fun e w' => e = .returned (.bool true) ∧ Below w.heap.size w w' := by
  have HS := Aside0.mk (sl_box (sl_box (sl_start w) #[.int .i64 gx, .int .i64 gy] 23) #[.int .i64 sx, .int .i64 sy] 23)
  have d1 : decide (gx < 1) = false := decide_eq_false (by omega)
  have d2 : decide (16384 < gx) = false := decide_eq_false (by omega)
  have d3 : decide (gy < 1) = false := decide_eq_false (by omega)
  have d4 : decide (16384 < gy) = false := decide_eq_false (by omega)
  obtain ⟨S0, S1, S2, S3, f0, f1, f2, f3, f4⟩ := ed_facts 6 gx gy sx sy h1 h2 h3 h4 (E1 := 14) (E2 := 6) (A := 0) (B := 0) (by simp [edgeB, edX, edY, hv]) (by simp [edgeB, edX, edY, hv]) (by simp [edgeB, edX, edY, hv]) (by simp [edgeB, edX, edY, hv])
  have HW := Aside0.mk (show ∀ {w' : World} {L : List Res}, SL w w' L → Calls Try.prog 9 #[] w' fun e w'' => ∃ g : Nat, e = .returned (.pointer (some ⟨g, 0, none⟩)) ∧ SL w w'' (L ++ [winR g S0]) from fun h => f0 ▸ New_c h)
  have H1 := Aside0.mk f1
  have H2 := Aside0.mk f2
  have H3 := Aside0.mk f3
  have H4 := Aside0.mk f4
  clear f0 f1 f2 f3 f4 h1 h2 h3 h4 hv
  go_enter Try.func3, Try.ntmps3
  go_wp2_with (fail)
  simp only [World.size_alloc] at HS
  refine start_ (n := 6) (S := fun w' => w'.cell? ⟨w.heap.size + 1, 0, none⟩ = some (.int .i64 sx) ∧ w'.cell? ⟨w.heap.size + 1, 1, none⟩ = some (.int .i64 sy)) (ds := []) #[false, false, false, false, false, false] (by kernel_rfl) rfl rfl ⟨(c_at (sl_drew HS.out) 1 rfl 0 rfl), (c_at (sl_drew HS.out) 1 rfl 1 rfl)⟩ (fun hHeld => ?_)
  refine pure_ (i := 0) (N := some 19) (v := ?_) (a' := ?_) #[true, false, false, false, false, false] rfl rfl (by kernel_rfl) (fun _ _ _ h => h) (Or.inl ⟨by rfl, ?_⟩) ?_ ?_
  rotate_left
  · intro w'
    go_simp
    with_reducible rfl
  rotate_left
  · simp only [Act.put, List.setIfInBounds_toArray, List.set_cons_zero, List.set_cons_succ, i64_w, i32_w, IntKind.wrap_u32, IntKind.wrap_u8, IntKind.wrap_u16]
    rfl
  refine pure_ (i := 2) (N := some 21) (v := ?_) (a' := ?_) #[true, false, true, false, false, false] rfl rfl (by kernel_rfl) (fun _ _ _ h => h) (Or.inl ⟨by rfl, ?_⟩) ?_ ?_
  rotate_left
  · intro w'
    go_simp
    with_reducible rfl
  rotate_left
  · simp only [Act.put, List.setIfInBounds_toArray, List.set_cons_zero, List.set_cons_succ, i64_w, i32_w, IntKind.wrap_u32, IntKind.wrap_u8, IntKind.wrap_u16]
    rfl
  refine take_ (i := 1) (N := some 20) (v := ?_) (a' := ?_) #[true, true, true, false, false, false] rfl rfl (by kernel_rfl) (fun _ _ _ h => h) (Or.inl ⟨by rfl, ?_⟩) hHeld ?_ ?_
  rotate_left
  · rintro w' ⟨s0, s1⟩
    go_simp
    with_reducible rfl
  rotate_left
  · simp only [Act.put, List.setIfInBounds_toArray, List.set_cons_zero, List.set_cons_succ, i64_w, i32_w, IntKind.wrap_u32, IntKind.wrap_u8, IntKind.wrap_u16]
    rfl
  refine pure_ (i := 4) (N := some 7) (v := ?_) (a' := ?_) #[true, true, true, false, true, false] rfl rfl (by kernel_rfl) (fun _ _ _ h => h) (Or.inl ⟨by rfl, ?_⟩) ?_ ?_
  rotate_left
  · intro w'
    go_simp
    with_reducible rfl
  rotate_left
  · simp only [Act.put, List.setIfInBounds_toArray, List.set_cons_zero, List.set_cons_succ, i64_w, i32_w, IntKind.wrap_u32, IntKind.wrap_u8, IntKind.wrap_u16]
    rfl
  refine take_ (i := 3) (N := some 22) (v := ?_) (a' := ?_) #[true, true, true, true, true, false] rfl rfl (by kernel_rfl) (fun _ _ _ h => h) (Or.inl ⟨by rfl, ?_⟩) hHeld ?_ ?_
  rotate_left
  · rintro w' ⟨s0, s1⟩
    go_simp
    with_reducible rfl
  rotate_left
  · simp only [Act.put, List.setIfInBounds_toArray, List.set_cons_zero, List.set_cons_succ, i64_w, i32_w, IntKind.wrap_u32, IntKind.wrap_u8, IntKind.wrap_u16]
    rfl
  refine pure_ (i := 5) (N := some 8) (v := ?_) (a' := ?_) #[true, true, true, true, true, true] rfl rfl (by kernel_rfl) (fun _ _ _ h => h) (Or.inl ⟨by rfl, ?_⟩) ?_ ?_
  rotate_left
  · intro w'
    go_simp
    with_reducible rfl
  rotate_left
  · simp only [Act.put, List.setIfInBounds_toArray, List.set_cons_zero, List.set_cons_succ, i64_w, i32_w, IntKind.wrap_u32, IntKind.wrap_u8, IntKind.wrap_u16]
    rfl
  refine done_ (by kernel_rfl) ?_
  go_wp2_with (first
    | (go_at_call 9; refine (HW.out (by repeat (with_reducible first | exact HS.out | apply sl_drewN | apply sl_drew | apply sl_box | apply sl_alloc))).mono ?_; rintro e w1 ⟨g, rfl, hs⟩; (try simp only [World.size_alloc] at hs); replace HS := Aside0.mk hs; clear hs; (try clear hm0 hm1 bl); have hm0 := c_at HS.out 0 rfl 0 rfl; have hm1 := c_at HS.out 0 rfl 1 rfl; have bl := blk_lt (sl_blk HS.out 0 rfl))
    | (go_at_call 10; with_reducible refine (Rsz_eq (s := S0) (by repeat (with_reducible first | exact HS.out | apply sl_drewN | apply sl_drew | apply sl_box | apply sl_alloc)) 2 _ sx sy H1.out.1 H1.out.2.1 H1.out.2.2.1 H1.out.2.2.2 rfl).mono ?_; rintro e w1 ⟨rfl, hs⟩; (try simp only [World.size_alloc] at hs); replace HS := Aside0.mk hs; clear hs; (try clear hm0 hm1 bl); have hm0 := c_at HS.out 0 rfl 0 rfl; have hm1 := c_at HS.out 0 rfl 1 rfl; have bl := blk_lt (sl_blk HS.out 0 rfl))
    | (go_at_call 11; refine (Acc_eq (s := S0) (by repeat (with_reducible first | exact HS.out | apply sl_drewN | apply sl_drew | apply sl_box | apply sl_alloc)) 2 gx gy H2.out.1 H2.out.2 (by rfl)).mono ?_; rintro e w1 ⟨rfl, hs⟩; (try simp only [World.size_alloc] at hs); replace HS := Aside0.mk hs; clear hs; (try clear hm0 hm1 bl); have hm0 := c_at HS.out 0 rfl 0 rfl; have hm1 := c_at HS.out 0 rfl 1 rfl; have bl := blk_lt (sl_blk HS.out 0 rfl))
    | (go_at_call 12; refine (Req_eq (s := S1) (by repeat (with_reducible first | exact HS.out | apply sl_drewN | apply sl_drew | apply sl_box | apply sl_alloc)) 2 4 true 0 0 0 0 H3.out.1 H3.out.2 (by rfl)).mono ?_; rintro e w1 ⟨rfl, hs⟩; (try simp only [World.size_alloc] at hs); replace HS := Aside0.mk hs; clear hs; (try clear hm0 hm1 bl); have hm0 := c_at HS.out 0 rfl 0 rfl; have hm1 := c_at HS.out 0 rfl 1 rfl; have bl := blk_lt (sl_blk HS.out 0 rfl))
    | (go_at_call 10; with_reducible refine (Rsz_eq (s := S2) (by repeat (with_reducible first | exact HS.out | apply sl_drewN | apply sl_drew | apply sl_box | apply sl_alloc)) 2 _ sx sy H4.out.1 H4.out.2.1 H4.out.2.2.1 H4.out.2.2.2 rfl).mono ?_; rintro e w1 ⟨rfl, hs⟩; (try simp only [World.size_alloc] at hs); replace HS := Aside0.mk hs; clear hs; (try clear hm0 hm1 bl); have hm0 := c_at HS.out 0 rfl 0 rfl; have hm1 := c_at HS.out 0 rfl 1 rfl; have bl := blk_lt (sl_blk HS.out 0 rfl))
    | (go_at_call 8; refine (ex_c (by repeat (with_reducible first | exact HS.out | apply sl_drewN | apply sl_drew | apply sl_box | apply sl_alloc))).mono ?_; rintro e w1 ⟨rfl, hs⟩; (try simp only [World.size_alloc] at hs); replace HS := Aside0.mk hs; clear hs))
  all_goals
    go_ret
    exact ⟨rfl, sl_below0 HS.out⟩
set_option maxHeartbeats 4000000 in
set_option maxRecDepth 100000 in
theorem ok_6 (gx gy sx sy : Int) (w : World) (h1 : 1 ≤ gx) (h2 : gx ≤ 16384) (h3 : 1 ≤ gy) (h4 : gy ≤ 16384) (hv : valB 1 sx sy = true) : Calls Try.prog 3 #[.agg #[.int .i64 gx, .int .i64 gy], .int .i64 6, .agg #[.int .i64 sx, .int .i64 sy]] w fun e w' => e = .returned (.bool true) ∧ Below w.heap.size w w' := by
  have HS := Aside0.mk (sl_box (sl_box (sl_start w) #[.int .i64 gx, .int .i64 gy] 23) #[.int .i64 sx, .int .i64 sy] 23)
  have d1 : decide (gx < 1) = false := decide_eq_false (by omega)
  have d2 : decide (16384 < gx) = false := decide_eq_false (by omega)
  have d3 : decide (gy < 1) = false := decide_eq_false (by omega)
  have d4 : decide (16384 < gy) = false := decide_eq_false (by omega)
  obtain ⟨S0, S1, S2, S3, f0, f1, f2, f3, f4⟩ := ed_facts 6 gx gy sx sy h1 h2 h3 h4 (E1 := 14) (E2 := 0) (A := sx) (B := sy) (by simp [edgeB, edX, edY, hv]) (by simp [edgeB, edX, edY, hv]) (by simp [edgeB, edX, edY, hv]) (by simp [edgeB, edX, edY, hv])
  have HW := Aside0.mk (show ∀ {w' : World} {L : List Res}, SL w w' L → Calls Try.prog 9 #[] w' fun e w'' => ∃ g : Nat, e = .returned (.pointer (some ⟨g, 0, none⟩)) ∧ SL w w'' (L ++ [winR g S0]) from fun h => f0 ▸ New_c h)
  have H1 := Aside0.mk f1
  have H2 := Aside0.mk f2
  have H3 := Aside0.mk f3
  have H4 := Aside0.mk f4
  clear f0 f1 f2 f3 f4 h1 h2 h3 h4 hv
  go_enter Try.func3, Try.ntmps3
  go_wp2_with (fail)
  simp only [World.size_alloc] at HS
  refine start_ (n := 6) (S := fun w' => w'.cell? ⟨w.heap.size + 1, 0, none⟩ = some (.int .i64 sx) ∧ w'.cell? ⟨w.heap.size + 1, 1, none⟩ = some (.int .i64 sy)) (ds := []) #[false, false, false, false, false, false] (by kernel_rfl) rfl rfl ⟨(c_at (sl_drew HS.out) 1 rfl 0 rfl), (c_at (sl_drew HS.out) 1 rfl 1 rfl)⟩ (fun hHeld => ?_)
  refine pure_ (i := 0) (N := some 19) (v := ?_) (a' := ?_) #[true, false, false, false, false, false] rfl rfl (by kernel_rfl) (fun _ _ _ h => h) (Or.inl ⟨by rfl, ?_⟩) ?_ ?_
  rotate_left
  · intro w'
    go_simp
    with_reducible rfl
  rotate_left
  · simp only [Act.put, List.setIfInBounds_toArray, List.set_cons_zero, List.set_cons_succ, i64_w, i32_w, IntKind.wrap_u32, IntKind.wrap_u8, IntKind.wrap_u16]
    rfl
  refine pure_ (i := 2) (N := some 21) (v := ?_) (a' := ?_) #[true, false, true, false, false, false] rfl rfl (by kernel_rfl) (fun _ _ _ h => h) (Or.inl ⟨by rfl, ?_⟩) ?_ ?_
  rotate_left
  · intro w'
    go_simp
    with_reducible rfl
  rotate_left
  · simp only [Act.put, List.setIfInBounds_toArray, List.set_cons_zero, List.set_cons_succ, i64_w, i32_w, IntKind.wrap_u32, IntKind.wrap_u8, IntKind.wrap_u16]
    rfl
  refine take_ (i := 1) (N := some 20) (v := ?_) (a' := ?_) #[true, true, true, false, false, false] rfl rfl (by kernel_rfl) (fun _ _ _ h => h) (Or.inl ⟨by rfl, ?_⟩) hHeld ?_ ?_
  rotate_left
  · rintro w' ⟨s0, s1⟩
    go_simp
    with_reducible rfl
  rotate_left
  · simp only [Act.put, List.setIfInBounds_toArray, List.set_cons_zero, List.set_cons_succ, i64_w, i32_w, IntKind.wrap_u32, IntKind.wrap_u8, IntKind.wrap_u16]
    rfl
  refine pure_ (i := 4) (N := some 7) (v := ?_) (a' := ?_) #[true, true, true, false, true, false] rfl rfl (by kernel_rfl) (fun _ _ _ h => h) (Or.inl ⟨by rfl, ?_⟩) ?_ ?_
  rotate_left
  · intro w'
    go_simp
    with_reducible rfl
  rotate_left
  · simp only [Act.put, List.setIfInBounds_toArray, List.set_cons_zero, List.set_cons_succ, i64_w, i32_w, IntKind.wrap_u32, IntKind.wrap_u8, IntKind.wrap_u16]
    rfl
  refine take_ (i := 3) (N := some 22) (v := ?_) (a' := ?_) #[true, true, true, true, true, false] rfl rfl (by kernel_rfl) (fun _ _ _ h => h) (Or.inl ⟨by rfl, ?_⟩) hHeld ?_ ?_
  rotate_left
  · rintro w' ⟨s0, s1⟩
    go_simp
    with_reducible rfl
  rotate_left
  · simp only [Act.put, List.setIfInBounds_toArray, List.set_cons_zero, List.set_cons_succ, i64_w, i32_w, IntKind.wrap_u32, IntKind.wrap_u8, IntKind.wrap_u16]
    rfl
  refine pure_ (i := 5) (N := some 8) (v := ?_) (a' := ?_) #[true, true, true, true, true, true] rfl rfl (by kernel_rfl) (fun _ _ _ h => h) (Or.inl ⟨by rfl, ?_⟩) ?_ ?_
  rotate_left
  · intro w'
    go_simp
    with_reducible rfl
  rotate_left
  · simp only [Act.put, List.setIfInBounds_toArray, List.set_cons_zero, List.set_cons_succ, i64_w, i32_w, IntKind.wrap_u32, IntKind.wrap_u8, IntKind.wrap_u16]
    rfl
  refine done_ (by kernel_rfl) ?_
  go_wp2_with (first
    | (go_at_call 9; refine (HW.out (by repeat (with_reducible first | exact HS.out | apply sl_drewN | apply sl_drew | apply sl_box | apply sl_alloc))).mono ?_; rintro e w1 ⟨g, rfl, hs⟩; (try simp only [World.size_alloc] at hs); replace HS := Aside0.mk hs; clear hs; (try clear hm0 hm1 bl); have hm0 := c_at HS.out 0 rfl 0 rfl; have hm1 := c_at HS.out 0 rfl 1 rfl; have bl := blk_lt (sl_blk HS.out 0 rfl))
    | (go_at_call 10; with_reducible refine (Rsz_eq (s := S0) (by repeat (with_reducible first | exact HS.out | apply sl_drewN | apply sl_drew | apply sl_box | apply sl_alloc)) 2 _ sx sy H1.out.1 H1.out.2.1 H1.out.2.2.1 H1.out.2.2.2 rfl).mono ?_; rintro e w1 ⟨rfl, hs⟩; (try simp only [World.size_alloc] at hs); replace HS := Aside0.mk hs; clear hs; (try clear hm0 hm1 bl); have hm0 := c_at HS.out 0 rfl 0 rfl; have hm1 := c_at HS.out 0 rfl 1 rfl; have bl := blk_lt (sl_blk HS.out 0 rfl))
    | (go_at_call 11; refine (Acc_eq (s := S0) (by repeat (with_reducible first | exact HS.out | apply sl_drewN | apply sl_drew | apply sl_box | apply sl_alloc)) 2 gx gy H2.out.1 H2.out.2 (by rfl)).mono ?_; rintro e w1 ⟨rfl, hs⟩; (try simp only [World.size_alloc] at hs); replace HS := Aside0.mk hs; clear hs; (try clear hm0 hm1 bl); have hm0 := c_at HS.out 0 rfl 0 rfl; have hm1 := c_at HS.out 0 rfl 1 rfl; have bl := blk_lt (sl_blk HS.out 0 rfl))
    | (go_at_call 12; refine (Req_eq (s := S1) (by repeat (with_reducible first | exact HS.out | apply sl_drewN | apply sl_drew | apply sl_box | apply sl_alloc)) 2 4 true 0 0 0 0 H3.out.1 H3.out.2 (by rfl)).mono ?_; rintro e w1 ⟨rfl, hs⟩; (try simp only [World.size_alloc] at hs); replace HS := Aside0.mk hs; clear hs; (try clear hm0 hm1 bl); have hm0 := c_at HS.out 0 rfl 0 rfl; have hm1 := c_at HS.out 0 rfl 1 rfl; have bl := blk_lt (sl_blk HS.out 0 rfl))
    | (go_at_call 10; with_reducible refine (Rsz_eq (s := S2) (by repeat (with_reducible first | exact HS.out | apply sl_drewN | apply sl_drew | apply sl_box | apply sl_alloc)) 2 _ sx sy H4.out.1 H4.out.2.1 H4.out.2.2.1 H4.out.2.2.2 rfl).mono ?_; rintro e w1 ⟨rfl, hs⟩; (try simp only [World.size_alloc] at hs); replace HS := Aside0.mk hs; clear hs; (try clear hm0 hm1 bl); have hm0 := c_at HS.out 0 rfl 0 rfl; have hm1 := c_at HS.out 0 rfl 1 rfl; have bl := blk_lt (sl_blk HS.out 0 rfl))
    | (go_at_call 8; refine (ex_c (by repeat (with_reducible first | exact HS.out | apply sl_drewN | apply sl_drew | apply sl_box | apply sl_alloc))).mono ?_; rintro e w1 ⟨rfl, hs⟩; (try simp only [World.size_alloc] at hs); replace HS := Aside0.mk hs; clear hs))
  all_goals
    go_ret
    exact ⟨rfl, sl_below0 HS.out⟩
set_option maxHeartbeats 4000000 in
set_option maxRecDepth 100000 in
theorem no_8 (gx gy sx sy : Int) (w : World) (h1 : 1 ≤ gx) (h2 : gx ≤ 16384) (h3 : 1 ≤ gy) (h4 : gy ≤ 16384) (hv : valB 1 sx sy = false) : Calls Try.prog 3 #[.agg #[.int .i64 gx, .int .i64 gy], .int .i64 8, .agg #[.int .i64 sx, .int .i64 sy]] w fun e w' => e = .returned (.bool true) ∧ Below w.heap.size w w' := by
  have HS := Aside0.mk (sl_box (sl_box (sl_start w) #[.int .i64 gx, .int .i64 gy] 23) #[.int .i64 sx, .int .i64 sy] 23)
  have d1 : decide (gx < 1) = false := decide_eq_false (by omega)
  have d2 : decide (16384 < gx) = false := decide_eq_false (by omega)
  have d3 : decide (gy < 1) = false := decide_eq_false (by omega)
  have d4 : decide (16384 < gy) = false := decide_eq_false (by omega)
  obtain ⟨S0, S1, S2, S3, f0, f1, f2, f3, f4⟩ := ed_facts 8 gx gy sx sy h1 h2 h3 h4 (E1 := 14) (E2 := 6) (A := 0) (B := 0) (by simp [edgeB, edX, edY, hv]) (by simp [edgeB, edX, edY, hv]) (by simp [edgeB, edX, edY, hv]) (by simp [edgeB, edX, edY, hv])
  have HW := Aside0.mk (show ∀ {w' : World} {L : List Res}, SL w w' L → Calls Try.prog 9 #[] w' fun e w'' => ∃ g : Nat, e = .returned (.pointer (some ⟨g, 0, none⟩)) ∧ SL w w'' (L ++ [winR g S0]) from fun h => f0 ▸ New_c h)
  have H1 := Aside0.mk f1
  have H2 := Aside0.mk f2
  have H3 := Aside0.mk f3
  have H4 := Aside0.mk f4
  clear f0 f1 f2 f3 f4 h1 h2 h3 h4 hv
  go_enter Try.func3, Try.ntmps3
  go_wp2_with (fail)
  simp only [World.size_alloc] at HS
  refine start_ (n := 6) (S := fun w' => w'.cell? ⟨w.heap.size + 1, 0, none⟩ = some (.int .i64 sx) ∧ w'.cell? ⟨w.heap.size + 1, 1, none⟩ = some (.int .i64 sy)) (ds := []) #[false, false, false, false, false, false] (by kernel_rfl) rfl rfl ⟨(c_at (sl_drew HS.out) 1 rfl 0 rfl), (c_at (sl_drew HS.out) 1 rfl 1 rfl)⟩ (fun hHeld => ?_)
  refine pure_ (i := 0) (N := some 19) (v := ?_) (a' := ?_) #[true, false, false, false, false, false] rfl rfl (by kernel_rfl) (fun _ _ _ h => h) (Or.inl ⟨by rfl, ?_⟩) ?_ ?_
  rotate_left
  · intro w'
    go_simp
    with_reducible rfl
  rotate_left
  · simp only [Act.put, List.setIfInBounds_toArray, List.set_cons_zero, List.set_cons_succ, i64_w, i32_w, IntKind.wrap_u32, IntKind.wrap_u8, IntKind.wrap_u16]
    rfl
  refine pure_ (i := 2) (N := some 21) (v := ?_) (a' := ?_) #[true, false, true, false, false, false] rfl rfl (by kernel_rfl) (fun _ _ _ h => h) (Or.inl ⟨by rfl, ?_⟩) ?_ ?_
  rotate_left
  · intro w'
    go_simp
    with_reducible rfl
  rotate_left
  · simp only [Act.put, List.setIfInBounds_toArray, List.set_cons_zero, List.set_cons_succ, i64_w, i32_w, IntKind.wrap_u32, IntKind.wrap_u8, IntKind.wrap_u16]
    rfl
  refine take_ (i := 1) (N := some 20) (v := ?_) (a' := ?_) #[true, true, true, false, false, false] rfl rfl (by kernel_rfl) (fun _ _ _ h => h) (Or.inl ⟨by rfl, ?_⟩) hHeld ?_ ?_
  rotate_left
  · rintro w' ⟨s0, s1⟩
    go_simp
    with_reducible rfl
  rotate_left
  · simp only [Act.put, List.setIfInBounds_toArray, List.set_cons_zero, List.set_cons_succ, i64_w, i32_w, IntKind.wrap_u32, IntKind.wrap_u8, IntKind.wrap_u16]
    rfl
  refine pure_ (i := 4) (N := some 7) (v := ?_) (a' := ?_) #[true, true, true, false, true, false] rfl rfl (by kernel_rfl) (fun _ _ _ h => h) (Or.inl ⟨by rfl, ?_⟩) ?_ ?_
  rotate_left
  · intro w'
    go_simp
    with_reducible rfl
  rotate_left
  · simp only [Act.put, List.setIfInBounds_toArray, List.set_cons_zero, List.set_cons_succ, i64_w, i32_w, IntKind.wrap_u32, IntKind.wrap_u8, IntKind.wrap_u16]
    rfl
  refine take_ (i := 3) (N := some 22) (v := ?_) (a' := ?_) #[true, true, true, true, true, false] rfl rfl (by kernel_rfl) (fun _ _ _ h => h) (Or.inl ⟨by rfl, ?_⟩) hHeld ?_ ?_
  rotate_left
  · rintro w' ⟨s0, s1⟩
    go_simp
    with_reducible rfl
  rotate_left
  · simp only [Act.put, List.setIfInBounds_toArray, List.set_cons_zero, List.set_cons_succ, i64_w, i32_w, IntKind.wrap_u32, IntKind.wrap_u8, IntKind.wrap_u16]
    rfl
  refine pure_ (i := 5) (N := some 8) (v := ?_) (a' := ?_) #[true, true, true, true, true, true] rfl rfl (by kernel_rfl) (fun _ _ _ h => h) (Or.inl ⟨by rfl, ?_⟩) ?_ ?_
  rotate_left
  · intro w'
    go_simp
    with_reducible rfl
  rotate_left
  · simp only [Act.put, List.setIfInBounds_toArray, List.set_cons_zero, List.set_cons_succ, i64_w, i32_w, IntKind.wrap_u32, IntKind.wrap_u8, IntKind.wrap_u16]
    rfl
  refine done_ (by kernel_rfl) ?_
  go_wp2_with (first
    | (go_at_call 9; refine (HW.out (by repeat (with_reducible first | exact HS.out | apply sl_drewN | apply sl_drew | apply sl_box | apply sl_alloc))).mono ?_; rintro e w1 ⟨g, rfl, hs⟩; (try simp only [World.size_alloc] at hs); replace HS := Aside0.mk hs; clear hs; (try clear hm0 hm1 bl); have hm0 := c_at HS.out 0 rfl 0 rfl; have hm1 := c_at HS.out 0 rfl 1 rfl; have bl := blk_lt (sl_blk HS.out 0 rfl))
    | (go_at_call 10; with_reducible refine (Rsz_eq (s := S0) (by repeat (with_reducible first | exact HS.out | apply sl_drewN | apply sl_drew | apply sl_box | apply sl_alloc)) 2 _ sx sy H1.out.1 H1.out.2.1 H1.out.2.2.1 H1.out.2.2.2 rfl).mono ?_; rintro e w1 ⟨rfl, hs⟩; (try simp only [World.size_alloc] at hs); replace HS := Aside0.mk hs; clear hs; (try clear hm0 hm1 bl); have hm0 := c_at HS.out 0 rfl 0 rfl; have hm1 := c_at HS.out 0 rfl 1 rfl; have bl := blk_lt (sl_blk HS.out 0 rfl))
    | (go_at_call 11; refine (Acc_eq (s := S0) (by repeat (with_reducible first | exact HS.out | apply sl_drewN | apply sl_drew | apply sl_box | apply sl_alloc)) 2 gx gy H2.out.1 H2.out.2 (by rfl)).mono ?_; rintro e w1 ⟨rfl, hs⟩; (try simp only [World.size_alloc] at hs); replace HS := Aside0.mk hs; clear hs; (try clear hm0 hm1 bl); have hm0 := c_at HS.out 0 rfl 0 rfl; have hm1 := c_at HS.out 0 rfl 1 rfl; have bl := blk_lt (sl_blk HS.out 0 rfl))
    | (go_at_call 12; refine (Req_eq (s := S1) (by repeat (with_reducible first | exact HS.out | apply sl_drewN | apply sl_drew | apply sl_box | apply sl_alloc)) 2 4 true 0 0 0 0 H3.out.1 H3.out.2 (by rfl)).mono ?_; rintro e w1 ⟨rfl, hs⟩; (try simp only [World.size_alloc] at hs); replace HS := Aside0.mk hs; clear hs; (try clear hm0 hm1 bl); have hm0 := c_at HS.out 0 rfl 0 rfl; have hm1 := c_at HS.out 0 rfl 1 rfl; have bl := blk_lt (sl_blk HS.out 0 rfl))
    | (go_at_call 10; with_reducible refine (Rsz_eq (s := S2) (by repeat (with_reducible first | exact HS.out | apply sl_drewN | apply sl_drew | apply sl_box | apply sl_alloc)) 2 _ sx sy H4.out.1 H4.out.2.1 H4.out.2.2.1 H4.out.2.2.2 rfl).mono ?_; rintro e w1 ⟨rfl, hs⟩; (try simp only [World.size_alloc] at hs); replace HS := Aside0.mk hs; clear hs; (try clear hm0 hm1 bl); have hm0 := c_at HS.out 0 rfl 0 rfl; have hm1 := c_at HS.out 0 rfl 1 rfl; have bl := blk_lt (sl_blk HS.out 0 rfl))
    | (go_at_call 8; refine (ex_c (by repeat (with_reducible first | exact HS.out | apply sl_drewN | apply sl_drew | apply sl_box | apply sl_alloc))).mono ?_; rintro e w1 ⟨rfl, hs⟩; (try simp only [World.size_alloc] at hs); replace HS := Aside0.mk hs; clear hs))
  all_goals
    go_ret
    exact ⟨rfl, sl_below0 HS.out⟩
set_option maxHeartbeats 4000000 in
set_option maxRecDepth 100000 in
theorem ok_8 (gx gy sx sy : Int) (w : World) (h1 : 1 ≤ gx) (h2 : gx ≤ 16384) (h3 : 1 ≤ gy) (h4 : gy ≤ 16384) (hv : valB 1 sx sy = true) : Calls Try.prog 3 #[.agg #[.int .i64 gx, .int .i64 gy], .int .i64 8, .agg #[.int .i64 sx, .int .i64 sy]] w fun e w' => e = .returned (.bool true) ∧ Below w.heap.size w w' := by
  have HS := Aside0.mk (sl_box (sl_box (sl_start w) #[.int .i64 gx, .int .i64 gy] 23) #[.int .i64 sx, .int .i64 sy] 23)
  have d1 : decide (gx < 1) = false := decide_eq_false (by omega)
  have d2 : decide (16384 < gx) = false := decide_eq_false (by omega)
  have d3 : decide (gy < 1) = false := decide_eq_false (by omega)
  have d4 : decide (16384 < gy) = false := decide_eq_false (by omega)
  obtain ⟨S0, S1, S2, S3, f0, f1, f2, f3, f4⟩ := ed_facts 8 gx gy sx sy h1 h2 h3 h4 (E1 := 14) (E2 := 0) (A := sx) (B := gy) (by simp [edgeB, edX, edY, hv]) (by simp [edgeB, edX, edY, hv]) (by simp [edgeB, edX, edY, hv]) (by simp [edgeB, edX, edY, hv])
  have HW := Aside0.mk (show ∀ {w' : World} {L : List Res}, SL w w' L → Calls Try.prog 9 #[] w' fun e w'' => ∃ g : Nat, e = .returned (.pointer (some ⟨g, 0, none⟩)) ∧ SL w w'' (L ++ [winR g S0]) from fun h => f0 ▸ New_c h)
  have H1 := Aside0.mk f1
  have H2 := Aside0.mk f2
  have H3 := Aside0.mk f3
  have H4 := Aside0.mk f4
  clear f0 f1 f2 f3 f4 h1 h2 h3 h4 hv
  go_enter Try.func3, Try.ntmps3
  go_wp2_with (fail)
  simp only [World.size_alloc] at HS
  refine start_ (n := 6) (S := fun w' => w'.cell? ⟨w.heap.size + 1, 0, none⟩ = some (.int .i64 sx) ∧ w'.cell? ⟨w.heap.size + 1, 1, none⟩ = some (.int .i64 sy)) (ds := []) #[false, false, false, false, false, false] (by kernel_rfl) rfl rfl ⟨(c_at (sl_drew HS.out) 1 rfl 0 rfl), (c_at (sl_drew HS.out) 1 rfl 1 rfl)⟩ (fun hHeld => ?_)
  refine pure_ (i := 0) (N := some 19) (v := ?_) (a' := ?_) #[true, false, false, false, false, false] rfl rfl (by kernel_rfl) (fun _ _ _ h => h) (Or.inl ⟨by rfl, ?_⟩) ?_ ?_
  rotate_left
  · intro w'
    go_simp
    with_reducible rfl
  rotate_left
  · simp only [Act.put, List.setIfInBounds_toArray, List.set_cons_zero, List.set_cons_succ, i64_w, i32_w, IntKind.wrap_u32, IntKind.wrap_u8, IntKind.wrap_u16]
    rfl
  refine pure_ (i := 2) (N := some 21) (v := ?_) (a' := ?_) #[true, false, true, false, false, false] rfl rfl (by kernel_rfl) (fun _ _ _ h => h) (Or.inl ⟨by rfl, ?_⟩) ?_ ?_
  rotate_left
  · intro w'
    go_simp
    with_reducible rfl
  rotate_left
  · simp only [Act.put, List.setIfInBounds_toArray, List.set_cons_zero, List.set_cons_succ, i64_w, i32_w, IntKind.wrap_u32, IntKind.wrap_u8, IntKind.wrap_u16]
    rfl
  refine take_ (i := 1) (N := some 20) (v := ?_) (a' := ?_) #[true, true, true, false, false, false] rfl rfl (by kernel_rfl) (fun _ _ _ h => h) (Or.inl ⟨by rfl, ?_⟩) hHeld ?_ ?_
  rotate_left
  · rintro w' ⟨s0, s1⟩
    go_simp
    with_reducible rfl
  rotate_left
  · simp only [Act.put, List.setIfInBounds_toArray, List.set_cons_zero, List.set_cons_succ, i64_w, i32_w, IntKind.wrap_u32, IntKind.wrap_u8, IntKind.wrap_u16]
    rfl
  refine pure_ (i := 4) (N := some 7) (v := ?_) (a' := ?_) #[true, true, true, false, true, false] rfl rfl (by kernel_rfl) (fun _ _ _ h => h) (Or.inl ⟨by rfl, ?_⟩) ?_ ?_
  rotate_left
  · intro w'
    go_simp
    with_reducible rfl
  rotate_left
  · simp only [Act.put, List.setIfInBounds_toArray, List.set_cons_zero, List.set_cons_succ, i64_w, i32_w, IntKind.wrap_u32, IntKind.wrap_u8, IntKind.wrap_u16]
    rfl
  refine take_ (i := 3) (N := some 22) (v := ?_) (a' := ?_) #[true, true, true, true, true, false] rfl rfl (by kernel_rfl) (fun _ _ _ h => h) (Or.inl ⟨by rfl, ?_⟩) hHeld ?_ ?_
  rotate_left
  · rintro w' ⟨s0, s1⟩
    go_simp
    with_reducible rfl
  rotate_left
  · simp only [Act.put, List.setIfInBounds_toArray, List.set_cons_zero, List.set_cons_succ, i64_w, i32_w, IntKind.wrap_u32, IntKind.wrap_u8, IntKind.wrap_u16]
    rfl
  refine pure_ (i := 5) (N := some 8) (v := ?_) (a' := ?_) #[true, true, true, true, true, true] rfl rfl (by kernel_rfl) (fun _ _ _ h => h) (Or.inl ⟨by rfl, ?_⟩) ?_ ?_
  rotate_left
  · intro w'
    go_simp
    with_reducible rfl
  rotate_left
  · simp only [Act.put, List.setIfInBounds_toArray, List.set_cons_zero, List.set_cons_succ, i64_w, i32_w, IntKind.wrap_u32, IntKind.wrap_u8, IntKind.wrap_u16]
    rfl
  refine done_ (by kernel_rfl) ?_
  go_wp2_with (first
    | (go_at_call 9; refine (HW.out (by repeat (with_reducible first | exact HS.out | apply sl_drewN | apply sl_drew | apply sl_box | apply sl_alloc))).mono ?_; rintro e w1 ⟨g, rfl, hs⟩; (try simp only [World.size_alloc] at hs); replace HS := Aside0.mk hs; clear hs; (try clear hm0 hm1 bl); have hm0 := c_at HS.out 0 rfl 0 rfl; have hm1 := c_at HS.out 0 rfl 1 rfl; have bl := blk_lt (sl_blk HS.out 0 rfl))
    | (go_at_call 10; with_reducible refine (Rsz_eq (s := S0) (by repeat (with_reducible first | exact HS.out | apply sl_drewN | apply sl_drew | apply sl_box | apply sl_alloc)) 2 _ sx sy H1.out.1 H1.out.2.1 H1.out.2.2.1 H1.out.2.2.2 rfl).mono ?_; rintro e w1 ⟨rfl, hs⟩; (try simp only [World.size_alloc] at hs); replace HS := Aside0.mk hs; clear hs; (try clear hm0 hm1 bl); have hm0 := c_at HS.out 0 rfl 0 rfl; have hm1 := c_at HS.out 0 rfl 1 rfl; have bl := blk_lt (sl_blk HS.out 0 rfl))
    | (go_at_call 11; refine (Acc_eq (s := S0) (by repeat (with_reducible first | exact HS.out | apply sl_drewN | apply sl_drew | apply sl_box | apply sl_alloc)) 2 gx gy H2.out.1 H2.out.2 (by rfl)).mono ?_; rintro e w1 ⟨rfl, hs⟩; (try simp only [World.size_alloc] at hs); replace HS := Aside0.mk hs; clear hs; (try clear hm0 hm1 bl); have hm0 := c_at HS.out 0 rfl 0 rfl; have hm1 := c_at HS.out 0 rfl 1 rfl; have bl := blk_lt (sl_blk HS.out 0 rfl))
    | (go_at_call 12; refine (Req_eq (s := S1) (by repeat (with_reducible first | exact HS.out | apply sl_drewN | apply sl_drew | apply sl_box | apply sl_alloc)) 2 4 true 0 0 0 0 H3.out.1 H3.out.2 (by rfl)).mono ?_; rintro e w1 ⟨rfl, hs⟩; (try simp only [World.size_alloc] at hs); replace HS := Aside0.mk hs; clear hs; (try clear hm0 hm1 bl); have hm0 := c_at HS.out 0 rfl 0 rfl; have hm1 := c_at HS.out 0 rfl 1 rfl; have bl := blk_lt (sl_blk HS.out 0 rfl))
    | (go_at_call 10; with_reducible refine (Rsz_eq (s := S2) (by repeat (with_reducible first | exact HS.out | apply sl_drewN | apply sl_drew | apply sl_box | apply sl_alloc)) 2 _ sx sy H4.out.1 H4.out.2.1 H4.out.2.2.1 H4.out.2.2.2 rfl).mono ?_; rintro e w1 ⟨rfl, hs⟩; (try simp only [World.size_alloc] at hs); replace HS := Aside0.mk hs; clear hs; (try clear hm0 hm1 bl); have hm0 := c_at HS.out 0 rfl 0 rfl; have hm1 := c_at HS.out 0 rfl 1 rfl; have bl := blk_lt (sl_blk HS.out 0 rfl))
    | (go_at_call 8; refine (ex_c (by repeat (with_reducible first | exact HS.out | apply sl_drewN | apply sl_drew | apply sl_box | apply sl_alloc))).mono ?_; rintro e w1 ⟨rfl, hs⟩; (try simp only [World.size_alloc] at hs); replace HS := Aside0.mk hs; clear hs))
  all_goals
    go_ret
    exact ⟨rfl, sl_below0 HS.out⟩
set_option maxHeartbeats 4000000 in
set_option maxRecDepth 100000 in
theorem no_9 (gx gy sx sy : Int) (w : World) (h1 : 1 ≤ gx) (h2 : gx ≤ 16384) (h3 : 1 ≤ gy) (h4 : gy ≤ 16384) (hv : valB 1 sx sy = false) : Calls Try.prog 3 #[.agg #[.int .i64 gx, .int .i64 gy], .int .i64 9, .agg #[.int .i64 sx, .int .i64 sy]] w fun e w' => e = .returned (.bool true) ∧ Below w.heap.size w w' := by
  have HS := Aside0.mk (sl_box (sl_box (sl_start w) #[.int .i64 gx, .int .i64 gy] 23) #[.int .i64 sx, .int .i64 sy] 23)
  have d1 : decide (gx < 1) = false := decide_eq_false (by omega)
  have d2 : decide (16384 < gx) = false := decide_eq_false (by omega)
  have d3 : decide (gy < 1) = false := decide_eq_false (by omega)
  have d4 : decide (16384 < gy) = false := decide_eq_false (by omega)
  obtain ⟨S0, S1, S2, S3, f0, f1, f2, f3, f4⟩ := ed_facts 9 gx gy sx sy h1 h2 h3 h4 (E1 := 14) (E2 := 6) (A := 0) (B := 0) (by simp [edgeB, edX, edY, hv]) (by simp [edgeB, edX, edY, hv]) (by simp [edgeB, edX, edY, hv]) (by simp [edgeB, edX, edY, hv])
  have HW := Aside0.mk (show ∀ {w' : World} {L : List Res}, SL w w' L → Calls Try.prog 9 #[] w' fun e w'' => ∃ g : Nat, e = .returned (.pointer (some ⟨g, 0, none⟩)) ∧ SL w w'' (L ++ [winR g S0]) from fun h => f0 ▸ New_c h)
  have H1 := Aside0.mk f1
  have H2 := Aside0.mk f2
  have H3 := Aside0.mk f3
  have H4 := Aside0.mk f4
  clear f0 f1 f2 f3 f4 h1 h2 h3 h4 hv
  go_enter Try.func3, Try.ntmps3
  go_wp2_with (fail)
  simp only [World.size_alloc] at HS
  refine start_ (n := 6) (S := fun w' => w'.cell? ⟨w.heap.size + 1, 0, none⟩ = some (.int .i64 sx) ∧ w'.cell? ⟨w.heap.size + 1, 1, none⟩ = some (.int .i64 sy)) (ds := []) #[false, false, false, false, false, false] (by kernel_rfl) rfl rfl ⟨(c_at (sl_drew HS.out) 1 rfl 0 rfl), (c_at (sl_drew HS.out) 1 rfl 1 rfl)⟩ (fun hHeld => ?_)
  refine pure_ (i := 0) (N := some 19) (v := ?_) (a' := ?_) #[true, false, false, false, false, false] rfl rfl (by kernel_rfl) (fun _ _ _ h => h) (Or.inl ⟨by rfl, ?_⟩) ?_ ?_
  rotate_left
  · intro w'
    go_simp
    with_reducible rfl
  rotate_left
  · simp only [Act.put, List.setIfInBounds_toArray, List.set_cons_zero, List.set_cons_succ, i64_w, i32_w, IntKind.wrap_u32, IntKind.wrap_u8, IntKind.wrap_u16]
    rfl
  refine pure_ (i := 2) (N := some 21) (v := ?_) (a' := ?_) #[true, false, true, false, false, false] rfl rfl (by kernel_rfl) (fun _ _ _ h => h) (Or.inl ⟨by rfl, ?_⟩) ?_ ?_
  rotate_left
  · intro w'
    go_simp
    with_reducible rfl
  rotate_left
  · simp only [Act.put, List.setIfInBounds_toArray, List.set_cons_zero, List.set_cons_succ, i64_w, i32_w, IntKind.wrap_u32, IntKind.wrap_u8, IntKind.wrap_u16]
    rfl
  refine take_ (i := 1) (N := some 20) (v := ?_) (a' := ?_) #[true, true, true, false, false, false] rfl rfl (by kernel_rfl) (fun _ _ _ h => h) (Or.inl ⟨by rfl, ?_⟩) hHeld ?_ ?_
  rotate_left
  · rintro w' ⟨s0, s1⟩
    go_simp
    with_reducible rfl
  rotate_left
  · simp only [Act.put, List.setIfInBounds_toArray, List.set_cons_zero, List.set_cons_succ, i64_w, i32_w, IntKind.wrap_u32, IntKind.wrap_u8, IntKind.wrap_u16]
    rfl
  refine pure_ (i := 4) (N := some 7) (v := ?_) (a' := ?_) #[true, true, true, false, true, false] rfl rfl (by kernel_rfl) (fun _ _ _ h => h) (Or.inl ⟨by rfl, ?_⟩) ?_ ?_
  rotate_left
  · intro w'
    go_simp
    with_reducible rfl
  rotate_left
  · simp only [Act.put, List.setIfInBounds_toArray, List.set_cons_zero, List.set_cons_succ, i64_w, i32_w, IntKind.wrap_u32, IntKind.wrap_u8, IntKind.wrap_u16]
    rfl
  refine take_ (i := 3) (N := some 22) (v := ?_) (a' := ?_) #[true, true, true, true, true, false] rfl rfl (by kernel_rfl) (fun _ _ _ h => h) (Or.inl ⟨by rfl, ?_⟩) hHeld ?_ ?_
  rotate_left
  · rintro w' ⟨s0, s1⟩
    go_simp
    with_reducible rfl
  rotate_left
  · simp only [Act.put, List.setIfInBounds_toArray, List.set_cons_zero, List.set_cons_succ, i64_w, i32_w, IntKind.wrap_u32, IntKind.wrap_u8, IntKind.wrap_u16]
    rfl
  refine pure_ (i := 5) (N := some 8) (v := ?_) (a' := ?_) #[true, true, true, true, true, true] rfl rfl (by kernel_rfl) (fun _ _ _ h => h) (Or.inl ⟨by rfl, ?_⟩) ?_ ?_
  rotate_left
  · intro w'
    go_simp
    with_reducible rfl
  rotate_left
  · simp only [Act.put, List.setIfInBounds_toArray, List.set_cons_zero, List.set_cons_succ, i64_w, i32_w, IntKind.wrap_u32, IntKind.wrap_u8, IntKind.wrap_u16]
    rfl
  refine done_ (by kernel_rfl) ?_
  go_wp2_with (first
    | (go_at_call 9; refine (HW.out (by repeat (with_reducible first | exact HS.out | apply sl_drewN | apply sl_drew | apply sl_box | apply sl_alloc))).mono ?_; rintro e w1 ⟨g, rfl, hs⟩; (try simp only [World.size_alloc] at hs); replace HS := Aside0.mk hs; clear hs; (try clear hm0 hm1 bl); have hm0 := c_at HS.out 0 rfl 0 rfl; have hm1 := c_at HS.out 0 rfl 1 rfl; have bl := blk_lt (sl_blk HS.out 0 rfl))
    | (go_at_call 10; with_reducible refine (Rsz_eq (s := S0) (by repeat (with_reducible first | exact HS.out | apply sl_drewN | apply sl_drew | apply sl_box | apply sl_alloc)) 2 _ sx sy H1.out.1 H1.out.2.1 H1.out.2.2.1 H1.out.2.2.2 rfl).mono ?_; rintro e w1 ⟨rfl, hs⟩; (try simp only [World.size_alloc] at hs); replace HS := Aside0.mk hs; clear hs; (try clear hm0 hm1 bl); have hm0 := c_at HS.out 0 rfl 0 rfl; have hm1 := c_at HS.out 0 rfl 1 rfl; have bl := blk_lt (sl_blk HS.out 0 rfl))
    | (go_at_call 11; refine (Acc_eq (s := S0) (by repeat (with_reducible first | exact HS.out | apply sl_drewN | apply sl_drew | apply sl_box | apply sl_alloc)) 2 gx gy H2.out.1 H2.out.2 (by rfl)).mono ?_; rintro e w1 ⟨rfl, hs⟩; (try simp only [World.size_alloc] at hs); replace HS := Aside0.mk hs; clear hs; (try clear hm0 hm1 bl); have hm0 := c_at HS.out 0 rfl 0 rfl; have hm1 := c_at HS.out 0 rfl 1 rfl; have bl := blk_lt (sl_blk HS.out 0 rfl))
    | (go_at_call 12; refine (Req_eq (s := S1) (by repeat (with_reducible first | exact HS.out | apply sl_drewN | apply sl_drew | apply sl_box | apply sl_alloc)) 2 4 true 0 0 0 0 H3.out.1 H3.out.2 (by rfl)).mono ?_; rintro e w1 ⟨rfl, hs⟩; (try simp only [World.size_alloc] at hs); replace HS := Aside0.mk hs; clear hs; (try clear hm0 hm1 bl); have hm0 := c_at HS.out 0 rfl 0 rfl; have hm1 := c_at HS.out 0 rfl 1 rfl; have bl := blk_lt (sl_blk HS.out 0 rfl))
    | (go_at_call 10; with_reducible refine (Rsz_eq (s := S2) (by repeat (with_reducible first | exact HS.out | apply sl_drewN | apply sl_drew | apply sl_box | apply sl_alloc)) 2 _ sx sy H4.out.1 H4.out.2.1 H4.out.2.2.1 H4.out.2.2.2 rfl).mono ?_; rintro e w1 ⟨rfl, hs⟩; (try simp only [World.size_alloc] at hs); replace HS := Aside0.mk hs; clear hs; (try clear hm0 hm1 bl); have hm0 := c_at HS.out 0 rfl 0 rfl; have hm1 := c_at HS.out 0 rfl 1 rfl; have bl := blk_lt (sl_blk HS.out 0 rfl))
    | (go_at_call 8; refine (ex_c (by repeat (with_reducible first | exact HS.out | apply sl_drewN | apply sl_drew | apply sl_box | apply sl_alloc))).mono ?_; rintro e w1 ⟨rfl, hs⟩; (try simp only [World.size_alloc] at hs); replace HS := Aside0.mk hs; clear hs))
  all_goals
    go_ret
    exact ⟨rfl, sl_below0 HS.out⟩
set_option maxHeartbeats 4000000 in
set_option maxRecDepth 100000 in
theorem ok_9 (gx gy sx sy : Int) (w : World) (h1 : 1 ≤ gx) (h2 : gx ≤ 16384) (h3 : 1 ≤ gy) (h4 : gy ≤ 16384) (hv : valB 1 sx sy = true) : Calls Try.prog 3 #[.agg #[.int .i64 gx, .int .i64 gy], .int .i64 9, .agg #[.int .i64 sx, .int .i64 sy]] w fun e w' => e = .returned (.bool true) ∧ Below w.heap.size w w' := by
  have HS := Aside0.mk (sl_box (sl_box (sl_start w) #[.int .i64 gx, .int .i64 gy] 23) #[.int .i64 sx, .int .i64 sy] 23)
  have d1 : decide (gx < 1) = false := decide_eq_false (by omega)
  have d2 : decide (16384 < gx) = false := decide_eq_false (by omega)
  have d3 : decide (gy < 1) = false := decide_eq_false (by omega)
  have d4 : decide (16384 < gy) = false := decide_eq_false (by omega)
  obtain ⟨S0, S1, S2, S3, f0, f1, f2, f3, f4⟩ := ed_facts 9 gx gy sx sy h1 h2 h3 h4 (E1 := 14) (E2 := 0) (A := sx) (B := sy) (by simp [edgeB, edX, edY, hv]) (by simp [edgeB, edX, edY, hv]) (by simp [edgeB, edX, edY, hv]) (by simp [edgeB, edX, edY, hv])
  have HW := Aside0.mk (show ∀ {w' : World} {L : List Res}, SL w w' L → Calls Try.prog 9 #[] w' fun e w'' => ∃ g : Nat, e = .returned (.pointer (some ⟨g, 0, none⟩)) ∧ SL w w'' (L ++ [winR g S0]) from fun h => f0 ▸ New_c h)
  have H1 := Aside0.mk f1
  have H2 := Aside0.mk f2
  have H3 := Aside0.mk f3
  have H4 := Aside0.mk f4
  clear f0 f1 f2 f3 f4 h1 h2 h3 h4 hv
  go_enter Try.func3, Try.ntmps3
  go_wp2_with (fail)
  simp only [World.size_alloc] at HS
  refine start_ (n := 6) (S := fun w' => w'.cell? ⟨w.heap.size + 1, 0, none⟩ = some (.int .i64 sx) ∧ w'.cell? ⟨w.heap.size + 1, 1, none⟩ = some (.int .i64 sy)) (ds := []) #[false, false, false, false, false, false] (by kernel_rfl) rfl rfl ⟨(c_at (sl_drew HS.out) 1 rfl 0 rfl), (c_at (sl_drew HS.out) 1 rfl 1 rfl)⟩ (fun hHeld => ?_)
  refine pure_ (i := 0) (N := some 19) (v := ?_) (a' := ?_) #[true, false, false, false, false, false] rfl rfl (by kernel_rfl) (fun _ _ _ h => h) (Or.inl ⟨by rfl, ?_⟩) ?_ ?_
  rotate_left
  · intro w'
    go_simp
    with_reducible rfl
  rotate_left
  · simp only [Act.put, List.setIfInBounds_toArray, List.set_cons_zero, List.set_cons_succ, i64_w, i32_w, IntKind.wrap_u32, IntKind.wrap_u8, IntKind.wrap_u16]
    rfl
  refine pure_ (i := 2) (N := some 21) (v := ?_) (a' := ?_) #[true, false, true, false, false, false] rfl rfl (by kernel_rfl) (fun _ _ _ h => h) (Or.inl ⟨by rfl, ?_⟩) ?_ ?_
  rotate_left
  · intro w'
    go_simp
    with_reducible rfl
  rotate_left
  · simp only [Act.put, List.setIfInBounds_toArray, List.set_cons_zero, List.set_cons_succ, i64_w, i32_w, IntKind.wrap_u32, IntKind.wrap_u8, IntKind.wrap_u16]
    rfl
  refine take_ (i := 1) (N := some 20) (v := ?_) (a' := ?_) #[true, true, true, false, false, false] rfl rfl (by kernel_rfl) (fun _ _ _ h => h) (Or.inl ⟨by rfl, ?_⟩) hHeld ?_ ?_
  rotate_left
  · rintro w' ⟨s0, s1⟩
    go_simp
    with_reducible rfl
  rotate_left
  · simp only [Act.put, List.setIfInBounds_toArray, List.set_cons_zero, List.set_cons_succ, i64_w, i32_w, IntKind.wrap_u32, IntKind.wrap_u8, IntKind.wrap_u16]
    rfl
  refine pure_ (i := 4) (N := some 7) (v := ?_) (a' := ?_) #[true, true, true, false, true, false] rfl rfl (by kernel_rfl) (fun _ _ _ h => h) (Or.inl ⟨by rfl, ?_⟩) ?_ ?_
  rotate_left
  · intro w'
    go_simp
    with_reducible rfl
  rotate_left
  · simp only [Act.put, List.setIfInBounds_toArray, List.set_cons_zero, List.set_cons_succ, i64_w, i32_w, IntKind.wrap_u32, IntKind.wrap_u8, IntKind.wrap_u16]
    rfl
  refine take_ (i := 3) (N := some 22) (v := ?_) (a' := ?_) #[true, true, true, true, true, false] rfl rfl (by kernel_rfl) (fun _ _ _ h => h) (Or.inl ⟨by rfl, ?_⟩) hHeld ?_ ?_
  rotate_left
  · rintro w' ⟨s0, s1⟩
    go_simp
    with_reducible rfl
  rotate_left
  · simp only [Act.put, List.setIfInBounds_toArray, List.set_cons_zero, List.set_cons_succ, i64_w, i32_w, IntKind.wrap_u32, IntKind.wrap_u8, IntKind.wrap_u16]
    rfl
  refine pure_ (i := 5) (N := some 8) (v := ?_) (a' := ?_) #[true, true, true, true, true, true] rfl rfl (by kernel_rfl) (fun _ _ _ h => h) (Or.inl ⟨by rfl, ?_⟩) ?_ ?_
  rotate_left
  · intro w'
    go_simp
    with_reducible rfl
  rotate_left
  · simp only [Act.put, List.setIfInBounds_toArray, List.set_cons_zero, List.set_cons_succ, i64_w, i32_w, IntKind.wrap_u32, IntKind.wrap_u8, IntKind.wrap_u16]
    rfl
  refine done_ (by kernel_rfl) ?_
  go_wp2_with (first
    | (go_at_call 9; refine (HW.out (by repeat (with_reducible first | exact HS.out | apply sl_drewN | apply sl_drew | apply sl_box | apply sl_alloc))).mono ?_; rintro e w1 ⟨g, rfl, hs⟩; (try simp only [World.size_alloc] at hs); replace HS := Aside0.mk hs; clear hs; (try clear hm0 hm1 bl); have hm0 := c_at HS.out 0 rfl 0 rfl; have hm1 := c_at HS.out 0 rfl 1 rfl; have bl := blk_lt (sl_blk HS.out 0 rfl))
    | (go_at_call 10; with_reducible refine (Rsz_eq (s := S0) (by repeat (with_reducible first | exact HS.out | apply sl_drewN | apply sl_drew | apply sl_box | apply sl_alloc)) 2 _ sx sy H1.out.1 H1.out.2.1 H1.out.2.2.1 H1.out.2.2.2 rfl).mono ?_; rintro e w1 ⟨rfl, hs⟩; (try simp only [World.size_alloc] at hs); replace HS := Aside0.mk hs; clear hs; (try clear hm0 hm1 bl); have hm0 := c_at HS.out 0 rfl 0 rfl; have hm1 := c_at HS.out 0 rfl 1 rfl; have bl := blk_lt (sl_blk HS.out 0 rfl))
    | (go_at_call 11; refine (Acc_eq (s := S0) (by repeat (with_reducible first | exact HS.out | apply sl_drewN | apply sl_drew | apply sl_box | apply sl_alloc)) 2 gx gy H2.out.1 H2.out.2 (by rfl)).mono ?_; rintro e w1 ⟨rfl, hs⟩; (try simp only [World.size_alloc] at hs); replace HS := Aside0.mk hs; clear hs; (try clear hm0 hm1 bl); have hm0 := c_at HS.out 0 rfl 0 rfl; have hm1 := c_at HS.out 0 rfl 1 rfl; have bl := blk_lt (sl_blk HS.out 0 rfl))
    | (go_at_call 12; refine (Req_eq (s := S1) (by repeat (with_reducible first | exact HS.out | apply sl_drewN | apply sl_drew | apply sl_box | apply sl_alloc)) 2 4 true 0 0 0 0 H3.out.1 H3.out.2 (by rfl)).mono ?_; rintro e w1 ⟨rfl, hs⟩; (try simp only [World.size_alloc] at hs); replace HS := Aside0.mk hs; clear hs; (try clear hm0 hm1 bl); have hm0 := c_at HS.out 0 rfl 0 rfl; have hm1 := c_at HS.out 0 rfl 1 rfl; have bl := blk_lt (sl_blk HS.out 0 rfl))
    | (go_at_call 10; with_reducible refine (Rsz_eq (s := S2) (by repeat (with_reducible first | exact HS.out | apply sl_drewN | apply sl_drew | apply sl_box | apply sl_alloc)) 2 _ sx sy H4.out.1 H4.out.2.1 H4.out.2.2.1 H4.out.2.2.2 rfl).mono ?_; rintro e w1 ⟨rfl, hs⟩; (try simp only [World.size_alloc] at hs); replace HS := Aside0.mk hs; clear hs; (try clear hm0 hm1 bl); have hm0 := c_at HS.out 0 rfl 0 rfl; have hm1 := c_at HS.out 0 rfl 1 rfl; have bl := blk_lt (sl_blk HS.out 0 rfl))
    | (go_at_call 8; refine (ex_c (by repeat (with_reducible first | exact HS.out | apply sl_drewN | apply sl_drew | apply sl_box | apply sl_alloc))).mono ?_; rintro e w1 ⟨rfl, hs⟩; (try simp only [World.size_alloc] at hs); replace HS := Aside0.mk hs; clear hs))
  all_goals
    go_ret
    exact ⟨rfl, sl_below0 HS.out⟩
set_option maxHeartbeats 4000000 in
set_option maxRecDepth 100000 in
theorem no_10 (gx gy sx sy : Int) (w : World) (h1 : 1 ≤ gx) (h2 : gx ≤ 16384) (h3 : 1 ≤ gy) (h4 : gy ≤ 16384) (hv : valB 1 sx sy = false) : Calls Try.prog 3 #[.agg #[.int .i64 gx, .int .i64 gy], .int .i64 10, .agg #[.int .i64 sx, .int .i64 sy]] w fun e w' => e = .returned (.bool true) ∧ Below w.heap.size w w' := by
  have HS := Aside0.mk (sl_box (sl_box (sl_start w) #[.int .i64 gx, .int .i64 gy] 23) #[.int .i64 sx, .int .i64 sy] 23)
  have d1 : decide (gx < 1) = false := decide_eq_false (by omega)
  have d2 : decide (16384 < gx) = false := decide_eq_false (by omega)
  have d3 : decide (gy < 1) = false := decide_eq_false (by omega)
  have d4 : decide (16384 < gy) = false := decide_eq_false (by omega)
  obtain ⟨S0, S1, S2, S3, f0, f1, f2, f3, f4⟩ := ed_facts 10 gx gy sx sy h1 h2 h3 h4 (E1 := 14) (E2 := 6) (A := 0) (B := 0) (by simp [edgeB, edX, edY, hv]) (by simp [edgeB, edX, edY, hv]) (by simp [edgeB, edX, edY, hv]) (by simp [edgeB, edX, edY, hv])
  have HW := Aside0.mk (show ∀ {w' : World} {L : List Res}, SL w w' L → Calls Try.prog 9 #[] w' fun e w'' => ∃ g : Nat, e = .returned (.pointer (some ⟨g, 0, none⟩)) ∧ SL w w'' (L ++ [winR g S0]) from fun h => f0 ▸ New_c h)
  have H1 := Aside0.mk f1
  have H2 := Aside0.mk f2
  have H3 := Aside0.mk f3
  have H4 := Aside0.mk f4
  clear f0 f1 f2 f3 f4 h1 h2 h3 h4 hv
  go_enter Try.func3, Try.ntmps3
  go_wp2_with (fail)
  simp only [World.size_alloc] at HS
  refine start_ (n := 6) (S := fun w' => w'.cell? ⟨w.heap.size + 1, 0, none⟩ = some (.int .i64 sx) ∧ w'.cell? ⟨w.heap.size + 1, 1, none⟩ = some (.int .i64 sy)) (ds := []) #[false, false, false, false, false, false] (by kernel_rfl) rfl rfl ⟨(c_at (sl_drew HS.out) 1 rfl 0 rfl), (c_at (sl_drew HS.out) 1 rfl 1 rfl)⟩ (fun hHeld => ?_)
  refine pure_ (i := 0) (N := some 19) (v := ?_) (a' := ?_) #[true, false, false, false, false, false] rfl rfl (by kernel_rfl) (fun _ _ _ h => h) (Or.inl ⟨by rfl, ?_⟩) ?_ ?_
  rotate_left
  · intro w'
    go_simp
    with_reducible rfl
  rotate_left
  · simp only [Act.put, List.setIfInBounds_toArray, List.set_cons_zero, List.set_cons_succ, i64_w, i32_w, IntKind.wrap_u32, IntKind.wrap_u8, IntKind.wrap_u16]
    rfl
  refine pure_ (i := 2) (N := some 21) (v := ?_) (a' := ?_) #[true, false, true, false, false, false] rfl rfl (by kernel_rfl) (fun _ _ _ h => h) (Or.inl ⟨by rfl, ?_⟩) ?_ ?_
  rotate_left
  · intro w'
    go_simp
    with_reducible rfl
  rotate_left
  · simp only [Act.put, List.setIfInBounds_toArray, List.set_cons_zero, List.set_cons_succ, i64_w, i32_w, IntKind.wrap_u32, IntKind.wrap_u8, IntKind.wrap_u16]
    rfl
  refine take_ (i := 1) (N := some 20) (v := ?_) (a' := ?_) #[true, true, true, false, false, false] rfl rfl (by kernel_rfl) (fun _ _ _ h => h) (Or.inl ⟨by rfl, ?_⟩) hHeld ?_ ?_
  rotate_left
  · rintro w' ⟨s0, s1⟩
    go_simp
    with_reducible rfl
  rotate_left
  · simp only [Act.put, List.setIfInBounds_toArray, List.set_cons_zero, List.set_cons_succ, i64_w, i32_w, IntKind.wrap_u32, IntKind.wrap_u8, IntKind.wrap_u16]
    rfl
  refine pure_ (i := 4) (N := some 7) (v := ?_) (a' := ?_) #[true, true, true, false, true, false] rfl rfl (by kernel_rfl) (fun _ _ _ h => h) (Or.inl ⟨by rfl, ?_⟩) ?_ ?_
  rotate_left
  · intro w'
    go_simp
    with_reducible rfl
  rotate_left
  · simp only [Act.put, List.setIfInBounds_toArray, List.set_cons_zero, List.set_cons_succ, i64_w, i32_w, IntKind.wrap_u32, IntKind.wrap_u8, IntKind.wrap_u16]
    rfl
  refine take_ (i := 3) (N := some 22) (v := ?_) (a' := ?_) #[true, true, true, true, true, false] rfl rfl (by kernel_rfl) (fun _ _ _ h => h) (Or.inl ⟨by rfl, ?_⟩) hHeld ?_ ?_
  rotate_left
  · rintro w' ⟨s0, s1⟩
    go_simp
    with_reducible rfl
  rotate_left
  · simp only [Act.put, List.setIfInBounds_toArray, List.set_cons_zero, List.set_cons_succ, i64_w, i32_w, IntKind.wrap_u32, IntKind.wrap_u8, IntKind.wrap_u16]
    rfl
  refine pure_ (i := 5) (N := some 8) (v := ?_) (a' := ?_) #[true, true, true, true, true, true] rfl rfl (by kernel_rfl) (fun _ _ _ h => h) (Or.inl ⟨by rfl, ?_⟩) ?_ ?_
  rotate_left
  · intro w'
    go_simp
    with_reducible rfl
  rotate_left
  · simp only [Act.put, List.setIfInBounds_toArray, List.set_cons_zero, List.set_cons_succ, i64_w, i32_w, IntKind.wrap_u32, IntKind.wrap_u8, IntKind.wrap_u16]
    rfl
  refine done_ (by kernel_rfl) ?_
  go_wp2_with (first
    | (go_at_call 9; refine (HW.out (by repeat (with_reducible first | exact HS.out | apply sl_drewN | apply sl_drew | apply sl_box | apply sl_alloc))).mono ?_; rintro e w1 ⟨g, rfl, hs⟩; (try simp only [World.size_alloc] at hs); replace HS := Aside0.mk hs; clear hs; (try clear hm0 hm1 bl); have hm0 := c_at HS.out 0 rfl 0 rfl; have hm1 := c_at HS.out 0 rfl 1 rfl; have bl := blk_lt (sl_blk HS.out 0 rfl))
    | (go_at_call 10; with_reducible refine (Rsz_eq (s := S0) (by repeat (with_reducible first | exact HS.out | apply sl_drewN | apply sl_drew | apply sl_box | apply sl_alloc)) 2 _ sx sy H1.out.1 H1.out.2.1 H1.out.2.2.1 H1.out.2.2.2 rfl).mono ?_; rintro e w1 ⟨rfl, hs⟩; (try simp only [World.size_alloc] at hs); replace HS := Aside0.mk hs; clear hs; (try clear hm0 hm1 bl); have hm0 := c_at HS.out 0 rfl 0 rfl; have hm1 := c_at HS.out 0 rfl 1 rfl; have bl := blk_lt (sl_blk HS.out 0 rfl))
    | (go_at_call 11; refine (Acc_eq (s := S0) (by repeat (with_reducible first | exact HS.out | apply sl_drewN | apply sl_drew | apply sl_box | apply sl_alloc)) 2 gx gy H2.out.1 H2.out.2 (by rfl)).mono ?_; rintro e w1 ⟨rfl, hs⟩; (try simp only [World.size_alloc] at hs); replace HS := Aside0.mk hs; clear hs; (try clear hm0 hm1 bl); have hm0 := c_at HS.out 0 rfl 0 rfl; have hm1 := c_at HS.out 0 rfl 1 rfl; have bl := blk_lt (sl_blk HS.out 0 rfl))
    | (go_at_call 12; refine (Req_eq (s := S1) (by repeat (with_reducible first | exact HS.out | apply sl_drewN | apply sl_drew | apply sl_box | apply sl_alloc)) 2 4 true 0 0 0 0 H3.out.1 H3.out.2 (by rfl)).mono ?_; rintro e w1 ⟨rfl, hs⟩; (try simp only [World.size_alloc] at hs); replace HS := Aside0.mk hs; clear hs; (try clear hm0 hm1 bl); have hm0 := c_at HS.out 0 rfl 0 rfl; have hm1 := c_at HS.out 0 rfl 1 rfl; have bl := blk_lt (sl_blk HS.out 0 rfl))
    | (go_at_call 10; with_reducible refine (Rsz_eq (s := S2) (by repeat (with_reducible first | exact HS.out | apply sl_drewN | apply sl_drew | apply sl_box | apply sl_alloc)) 2 _ sx sy H4.out.1 H4.out.2.1 H4.out.2.2.1 H4.out.2.2.2 rfl).mono ?_; rintro e w1 ⟨rfl, hs⟩; (try simp only [World.size_alloc] at hs); replace HS := Aside0.mk hs; clear hs; (try clear hm0 hm1 bl); have hm0 := c_at HS.out 0 rfl 0 rfl; have hm1 := c_at HS.out 0 rfl 1 rfl; have bl := blk_lt (sl_blk HS.out 0 rfl))
    | (go_at_call 8; refine (ex_c (by repeat (with_reducible first | exact HS.out | apply sl_drewN | apply sl_drew | apply sl_box | apply sl_alloc))).mono ?_; rintro e w1 ⟨rfl, hs⟩; (try simp only [World.size_alloc] at hs); replace HS := Aside0.mk hs; clear hs))
  all_goals
    go_ret
    exact ⟨rfl, sl_below0 HS.out⟩
set_option maxHeartbeats 4000000 in
set_option maxRecDepth 100000 in
theorem ok_10 (gx gy sx sy : Int) (w : World) (h1 : 1 ≤ gx) (h2 : gx ≤ 16384) (h3 : 1 ≤ gy) (h4 : gy ≤ 16384) (hv : valB 1 sx sy = true) : Calls Try.prog 3 #[.agg #[.int .i64 gx, .int .i64 gy], .int .i64 10, .agg #[.int .i64 sx, .int .i64 sy]] w fun e w' => e = .returned (.bool true) ∧ Below w.heap.size w w' := by
  have HS := Aside0.mk (sl_box (sl_box (sl_start w) #[.int .i64 gx, .int .i64 gy] 23) #[.int .i64 sx, .int .i64 sy] 23)
  have d1 : decide (gx < 1) = false := decide_eq_false (by omega)
  have d2 : decide (16384 < gx) = false := decide_eq_false (by omega)
  have d3 : decide (gy < 1) = false := decide_eq_false (by omega)
  have d4 : decide (16384 < gy) = false := decide_eq_false (by omega)
  obtain ⟨S0, S1, S2, S3, f0, f1, f2, f3, f4⟩ := ed_facts 10 gx gy sx sy h1 h2 h3 h4 (E1 := 14) (E2 := 0) (A := sx) (B := sy) (by simp [edgeB, edX, edY, hv]) (by simp [edgeB, edX, edY, hv]) (by simp [edgeB, edX, edY, hv]) (by simp [edgeB, edX, edY, hv])
  have HW := Aside0.mk (show ∀ {w' : World} {L : List Res}, SL w w' L → Calls Try.prog 9 #[] w' fun e w'' => ∃ g : Nat, e = .returned (.pointer (some ⟨g, 0, none⟩)) ∧ SL w w'' (L ++ [winR g S0]) from fun h => f0 ▸ New_c h)
  have H1 := Aside0.mk f1
  have H2 := Aside0.mk f2
  have H3 := Aside0.mk f3
  have H4 := Aside0.mk f4
  clear f0 f1 f2 f3 f4 h1 h2 h3 h4 hv
  go_enter Try.func3, Try.ntmps3
  go_wp2_with (fail)
  simp only [World.size_alloc] at HS
  refine start_ (n := 6) (S := fun w' => w'.cell? ⟨w.heap.size + 1, 0, none⟩ = some (.int .i64 sx) ∧ w'.cell? ⟨w.heap.size + 1, 1, none⟩ = some (.int .i64 sy)) (ds := []) #[false, false, false, false, false, false] (by kernel_rfl) rfl rfl ⟨(c_at (sl_drew HS.out) 1 rfl 0 rfl), (c_at (sl_drew HS.out) 1 rfl 1 rfl)⟩ (fun hHeld => ?_)
  refine pure_ (i := 0) (N := some 19) (v := ?_) (a' := ?_) #[true, false, false, false, false, false] rfl rfl (by kernel_rfl) (fun _ _ _ h => h) (Or.inl ⟨by rfl, ?_⟩) ?_ ?_
  rotate_left
  · intro w'
    go_simp
    with_reducible rfl
  rotate_left
  · simp only [Act.put, List.setIfInBounds_toArray, List.set_cons_zero, List.set_cons_succ, i64_w, i32_w, IntKind.wrap_u32, IntKind.wrap_u8, IntKind.wrap_u16]
    rfl
  refine pure_ (i := 2) (N := some 21) (v := ?_) (a' := ?_) #[true, false, true, false, false, false] rfl rfl (by kernel_rfl) (fun _ _ _ h => h) (Or.inl ⟨by rfl, ?_⟩) ?_ ?_
  rotate_left
  · intro w'
    go_simp
    with_reducible rfl
  rotate_left
  · simp only [Act.put, List.setIfInBounds_toArray, List.set_cons_zero, List.set_cons_succ, i64_w, i32_w, IntKind.wrap_u32, IntKind.wrap_u8, IntKind.wrap_u16]
    rfl
  refine take_ (i := 1) (N := some 20) (v := ?_) (a' := ?_) #[true, true, true, false, false, false] rfl rfl (by kernel_rfl) (fun _ _ _ h => h) (Or.inl ⟨by rfl, ?_⟩) hHeld ?_ ?_
  rotate_left
  · rintro w' ⟨s0, s1⟩
    go_simp
    with_reducible rfl
  rotate_left
  · simp only [Act.put, List.setIfInBounds_toArray, List.set_cons_zero, List.set_cons_succ, i64_w, i32_w, IntKind.wrap_u32, IntKind.wrap_u8, IntKind.wrap_u16]
    rfl
  refine pure_ (i := 4) (N := some 7) (v := ?_) (a' := ?_) #[true, true, true, false, true, false] rfl rfl (by kernel_rfl) (fun _ _ _ h => h) (Or.inl ⟨by rfl, ?_⟩) ?_ ?_
  rotate_left
  · intro w'
    go_simp
    with_reducible rfl
  rotate_left
  · simp only [Act.put, List.setIfInBounds_toArray, List.set_cons_zero, List.set_cons_succ, i64_w, i32_w, IntKind.wrap_u32, IntKind.wrap_u8, IntKind.wrap_u16]
    rfl
  refine take_ (i := 3) (N := some 22) (v := ?_) (a' := ?_) #[true, true, true, true, true, false] rfl rfl (by kernel_rfl) (fun _ _ _ h => h) (Or.inl ⟨by rfl, ?_⟩) hHeld ?_ ?_
  rotate_left
  · rintro w' ⟨s0, s1⟩
    go_simp
    with_reducible rfl
  rotate_left
  · simp only [Act.put, List.setIfInBounds_toArray, List.set_cons_zero, List.set_cons_succ, i64_w, i32_w, IntKind.wrap_u32, IntKind.wrap_u8, IntKind.wrap_u16]
    rfl
  refine pure_ (i := 5) (N := some 8) (v := ?_) (a' := ?_) #[true, true, true, true, true, true] rfl rfl (by kernel_rfl) (fun _ _ _ h => h) (Or.inl ⟨by rfl, ?_⟩) ?_ ?_
  rotate_left
  · intro w'
    go_simp
    with_reducible rfl
  rotate_left
  · simp only [Act.put, List.setIfInBounds_toArray, List.set_cons_zero, List.set_cons_succ, i64_w, i32_w, IntKind.wrap_u32, IntKind.wrap_u8, IntKind.wrap_u16]
    rfl
  refine done_ (by kernel_rfl) ?_
  go_wp2_with (first
    | (go_at_call 9; refine (HW.out (by repeat (with_reducible first | exact HS.out | apply sl_drewN | apply sl_drew | apply sl_box | apply sl_alloc))).mono ?_; rintro e w1 ⟨g, rfl, hs⟩; (try simp only [World.size_alloc] at hs); replace HS := Aside0.mk hs; clear hs; (try clear hm0 hm1 bl); have hm0 := c_at HS.out 0 rfl 0 rfl; have hm1 := c_at HS.out 0 rfl 1 rfl; have bl := blk_lt (sl_blk HS.out 0 rfl))
    | (go_at_call 10; with_reducible refine (Rsz_eq (s := S0) (by repeat (with_reducible first | exact HS.out | apply sl_drewN | apply sl_drew | apply sl_box | apply sl_alloc)) 2 _ sx sy H1.out.1 H1.out.2.1 H1.out.2.2.1 H1.out.2.2.2 rfl).mono ?_; rintro e w1 ⟨rfl, hs⟩; (try simp only [World.size_alloc] at hs); replace HS := Aside0.mk hs; clear hs; (try clear hm0 hm1 bl); have hm0 := c_at HS.out 0 rfl 0 rfl; have hm1 := c_at HS.out 0 rfl 1 rfl; have bl := blk_lt (sl_blk HS.out 0 rfl))
    | (go_at_call 11; refine (Acc_eq (s := S0) (by repeat (with_reducible first | exact HS.out | apply sl_drewN | apply sl_drew | apply sl_box | apply sl_alloc)) 2 gx gy H2.out.1 H2.out.2 (by rfl)).mono ?_; rintro e w1 ⟨rfl, hs⟩; (try simp only [World.size_alloc] at hs); replace HS := Aside0.mk hs; clear hs; (try clear hm0 hm1 bl); have hm0 := c_at HS.out 0 rfl 0 rfl; have hm1 := c_at HS.out 0 rfl 1 rfl; have bl := blk_lt (sl_blk HS.out 0 rfl))
    | (go_at_call 12; refine (Req_eq (s := S1) (by repeat (with_reducible first | exact HS.out | apply sl_drewN | apply sl_drew | apply sl_box | apply sl_alloc)) 2 4 true 0 0 0 0 H3.out.1 H3.out.2 (by rfl)).mono ?_; rintro e w1 ⟨rfl, hs⟩; (try simp only [World.size_alloc] at hs); replace HS := Aside0.mk hs; clear hs; (try clear hm0 hm1 bl); have hm0 := c_at HS.out 0 rfl 0 rfl; have hm1 := c_at HS.out 0 rfl 1 rfl; have bl := blk_lt (sl_blk HS.out 0 rfl))
    | (go_at_call 10; with_reducible refine (Rsz_eq (s := S2) (by repeat (with_reducible first | exact HS.out | apply sl_drewN | apply sl_drew | apply sl_box | apply sl_alloc)) 2 _ sx sy H4.out.1 H4.out.2.1 H4.out.2.2.1 H4.out.2.2.2 rfl).mono ?_; rintro e w1 ⟨rfl, hs⟩; (try simp only [World.size_alloc] at hs); replace HS := Aside0.mk hs; clear hs; (try clear hm0 hm1 bl); have hm0 := c_at HS.out 0 rfl 0 rfl; have hm1 := c_at HS.out 0 rfl 1 rfl; have bl := blk_lt (sl_blk HS.out 0 rfl))
    | (go_at_call 8; refine (ex_c (by repeat (with_reducible first | exact HS.out | apply sl_drewN | apply sl_drew | apply sl_box | apply sl_alloc))).mono ?_; rintro e w1 ⟨rfl, hs⟩; (try simp only [World.size_alloc] at hs); replace HS := Aside0.mk hs; clear hs))
  all_goals
    go_ret
    exact ⟨rfl, sl_below0 HS.out⟩
end Go.Proofs.Ytckpgccbhaejgaa.Q
