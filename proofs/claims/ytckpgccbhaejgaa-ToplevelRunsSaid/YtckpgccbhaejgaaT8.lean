import Derived.Test.YtckpgccbhaejgaaT7
namespace Go.Proofs.Ytckpgccbhaejgaa.Q
open Go.RowKit Go.Proofs.YtckpgccbhaejgaaW.PrintWords Go.Proofs.YtckpgccbhaejgaaW.PrintLast Go.Proofs.YtckpgccbhaejgaaW.PrintMore Go.Proofs.Ytckpgccbhaejgaa.Sl Go.Proofs.Ytckpgccbhaejgaa.Hand 
attribute [local go_sem] max2_int min2_int max_two min_two max_three min_three max_four min_four 
set_option linter.unusedVariables false
set_option linter.unusedSimpArgs false

section
variable {w0 w : World} {R : Res}
theorem mask_m {w0 w : World} {R : Res} (g m : Nat) (s : WSt) {M : Int} (hM : mskI s.b = M) (hs : SL w0 w [winC g m s, R, bitR m s.b]) : Calls Try.prog 26 #[.pointer (some ⟨g, 0, none⟩)] w fun e w' => e = .returned (.int .i64 M) ∧ SL w0 w' [winC g m s, R, bitR m s.b] := by
  subst hM
  exact mask_in g m s hs
theorem limited_m {w0 w : World} {R : Res} (g m : Nat) (s : WSt) (x y : Int) {A B : Int} (hA : limI s.lx s.mx x = A ∧ limI s.ly s.my y = B) (hs : SL w0 w [winC g m s, R, bitR m s.b]) : Calls Try.prog 28 #[.pointer (some ⟨g, 0, none⟩), .agg #[.int .i64 x, .int .i64 y]] w fun e w' => e = .returned (.agg #[.int .i64 A, .int .i64 B]) ∧ SL w0 w' [winC g m s, R, bitR m s.b] := by
  rw [← hA.1, ← hA.2]
  exact limited_in g m s x y hs
theorem rsk_01 (g : Nat) (s : WSt) (k x y V H A B : Int) (hV : Go.bits .and .i64 k 3 = V) (hH : Go.bits .and .i64 k 12 = H) (hVH : Go.bits .or .i64 V H = k) (h3 : (V == 3) = false) (h12 : (H == 12) = false) (q1 : decide (k < 1) = false) (q2 : decide (12 < k) = false) (hx : (H == 0) = true) (hx' : (H != 0) = false) (hy : (V == 0) = false) (hy' : (V != 0) = true) (hb : s.b.c = true ∧ s.b.a = false ∧ s.b.b = false) (hv : valB 1 x y = true) (hA : limI s.lx s.mx s.gx = A) (hB : limI s.ly s.my y = B) (hs : SL w0 w [winR g s, R]) : Calls Try.prog 10 #[.pointer (some ⟨g, 0, none⟩), .int .i64 k, .int .i64 x, .int .i64 y] w fun e w' => e = .returned (.tuple #[.int .i64 A, .int .i64 B, .int .i64 0]) ∧ SL w0 w' [winR g { s with sx := A, sy := B }, R] := by
  obtain ⟨m, hs⟩ := win_open hs
  have HS := Aside0.mk hs
  clear hs
  have HV := Aside0.mk hv
  clear hv
  obtain ⟨M, hM⟩ : ∃ M, mskI s.b = M := ⟨_, rfl⟩
  have a4 := and4 s.b
  have a3 := and3 s.b
  rw [hM] at a4 a3
  have HM := Aside0.mk hM
  clear hM
  obtain ⟨X4, h4⟩ : ∃ X, Go.bits .and .i64 M 4 = X := ⟨_, rfl⟩
  obtain ⟨X3, h33⟩ : ∃ X, Go.bits .and .i64 M 3 = X := ⟨_, rfl⟩
  rw [h4] at a4
  rw [h33] at a3
  replace a4 : (X4 == 0) = false := by rw [a4, hb.1]; rfl
  replace a3 : (X3 == 0) = true := by rw [a3, hb.2.1, hb.2.2]; rfl
  have a3' : (X3 != 0) = false := by unfold bne; rw [a3]; rfl
  clear hb
  have HA := Aside0.mk (And.intro hA hB)
  clear hA hB
  go_enter Try.func10, Try.ntmps10
  go_wp2_with (first
    | (go_at_call 25; refine (usable_c (by repeat (with_reducible first | exact HS.out | apply sl_drewN | apply sl_drew | apply sl_box | apply sl_alloc)) 0 (by rfl)).mono ?_; rintro e w1 ⟨rfl, hs⟩; (try simp only [World.size_alloc] at hs); replace HS := Aside0.mk hs; clear hs; (try clear hm6 hm7); have hm6 := c_at HS.out 0 rfl 6 rfl; have hm7 := c_at HS.out 0 rfl 7 rfl)
    | (go_at_call 26; refine (mask_m g m s HM.out (by repeat (with_reducible first | exact HS.out | apply sl_drewN | apply sl_drew | apply sl_box | apply sl_alloc))).mono ?_; rintro e w1 ⟨rfl, hs⟩; (try simp only [World.size_alloc] at hs); replace HS := Aside0.mk hs; clear hs; (try clear hm6 hm7); have hm6 := c_at HS.out 0 rfl 6 rfl; have hm7 := c_at HS.out 0 rfl 7 rfl)
    | (go_at_call 27; refine (valid_c (by repeat (with_reducible first | exact HS.out | apply sl_drewN | apply sl_drew | apply sl_box | apply sl_alloc)) 1 x y HV.out (lit2 _ x y)).mono ?_; rintro e w1 ⟨rfl, hs⟩; (try simp only [World.size_alloc] at hs); replace HS := Aside0.mk hs; clear hs; (try clear hm6 hm7); have hm6 := c_at HS.out 0 rfl 6 rfl; have hm7 := c_at HS.out 0 rfl 7 rfl; have hlt := blk_lt (sl_blk HS.out 0 rfl))
    | (go_at_call 28; refine (limited_m g m s (s.gx) (y) HA.out (sl_take (sl_box HS.out #[.int .i64 (s.gx), .int .i64 (y)] 23) 3)).mono ?_; rintro e w1 ⟨rfl, hs⟩; replace HS := Aside0.mk hs; clear hs; (try clear hm6 hm7); have q0 := c_at HS.out 0 rfl 10 rfl; have q1 := c_at HS.out 0 rfl 11 rfl; have f0 := f_at HS.out 0 rfl 10; have f1 := f_at HS.out 0 rfl 11; have hl1 := blk_lt (sl_blk HS.out 0 rfl)))
  have HS3 := Aside0.mk (sl_put (sl_put HS.out 0 rfl 10 (.int .i64 A)) 0 rfl 11 (.int .i64 B))
  refine start_ (n := 13) (S := fun w' => w'.cell? ⟨g, 10, none⟩ = some (.int .i64 A) ∧ w'.cell? ⟨g, 11, none⟩ = some (.int .i64 B)) (ds := []) #[false, false, false, false, false, false, false, false, false, false, false, false, false] (by kernel_rfl) rfl rfl ⟨(c_at (sl_drew HS3.out) 0 rfl 10 rfl), (c_at (sl_drew HS3.out) 0 rfl 11 rfl)⟩ (fun hHeld => ?_)
  refine pure_ (i := 0) (N := some 78) (v := ?_) (a' := ?_) #[true, false, false, false, false, false, false, false, false, false, false, false, false] rfl rfl (by kernel_rfl) (fun _ _ _ h => h) (Or.inl ⟨by rfl, ?_⟩) ?_ ?_
  rotate_left
  · intro w'
    go_simp
    with_reducible rfl
  rotate_left
  · simp only [Act.put, List.setIfInBounds_toArray, List.set_cons_zero, List.set_cons_succ, i64_w, i32_w, IntKind.wrap_u32, IntKind.wrap_u8, IntKind.wrap_u16]
    rfl
  refine pure_ (i := 1) (N := some 79) (v := ?_) (a' := ?_) #[true, true, false, false, false, false, false, false, false, false, false, false, false] rfl rfl (by kernel_rfl) (fun _ _ _ h => h) (Or.inl ⟨by rfl, ?_⟩) ?_ ?_
  rotate_left
  · intro w'
    go_simp
    with_reducible rfl
  rotate_left
  · simp only [Act.put, List.setIfInBounds_toArray, List.set_cons_zero, List.set_cons_succ, i64_w, i32_w, IntKind.wrap_u32, IntKind.wrap_u8, IntKind.wrap_u16]
    rfl
  refine pure_ (i := 2) (N := some 80) (v := ?_) (a' := ?_) #[true, true, true, false, false, false, false, false, false, false, false, false, false] rfl rfl (by kernel_rfl) (fun _ _ _ h => h) (Or.inl ⟨by rfl, ?_⟩) ?_ ?_
  rotate_left
  · intro w'
    go_simp
    with_reducible rfl
  rotate_left
  · simp only [Act.put, List.setIfInBounds_toArray, List.set_cons_zero, List.set_cons_succ, i64_w, i32_w, IntKind.wrap_u32, IntKind.wrap_u8, IntKind.wrap_u16]
    rfl
  refine pure_ (i := 3) (N := some 81) (v := ?_) (a' := ?_) #[true, true, true, true, false, false, false, false, false, false, false, false, false] rfl rfl (by kernel_rfl) (fun _ _ _ h => h) (Or.inl ⟨by rfl, ?_⟩) ?_ ?_
  rotate_left
  · intro w'
    go_simp
    with_reducible rfl
  rotate_left
  · simp only [Act.put, List.setIfInBounds_toArray, List.set_cons_zero, List.set_cons_succ, i64_w, i32_w, IntKind.wrap_u32, IntKind.wrap_u8, IntKind.wrap_u16]
    rfl
  refine pure_ (i := 5) (N := some 83) (v := ?_) (a' := ?_) #[true, true, true, true, false, true, false, false, false, false, false, false, false] rfl rfl (by kernel_rfl) (fun _ _ _ h => h) (Or.inl ⟨by rfl, ?_⟩) ?_ ?_
  rotate_left
  · intro w'
    go_simp
    with_reducible rfl
  rotate_left
  · simp only [Act.put, List.setIfInBounds_toArray, List.set_cons_zero, List.set_cons_succ, i64_w, i32_w, IntKind.wrap_u32, IntKind.wrap_u8, IntKind.wrap_u16]
    rfl
  refine pure_ (i := 6) (N := some 84) (v := ?_) (a' := ?_) #[true, true, true, true, false, true, true, false, false, false, false, false, false] rfl rfl (by kernel_rfl) (fun _ _ _ h => h) (Or.inl ⟨by rfl, ?_⟩) ?_ ?_
  rotate_left
  · intro w'
    go_simp
    with_reducible rfl
  rotate_left
  · simp only [Act.put, List.setIfInBounds_toArray, List.set_cons_zero, List.set_cons_succ, i64_w, i32_w, IntKind.wrap_u32, IntKind.wrap_u8, IntKind.wrap_u16]
    rfl
  refine pure_ (i := 7) (N := some 85) (v := ?_) (a' := ?_) #[true, true, true, true, false, true, true, true, false, false, false, false, false] rfl rfl (by kernel_rfl) (fun _ _ _ h => h) (Or.inl ⟨by rfl, ?_⟩) ?_ ?_
  rotate_left
  · intro w'
    go_simp
    with_reducible rfl
  rotate_left
  · simp only [Act.put, List.setIfInBounds_toArray, List.set_cons_zero, List.set_cons_succ, i64_w, i32_w, IntKind.wrap_u32, IntKind.wrap_u8, IntKind.wrap_u16]
    rfl
  refine pure_ (i := 8) (N := some 86) (v := ?_) (a' := ?_) #[true, true, true, true, false, true, true, true, true, false, false, false, false] rfl rfl (by kernel_rfl) (fun _ _ _ h => h) (Or.inl ⟨by rfl, ?_⟩) ?_ ?_
  rotate_left
  · intro w'
    go_simp
    with_reducible rfl
  rotate_left
  · simp only [Act.put, List.setIfInBounds_toArray, List.set_cons_zero, List.set_cons_succ, i64_w, i32_w, IntKind.wrap_u32, IntKind.wrap_u8, IntKind.wrap_u16]
    rfl
  refine take_ (i := 4) (N := some 82) (v := ?_) (a' := ?_) #[true, true, true, true, true, true, true, true, true, false, false, false, false] rfl rfl (by kernel_rfl) (fun _ _ _ h => h) (Or.inl ⟨by rfl, ?_⟩) hHeld ?_ ?_
  rotate_left
  · rintro w' ⟨s0, s1⟩
    go_simp
    with_reducible rfl
  rotate_left
  · simp only [Act.put, List.setIfInBounds_toArray, List.set_cons_zero, List.set_cons_succ, i64_w, i32_w, IntKind.wrap_u32, IntKind.wrap_u8, IntKind.wrap_u16]
    rfl
  refine pure_ (i := 10) (N := some 8) (v := ?_) (a' := ?_) #[true, true, true, true, true, true, true, true, true, false, true, false, false] rfl rfl (by kernel_rfl) (fun _ _ _ h => h) (Or.inl ⟨by rfl, ?_⟩) ?_ ?_
  rotate_left
  · intro w'
    go_simp
    with_reducible rfl
  rotate_left
  · simp only [Act.put, List.setIfInBounds_toArray, List.set_cons_zero, List.set_cons_succ, i64_w, i32_w, IntKind.wrap_u32, IntKind.wrap_u8, IntKind.wrap_u16]
    rfl
  refine take_ (i := 9) (N := some 87) (v := ?_) (a' := ?_) #[true, true, true, true, true, true, true, true, true, true, true, false, false] rfl rfl (by kernel_rfl) (fun _ _ _ h => h) (Or.inl ⟨by rfl, ?_⟩) hHeld ?_ ?_
  rotate_left
  · rintro w' ⟨s0, s1⟩
    go_simp
    with_reducible rfl
  rotate_left
  · simp only [Act.put, List.setIfInBounds_toArray, List.set_cons_zero, List.set_cons_succ, i64_w, i32_w, IntKind.wrap_u32, IntKind.wrap_u8, IntKind.wrap_u16]
    rfl
  refine pure_ (i := 11) (N := some 9) (v := ?_) (a' := ?_) #[true, true, true, true, true, true, true, true, true, true, true, true, false] rfl rfl (by kernel_rfl) (fun _ _ _ h => h) (Or.inl ⟨by rfl, ?_⟩) ?_ ?_
  rotate_left
  · intro w'
    go_simp
    with_reducible rfl
  rotate_left
  · simp only [Act.put, List.setIfInBounds_toArray, List.set_cons_zero, List.set_cons_succ, i64_w, i32_w, IntKind.wrap_u32, IntKind.wrap_u8, IntKind.wrap_u16]
    rfl
  refine pure_ (i := 12) (N := some 10) (v := ?_) (a' := ?_) #[true, true, true, true, true, true, true, true, true, true, true, true, true] rfl rfl (by kernel_rfl) (fun _ _ _ h => h) (Or.inl ⟨by rfl, ?_⟩) ?_ ?_
  rotate_left
  · intro w'
    go_simp
    with_reducible rfl
  rotate_left
  · simp only [Act.put, List.setIfInBounds_toArray, List.set_cons_zero, List.set_cons_succ, i64_w, i32_w, IntKind.wrap_u32, IntKind.wrap_u8, IntKind.wrap_u16]
    rfl
  refine done_ (by kernel_rfl) ?_
  go_wp2_with (fail)
  go_ret3
  exact ⟨rfl, win_close { s with sx := A, sy := B } (sl_take (sl_drew HS3.out) 3)⟩
theorem rsk_10 (g : Nat) (s : WSt) (k x y V H A B : Int) (hV : Go.bits .and .i64 k 3 = V) (hH : Go.bits .and .i64 k 12 = H) (hVH : Go.bits .or .i64 V H = k) (h3 : (V == 3) = false) (h12 : (H == 12) = false) (q1 : decide (k < 1) = false) (q2 : decide (12 < k) = false) (hx : (H == 0) = false) (hx' : (H != 0) = true) (hy : (V == 0) = true) (hy' : (V != 0) = false) (hb : s.b.c = true ∧ s.b.a = false ∧ s.b.b = false) (hv : valB 1 x y = true) (hA : limI s.lx s.mx x = A) (hB : limI s.ly s.my s.gy = B) (hs : SL w0 w [winR g s, R]) : Calls Try.prog 10 #[.pointer (some ⟨g, 0, none⟩), .int .i64 k, .int .i64 x, .int .i64 y] w fun e w' => e = .returned (.tuple #[.int .i64 A, .int .i64 B, .int .i64 0]) ∧ SL w0 w' [winR g { s with sx := A, sy := B }, R] := by
  obtain ⟨m, hs⟩ := win_open hs
  have HS := Aside0.mk hs
  clear hs
  have HV := Aside0.mk hv
  clear hv
  obtain ⟨M, hM⟩ : ∃ M, mskI s.b = M := ⟨_, rfl⟩
  have a4 := and4 s.b
  have a3 := and3 s.b
  rw [hM] at a4 a3
  have HM := Aside0.mk hM
  clear hM
  obtain ⟨X4, h4⟩ : ∃ X, Go.bits .and .i64 M 4 = X := ⟨_, rfl⟩
  obtain ⟨X3, h33⟩ : ∃ X, Go.bits .and .i64 M 3 = X := ⟨_, rfl⟩
  rw [h4] at a4
  rw [h33] at a3
  replace a4 : (X4 == 0) = false := by rw [a4, hb.1]; rfl
  replace a3 : (X3 == 0) = true := by rw [a3, hb.2.1, hb.2.2]; rfl
  have a3' : (X3 != 0) = false := by unfold bne; rw [a3]; rfl
  clear hb
  have HA := Aside0.mk (And.intro hA hB)
  clear hA hB
  go_enter Try.func10, Try.ntmps10
  go_wp2_with (first
    | (go_at_call 25; refine (usable_c (by repeat (with_reducible first | exact HS.out | apply sl_drewN | apply sl_drew | apply sl_box | apply sl_alloc)) 0 (by rfl)).mono ?_; rintro e w1 ⟨rfl, hs⟩; (try simp only [World.size_alloc] at hs); replace HS := Aside0.mk hs; clear hs; (try clear hm6 hm7); have hm6 := c_at HS.out 0 rfl 6 rfl; have hm7 := c_at HS.out 0 rfl 7 rfl)
    | (go_at_call 26; refine (mask_m g m s HM.out (by repeat (with_reducible first | exact HS.out | apply sl_drewN | apply sl_drew | apply sl_box | apply sl_alloc))).mono ?_; rintro e w1 ⟨rfl, hs⟩; (try simp only [World.size_alloc] at hs); replace HS := Aside0.mk hs; clear hs; (try clear hm6 hm7); have hm6 := c_at HS.out 0 rfl 6 rfl; have hm7 := c_at HS.out 0 rfl 7 rfl)
    | (go_at_call 27; refine (valid_c (by repeat (with_reducible first | exact HS.out | apply sl_drewN | apply sl_drew | apply sl_box | apply sl_alloc)) 1 x y HV.out (lit2 _ x y)).mono ?_; rintro e w1 ⟨rfl, hs⟩; (try simp only [World.size_alloc] at hs); replace HS := Aside0.mk hs; clear hs; (try clear hm6 hm7); have hm6 := c_at HS.out 0 rfl 6 rfl; have hm7 := c_at HS.out 0 rfl 7 rfl; have hlt := blk_lt (sl_blk HS.out 0 rfl))
    | (go_at_call 28; refine (limited_m g m s (x) (s.gy) HA.out (sl_take (sl_box HS.out #[.int .i64 (x), .int .i64 (s.gy)] 23) 3)).mono ?_; rintro e w1 ⟨rfl, hs⟩; replace HS := Aside0.mk hs; clear hs; (try clear hm6 hm7); have q0 := c_at HS.out 0 rfl 10 rfl; have q1 := c_at HS.out 0 rfl 11 rfl; have f0 := f_at HS.out 0 rfl 10; have f1 := f_at HS.out 0 rfl 11; have hl1 := blk_lt (sl_blk HS.out 0 rfl)))
  have HS3 := Aside0.mk (sl_put (sl_put HS.out 0 rfl 10 (.int .i64 A)) 0 rfl 11 (.int .i64 B))
  refine start_ (n := 13) (S := fun w' => w'.cell? ⟨g, 10, none⟩ = some (.int .i64 A) ∧ w'.cell? ⟨g, 11, none⟩ = some (.int .i64 B)) (ds := []) #[false, false, false, false, false, false, false, false, false, false, false, false, false] (by kernel_rfl) rfl rfl ⟨(c_at (sl_drew HS3.out) 0 rfl 10 rfl), (c_at (sl_drew HS3.out) 0 rfl 11 rfl)⟩ (fun hHeld => ?_)
  refine pure_ (i := 0) (N := some 78) (v := ?_) (a' := ?_) #[true, false, false, false, false, false, false, false, false, false, false, false, false] rfl rfl (by kernel_rfl) (fun _ _ _ h => h) (Or.inl ⟨by rfl, ?_⟩) ?_ ?_
  rotate_left
  · intro w'
    go_simp
    with_reducible rfl
  rotate_left
  · simp only [Act.put, List.setIfInBounds_toArray, List.set_cons_zero, List.set_cons_succ, i64_w, i32_w, IntKind.wrap_u32, IntKind.wrap_u8, IntKind.wrap_u16]
    rfl
  refine pure_ (i := 1) (N := some 79) (v := ?_) (a' := ?_) #[true, true, false, false, false, false, false, false, false, false, false, false, false] rfl rfl (by kernel_rfl) (fun _ _ _ h => h) (Or.inl ⟨by rfl, ?_⟩) ?_ ?_
  rotate_left
  · intro w'
    go_simp
    with_reducible rfl
  rotate_left
  · simp only [Act.put, List.setIfInBounds_toArray, List.set_cons_zero, List.set_cons_succ, i64_w, i32_w, IntKind.wrap_u32, IntKind.wrap_u8, IntKind.wrap_u16]
    rfl
  refine pure_ (i := 2) (N := some 80) (v := ?_) (a' := ?_) #[true, true, true, false, false, false, false, false, false, false, false, false, false] rfl rfl (by kernel_rfl) (fun _ _ _ h => h) (Or.inl ⟨by rfl, ?_⟩) ?_ ?_
  rotate_left
  · intro w'
    go_simp
    with_reducible rfl
  rotate_left
  · simp only [Act.put, List.setIfInBounds_toArray, List.set_cons_zero, List.set_cons_succ, i64_w, i32_w, IntKind.wrap_u32, IntKind.wrap_u8, IntKind.wrap_u16]
    rfl
  refine pure_ (i := 3) (N := some 81) (v := ?_) (a' := ?_) #[true, true, true, true, false, false, false, false, false, false, false, false, false] rfl rfl (by kernel_rfl) (fun _ _ _ h => h) (Or.inl ⟨by rfl, ?_⟩) ?_ ?_
  rotate_left
  · intro w'
    go_simp
    with_reducible rfl
  rotate_left
  · simp only [Act.put, List.setIfInBounds_toArray, List.set_cons_zero, List.set_cons_succ, i64_w, i32_w, IntKind.wrap_u32, IntKind.wrap_u8, IntKind.wrap_u16]
    rfl
  refine pure_ (i := 5) (N := some 83) (v := ?_) (a' := ?_) #[true, true, true, true, false, true, false, false, false, false, false, false, false] rfl rfl (by kernel_rfl) (fun _ _ _ h => h) (Or.inl ⟨by rfl, ?_⟩) ?_ ?_
  rotate_left
  · intro w'
    go_simp
    with_reducible rfl
  rotate_left
  · simp only [Act.put, List.setIfInBounds_toArray, List.set_cons_zero, List.set_cons_succ, i64_w, i32_w, IntKind.wrap_u32, IntKind.wrap_u8, IntKind.wrap_u16]
    rfl
  refine pure_ (i := 6) (N := some 84) (v := ?_) (a' := ?_) #[true, true, true, true, false, true, true, false, false, false, false, false, false] rfl rfl (by kernel_rfl) (fun _ _ _ h => h) (Or.inl ⟨by rfl, ?_⟩) ?_ ?_
  rotate_left
  · intro w'
    go_simp
    with_reducible rfl
  rotate_left
  · simp only [Act.put, List.setIfInBounds_toArray, List.set_cons_zero, List.set_cons_succ, i64_w, i32_w, IntKind.wrap_u32, IntKind.wrap_u8, IntKind.wrap_u16]
    rfl
  refine pure_ (i := 7) (N := some 85) (v := ?_) (a' := ?_) #[true, true, true, true, false, true, true, true, false, false, false, false, false] rfl rfl (by kernel_rfl) (fun _ _ _ h => h) (Or.inl ⟨by rfl, ?_⟩) ?_ ?_
  rotate_left
  · intro w'
    go_simp
    with_reducible rfl
  rotate_left
  · simp only [Act.put, List.setIfInBounds_toArray, List.set_cons_zero, List.set_cons_succ, i64_w, i32_w, IntKind.wrap_u32, IntKind.wrap_u8, IntKind.wrap_u16]
    rfl
  refine pure_ (i := 8) (N := some 86) (v := ?_) (a' := ?_) #[true, true, true, true, false, true, true, true, true, false, false, false, false] rfl rfl (by kernel_rfl) (fun _ _ _ h => h) (Or.inl ⟨by rfl, ?_⟩) ?_ ?_
  rotate_left
  · intro w'
    go_simp
    with_reducible rfl
  rotate_left
  · simp only [Act.put, List.setIfInBounds_toArray, List.set_cons_zero, List.set_cons_succ, i64_w, i32_w, IntKind.wrap_u32, IntKind.wrap_u8, IntKind.wrap_u16]
    rfl
  refine take_ (i := 4) (N := some 82) (v := ?_) (a' := ?_) #[true, true, true, true, true, true, true, true, true, false, false, false, false] rfl rfl (by kernel_rfl) (fun _ _ _ h => h) (Or.inl ⟨by rfl, ?_⟩) hHeld ?_ ?_
  rotate_left
  · rintro w' ⟨s0, s1⟩
    go_simp
    with_reducible rfl
  rotate_left
  · simp only [Act.put, List.setIfInBounds_toArray, List.set_cons_zero, List.set_cons_succ, i64_w, i32_w, IntKind.wrap_u32, IntKind.wrap_u8, IntKind.wrap_u16]
    rfl
  refine pure_ (i := 10) (N := some 8) (v := ?_) (a' := ?_) #[true, true, true, true, true, true, true, true, true, false, true, false, false] rfl rfl (by kernel_rfl) (fun _ _ _ h => h) (Or.inl ⟨by rfl, ?_⟩) ?_ ?_
  rotate_left
  · intro w'
    go_simp
    with_reducible rfl
  rotate_left
  · simp only [Act.put, List.setIfInBounds_toArray, List.set_cons_zero, List.set_cons_succ, i64_w, i32_w, IntKind.wrap_u32, IntKind.wrap_u8, IntKind.wrap_u16]
    rfl
  refine take_ (i := 9) (N := some 87) (v := ?_) (a' := ?_) #[true, true, true, true, true, true, true, true, true, true, true, false, false] rfl rfl (by kernel_rfl) (fun _ _ _ h => h) (Or.inl ⟨by rfl, ?_⟩) hHeld ?_ ?_
  rotate_left
  · rintro w' ⟨s0, s1⟩
    go_simp
    with_reducible rfl
  rotate_left
  · simp only [Act.put, List.setIfInBounds_toArray, List.set_cons_zero, List.set_cons_succ, i64_w, i32_w, IntKind.wrap_u32, IntKind.wrap_u8, IntKind.wrap_u16]
    rfl
  refine pure_ (i := 11) (N := some 9) (v := ?_) (a' := ?_) #[true, true, true, true, true, true, true, true, true, true, true, true, false] rfl rfl (by kernel_rfl) (fun _ _ _ h => h) (Or.inl ⟨by rfl, ?_⟩) ?_ ?_
  rotate_left
  · intro w'
    go_simp
    with_reducible rfl
  rotate_left
  · simp only [Act.put, List.setIfInBounds_toArray, List.set_cons_zero, List.set_cons_succ, i64_w, i32_w, IntKind.wrap_u32, IntKind.wrap_u8, IntKind.wrap_u16]
    rfl
  refine pure_ (i := 12) (N := some 10) (v := ?_) (a' := ?_) #[true, true, true, true, true, true, true, true, true, true, true, true, true] rfl rfl (by kernel_rfl) (fun _ _ _ h => h) (Or.inl ⟨by rfl, ?_⟩) ?_ ?_
  rotate_left
  · intro w'
    go_simp
    with_reducible rfl
  rotate_left
  · simp only [Act.put, List.setIfInBounds_toArray, List.set_cons_zero, List.set_cons_succ, i64_w, i32_w, IntKind.wrap_u32, IntKind.wrap_u8, IntKind.wrap_u16]
    rfl
  refine done_ (by kernel_rfl) ?_
  go_wp2_with (fail)
  go_ret3
  exact ⟨rfl, win_close { s with sx := A, sy := B } (sl_take (sl_drew HS3.out) 3)⟩
theorem rsk_11 (g : Nat) (s : WSt) (k x y V H A B : Int) (hV : Go.bits .and .i64 k 3 = V) (hH : Go.bits .and .i64 k 12 = H) (hVH : Go.bits .or .i64 V H = k) (h3 : (V == 3) = false) (h12 : (H == 12) = false) (q1 : decide (k < 1) = false) (q2 : decide (12 < k) = false) (hx : (H == 0) = false) (hx' : (H != 0) = true) (hy : (V == 0) = false) (hy' : (V != 0) = true) (hb : s.b.c = true ∧ s.b.a = false ∧ s.b.b = false) (hv : valB 1 x y = true) (hA : limI s.lx s.mx x = A) (hB : limI s.ly s.my y = B) (hs : SL w0 w [winR g s, R]) : Calls Try.prog 10 #[.pointer (some ⟨g, 0, none⟩), .int .i64 k, .int .i64 x, .int .i64 y] w fun e w' => e = .returned (.tuple #[.int .i64 A, .int .i64 B, .int .i64 0]) ∧ SL w0 w' [winR g { s with sx := A, sy := B }, R] := by
  obtain ⟨m, hs⟩ := win_open hs
  have HS := Aside0.mk hs
  clear hs
  have HV := Aside0.mk hv
  clear hv
  obtain ⟨M, hM⟩ : ∃ M, mskI s.b = M := ⟨_, rfl⟩
  have a4 := and4 s.b
  have a3 := and3 s.b
  rw [hM] at a4 a3
  have HM := Aside0.mk hM
  clear hM
  obtain ⟨X4, h4⟩ : ∃ X, Go.bits .and .i64 M 4 = X := ⟨_, rfl⟩
  obtain ⟨X3, h33⟩ : ∃ X, Go.bits .and .i64 M 3 = X := ⟨_, rfl⟩
  rw [h4] at a4
  rw [h33] at a3
  replace a4 : (X4 == 0) = false := by rw [a4, hb.1]; rfl
  replace a3 : (X3 == 0) = true := by rw [a3, hb.2.1, hb.2.2]; rfl
  have a3' : (X3 != 0) = false := by unfold bne; rw [a3]; rfl
  clear hb
  have HA := Aside0.mk (And.intro hA hB)
  clear hA hB
  go_enter Try.func10, Try.ntmps10
  go_wp2_with (first
    | (go_at_call 25; refine (usable_c (by repeat (with_reducible first | exact HS.out | apply sl_drewN | apply sl_drew | apply sl_box | apply sl_alloc)) 0 (by rfl)).mono ?_; rintro e w1 ⟨rfl, hs⟩; (try simp only [World.size_alloc] at hs); replace HS := Aside0.mk hs; clear hs; (try clear hm6 hm7); have hm6 := c_at HS.out 0 rfl 6 rfl; have hm7 := c_at HS.out 0 rfl 7 rfl)
    | (go_at_call 26; refine (mask_m g m s HM.out (by repeat (with_reducible first | exact HS.out | apply sl_drewN | apply sl_drew | apply sl_box | apply sl_alloc))).mono ?_; rintro e w1 ⟨rfl, hs⟩; (try simp only [World.size_alloc] at hs); replace HS := Aside0.mk hs; clear hs; (try clear hm6 hm7); have hm6 := c_at HS.out 0 rfl 6 rfl; have hm7 := c_at HS.out 0 rfl 7 rfl)
    | (go_at_call 27; refine (valid_c (by repeat (with_reducible first | exact HS.out | apply sl_drewN | apply sl_drew | apply sl_box | apply sl_alloc)) 1 x y HV.out (lit2 _ x y)).mono ?_; rintro e w1 ⟨rfl, hs⟩; (try simp only [World.size_alloc] at hs); replace HS := Aside0.mk hs; clear hs; (try clear hm6 hm7); have hm6 := c_at HS.out 0 rfl 6 rfl; have hm7 := c_at HS.out 0 rfl 7 rfl; have hlt := blk_lt (sl_blk HS.out 0 rfl))
    | (go_at_call 28; refine (limited_m g m s (x) (y) HA.out (sl_take (sl_box HS.out #[.int .i64 (x), .int .i64 (y)] 23) 3)).mono ?_; rintro e w1 ⟨rfl, hs⟩; replace HS := Aside0.mk hs; clear hs; (try clear hm6 hm7); have q0 := c_at HS.out 0 rfl 10 rfl; have q1 := c_at HS.out 0 rfl 11 rfl; have f0 := f_at HS.out 0 rfl 10; have f1 := f_at HS.out 0 rfl 11; have hl1 := blk_lt (sl_blk HS.out 0 rfl)))
  have HS3 := Aside0.mk (sl_put (sl_put HS.out 0 rfl 10 (.int .i64 A)) 0 rfl 11 (.int .i64 B))
  refine start_ (n := 13) (S := fun w' => w'.cell? ⟨g, 10, none⟩ = some (.int .i64 A) ∧ w'.cell? ⟨g, 11, none⟩ = some (.int .i64 B)) (ds := []) #[false, false, false, false, false, false, false, false, false, false, false, false, false] (by kernel_rfl) rfl rfl ⟨(c_at (sl_drew HS3.out) 0 rfl 10 rfl), (c_at (sl_drew HS3.out) 0 rfl 11 rfl)⟩ (fun hHeld => ?_)
  refine pure_ (i := 0) (N := some 78) (v := ?_) (a' := ?_) #[true, false, false, false, false, false, false, false, false, false, false, false, false] rfl rfl (by kernel_rfl) (fun _ _ _ h => h) (Or.inl ⟨by rfl, ?_⟩) ?_ ?_
  rotate_left
  · intro w'
    go_simp
    with_reducible rfl
  rotate_left
  · simp only [Act.put, List.setIfInBounds_toArray, List.set_cons_zero, List.set_cons_succ, i64_w, i32_w, IntKind.wrap_u32, IntKind.wrap_u8, IntKind.wrap_u16]
    rfl
  refine pure_ (i := 1) (N := some 79) (v := ?_) (a' := ?_) #[true, true, false, false, false, false, false, false, false, false, false, false, false] rfl rfl (by kernel_rfl) (fun _ _ _ h => h) (Or.inl ⟨by rfl, ?_⟩) ?_ ?_
  rotate_left
  · intro w'
    go_simp
    with_reducible rfl
  rotate_left
  · simp only [Act.put, List.setIfInBounds_toArray, List.set_cons_zero, List.set_cons_succ, i64_w, i32_w, IntKind.wrap_u32, IntKind.wrap_u8, IntKind.wrap_u16]
    rfl
  refine pure_ (i := 2) (N := some 80) (v := ?_) (a' := ?_) #[true, true, true, false, false, false, false, false, false, false, false, false, false] rfl rfl (by kernel_rfl) (fun _ _ _ h => h) (Or.inl ⟨by rfl, ?_⟩) ?_ ?_
  rotate_left
  · intro w'
    go_simp
    with_reducible rfl
  rotate_left
  · simp only [Act.put, List.setIfInBounds_toArray, List.set_cons_zero, List.set_cons_succ, i64_w, i32_w, IntKind.wrap_u32, IntKind.wrap_u8, IntKind.wrap_u16]
    rfl
  refine pure_ (i := 3) (N := some 81) (v := ?_) (a' := ?_) #[true, true, true, true, false, false, false, false, false, false, false, false, false] rfl rfl (by kernel_rfl) (fun _ _ _ h => h) (Or.inl ⟨by rfl, ?_⟩) ?_ ?_
  rotate_left
  · intro w'
    go_simp
    with_reducible rfl
  rotate_left
  · simp only [Act.put, List.setIfInBounds_toArray, List.set_cons_zero, List.set_cons_succ, i64_w, i32_w, IntKind.wrap_u32, IntKind.wrap_u8, IntKind.wrap_u16]
    rfl
  refine pure_ (i := 5) (N := some 83) (v := ?_) (a' := ?_) #[true, true, true, true, false, true, false, false, false, false, false, false, false] rfl rfl (by kernel_rfl) (fun _ _ _ h => h) (Or.inl ⟨by rfl, ?_⟩) ?_ ?_
  rotate_left
  · intro w'
    go_simp
    with_reducible rfl
  rotate_left
  · simp only [Act.put, List.setIfInBounds_toArray, List.set_cons_zero, List.set_cons_succ, i64_w, i32_w, IntKind.wrap_u32, IntKind.wrap_u8, IntKind.wrap_u16]
    rfl
  refine pure_ (i := 6) (N := some 84) (v := ?_) (a' := ?_) #[true, true, true, true, false, true, true, false, false, false, false, false, false] rfl rfl (by kernel_rfl) (fun _ _ _ h => h) (Or.inl ⟨by rfl, ?_⟩) ?_ ?_
  rotate_left
  · intro w'
    go_simp
    with_reducible rfl
  rotate_left
  · simp only [Act.put, List.setIfInBounds_toArray, List.set_cons_zero, List.set_cons_succ, i64_w, i32_w, IntKind.wrap_u32, IntKind.wrap_u8, IntKind.wrap_u16]
    rfl
  refine pure_ (i := 7) (N := some 85) (v := ?_) (a' := ?_) #[true, true, true, true, false, true, true, true, false, false, false, false, false] rfl rfl (by kernel_rfl) (fun _ _ _ h => h) (Or.inl ⟨by rfl, ?_⟩) ?_ ?_
  rotate_left
  · intro w'
    go_simp
    with_reducible rfl
  rotate_left
  · simp only [Act.put, List.setIfInBounds_toArray, List.set_cons_zero, List.set_cons_succ, i64_w, i32_w, IntKind.wrap_u32, IntKind.wrap_u8, IntKind.wrap_u16]
    rfl
  refine pure_ (i := 8) (N := some 86) (v := ?_) (a' := ?_) #[true, true, true, true, false, true, true, true, true, false, false, false, false] rfl rfl (by kernel_rfl) (fun _ _ _ h => h) (Or.inl ⟨by rfl, ?_⟩) ?_ ?_
  rotate_left
  · intro w'
    go_simp
    with_reducible rfl
  rotate_left
  · simp only [Act.put, List.setIfInBounds_toArray, List.set_cons_zero, List.set_cons_succ, i64_w, i32_w, IntKind.wrap_u32, IntKind.wrap_u8, IntKind.wrap_u16]
    rfl
  refine take_ (i := 4) (N := some 82) (v := ?_) (a' := ?_) #[true, true, true, true, true, true, true, true, true, false, false, false, false] rfl rfl (by kernel_rfl) (fun _ _ _ h => h) (Or.inl ⟨by rfl, ?_⟩) hHeld ?_ ?_
  rotate_left
  · rintro w' ⟨s0, s1⟩
    go_simp
    with_reducible rfl
  rotate_left
  · simp only [Act.put, List.setIfInBounds_toArray, List.set_cons_zero, List.set_cons_succ, i64_w, i32_w, IntKind.wrap_u32, IntKind.wrap_u8, IntKind.wrap_u16]
    rfl
  refine pure_ (i := 10) (N := some 8) (v := ?_) (a' := ?_) #[true, true, true, true, true, true, true, true, true, false, true, false, false] rfl rfl (by kernel_rfl) (fun _ _ _ h => h) (Or.inl ⟨by rfl, ?_⟩) ?_ ?_
  rotate_left
  · intro w'
    go_simp
    with_reducible rfl
  rotate_left
  · simp only [Act.put, List.setIfInBounds_toArray, List.set_cons_zero, List.set_cons_succ, i64_w, i32_w, IntKind.wrap_u32, IntKind.wrap_u8, IntKind.wrap_u16]
    rfl
  refine take_ (i := 9) (N := some 87) (v := ?_) (a' := ?_) #[true, true, true, true, true, true, true, true, true, true, true, false, false] rfl rfl (by kernel_rfl) (fun _ _ _ h => h) (Or.inl ⟨by rfl, ?_⟩) hHeld ?_ ?_
  rotate_left
  · rintro w' ⟨s0, s1⟩
    go_simp
    with_reducible rfl
  rotate_left
  · simp only [Act.put, List.setIfInBounds_toArray, List.set_cons_zero, List.set_cons_succ, i64_w, i32_w, IntKind.wrap_u32, IntKind.wrap_u8, IntKind.wrap_u16]
    rfl
  refine pure_ (i := 11) (N := some 9) (v := ?_) (a' := ?_) #[true, true, true, true, true, true, true, true, true, true, true, true, false] rfl rfl (by kernel_rfl) (fun _ _ _ h => h) (Or.inl ⟨by rfl, ?_⟩) ?_ ?_
  rotate_left
  · intro w'
    go_simp
    with_reducible rfl
  rotate_left
  · simp only [Act.put, List.setIfInBounds_toArray, List.set_cons_zero, List.set_cons_succ, i64_w, i32_w, IntKind.wrap_u32, IntKind.wrap_u8, IntKind.wrap_u16]
    rfl
  refine pure_ (i := 12) (N := some 10) (v := ?_) (a' := ?_) #[true, true, true, true, true, true, true, true, true, true, true, true, true] rfl rfl (by kernel_rfl) (fun _ _ _ h => h) (Or.inl ⟨by rfl, ?_⟩) ?_ ?_
  rotate_left
  · intro w'
    go_simp
    with_reducible rfl
  rotate_left
  · simp only [Act.put, List.setIfInBounds_toArray, List.set_cons_zero, List.set_cons_succ, i64_w, i32_w, IntKind.wrap_u32, IntKind.wrap_u8, IntKind.wrap_u16]
    rfl
  refine done_ (by kernel_rfl) ?_
  go_wp2_with (fail)
  go_ret3
  exact ⟨rfl, win_close { s with sx := A, sy := B } (sl_take (sl_drew HS3.out) 3)⟩
theorem rsz_rng (g : Nat) (s : WSt) (k x y V H : Int) (hV : Go.bits .and .i64 k 3 = V) (hH : Go.bits .and .i64 k 12 = H) (hVH : Go.bits .or .i64 V H = k) (h3 : (V == 3) = false) (h12 : (H == 12) = false) (q1 : decide (k < 1) = false) (q2 : decide (12 < k) = false) (hb : s.b.c = true ∧ s.b.a = false ∧ s.b.b = false) (hv : valB 1 x y = false) (hs : SL w0 w [winR g s, R]) : Calls Try.prog 10 #[.pointer (some ⟨g, 0, none⟩), .int .i64 k, .int .i64 x, .int .i64 y] w fun e w' => e = .returned (.tuple #[.int .i64 0, .int .i64 0, .int .i64 6]) ∧ SL w0 w' [winR g s, R] := by
  obtain ⟨m, hs⟩ := win_open hs
  have HS := Aside0.mk hs
  clear hs
  have HV := Aside0.mk hv
  clear hv
  obtain ⟨M, hM⟩ : ∃ M, mskI s.b = M := ⟨_, rfl⟩
  have a4 := and4 s.b
  have a3 := and3 s.b
  rw [hM] at a4 a3
  have HM := Aside0.mk hM
  clear hM
  obtain ⟨X4, h4⟩ : ∃ X, Go.bits .and .i64 M 4 = X := ⟨_, rfl⟩
  obtain ⟨X3, h33⟩ : ∃ X, Go.bits .and .i64 M 3 = X := ⟨_, rfl⟩
  rw [h4] at a4
  rw [h33] at a3
  replace a4 : (X4 == 0) = false := by rw [a4, hb.1]; rfl
  replace a3 : (X3 == 0) = true := by rw [a3, hb.2.1, hb.2.2]; rfl
  have a3' : (X3 != 0) = false := by unfold bne; rw [a3]; rfl
  clear hb
  go_enter Try.func10, Try.ntmps10
  go_wp2_with (first
    | (go_at_call 25; refine (usable_c (by repeat (with_reducible first | exact HS.out | apply sl_drewN | apply sl_drew | apply sl_box | apply sl_alloc)) 0 (by rfl)).mono ?_; rintro e w1 ⟨rfl, hs⟩; (try simp only [World.size_alloc] at hs); replace HS := Aside0.mk hs; clear hs; (try clear hm6 hm7); have hm6 := c_at HS.out 0 rfl 6 rfl; have hm7 := c_at HS.out 0 rfl 7 rfl)
    | (go_at_call 26; refine (mask_m g m s HM.out (by repeat (with_reducible first | exact HS.out | apply sl_drewN | apply sl_drew | apply sl_box | apply sl_alloc))).mono ?_; rintro e w1 ⟨rfl, hs⟩; (try simp only [World.size_alloc] at hs); replace HS := Aside0.mk hs; clear hs; (try clear hm6 hm7); have hm6 := c_at HS.out 0 rfl 6 rfl; have hm7 := c_at HS.out 0 rfl 7 rfl)
    | (go_at_call 27; refine (valid_c (by repeat (with_reducible first | exact HS.out | apply sl_drewN | apply sl_drew | apply sl_box | apply sl_alloc)) 1 x y HV.out (lit2 _ x y)).mono ?_; rintro e w1 ⟨rfl, hs⟩; (try simp only [World.size_alloc] at hs); replace HS := Aside0.mk hs; clear hs; (try clear hm6 hm7); have hm6 := c_at HS.out 0 rfl 6 rfl; have hm7 := c_at HS.out 0 rfl 7 rfl; have hlt := blk_lt (sl_blk HS.out 0 rfl))
    | (go_at_call 28; refine (limited_m g m s (s.gx) (y) HA.out (sl_take (sl_box HS.out #[.int .i64 (s.gx), .int .i64 (y)] 23) 3)).mono ?_; rintro e w1 ⟨rfl, hs⟩; replace HS := Aside0.mk hs; clear hs; (try clear hm6 hm7); have q0 := c_at HS.out 0 rfl 10 rfl; have q1 := c_at HS.out 0 rfl 11 rfl; have f0 := f_at HS.out 0 rfl 10; have f1 := f_at HS.out 0 rfl 11; have hl1 := blk_lt (sl_blk HS.out 0 rfl)))
  go_ret3
  exact ⟨rfl, win_close s (sl_take HS.out 3)⟩
end
section
variable {w0 w : World} {R : Res}
def rszA (s : WSt) (k x y : Int) : Int := if rszE s k x y = 0 then rszX s k x else 0
def rszB (s : WSt) (k x y : Int) : Int := if rszE s k x y = 0 then rszY s k y else 0
theorem rsz_any (g : Nat) (s : WSt) (k x y V H : Int) (hV : Go.bits .and .i64 k 3 = V) (hH : Go.bits .and .i64 k 12 = H) (hVH : Go.bits .or .i64 V H = k) (h3 : (V == 3) = false) (h12 : (H == 12) = false) (q1 : decide (k < 1) = false) (q2 : decide (12 < k) = false) (hx : (H == 0) = !edX k) (hy : (V == 0) = !edY k) (hk : edgeB k = true) (hne : (edX k || edY k) = true) (hs : SL w0 w [winR g s, R]) : Calls Try.prog 10 #[.pointer (some ⟨g, 0, none⟩), .int .i64 k, .int .i64 x, .int .i64 y] w fun e w' => e = .returned (.tuple #[.int .i64 (rszA s k x y), .int .i64 (rszB s k x y), .int .i64 (rszE s k x y)]) ∧ SL w0 w' [winR g (rszS s k x y), R] := by
  have hx' : (H != 0) = edX k := by unfold bne; rw [hx, Bool.not_not]
  have hy' : (V != 0) = edY k := by unfold bne; rw [hy, Bool.not_not]
  unfold rszA rszB rszS
  by_cases hb : s.b.c = true ∧ s.b.a = false ∧ s.b.b = false
  rotate_left
  · have hE : rszE s k x y = 14 := by unfold rszE; rw [if_pos hk, if_neg hb]
    rw [hE]
    exact rsz_no g s k x y V H hV hH hVH h3 h12 q1 q2 hb hs
  by_cases hv : valB 1 x y = true
  rotate_left
  · have hE : rszE s k x y = 6 := by unfold rszE; rw [if_pos hk, if_pos hb, if_neg hv]
    rw [hE]
    exact rsz_rng g s k x y V H hV hH hVH h3 h12 q1 q2 hb (Bool.eq_false_iff.2 hv) hs
  have hE : rszE s k x y = 0 := by unfold rszE; rw [if_pos hk, if_pos hb, if_pos hv]
  rw [hE, if_pos rfl, if_pos rfl, if_pos rfl]
  unfold rszX rszY
  cases h1 : edX k <;> cases h2 : edY k
  · rw [h1, h2] at hne
    cases hne
  all_goals rw [h1] at hx hx'; rw [h2] at hy hy'
  · exact rsk_01 g s k x y V H _ _ hV hH hVH h3 h12 q1 q2 hx hx' hy hy' hb hv rfl rfl hs
  · exact rsk_10 g s k x y V H _ _ hV hH hVH h3 h12 q1 q2 hx hx' hy hy' hb hv rfl rfl hs
  · exact rsk_11 g s k x y V H _ _ hV hH hVH h3 h12 q1 q2 hx hx' hy hy' hb hv rfl rfl hs
theorem Resize_in (g : Nat) (s : WSt) (k x y : Int) (hs : SL w0 w [winR g s, R]) : Calls Try.prog 10 #[.pointer (some ⟨g, 0, none⟩), .int .i64 k, .int .i64 x, .int .i64 y] w fun e w' => e = .returned (.tuple #[.int .i64 (rszA s k x y), .int .i64 (rszB s k x y), .int .i64 (rszE s k x y)]) ∧ SL w0 w' [winR g (rszS s k x y), R] := by
  by_cases hk : edgeB k = true
  · have hc : k = 1 ∨ k = 2 ∨ k = 4 ∨ k = 5 ∨ k = 6 ∨ k = 8 ∨ k = 9 ∨ k = 10 := by
      unfold edgeB at hk
      simp only [Bool.or_eq_true, beq_iff_eq] at hk
      omega
    rcases hc with rfl | rfl | rfl | rfl | rfl | rfl | rfl | rfl
    · exact rsz_any g s 1 x y 1 0 (by kernel_rfl) (by kernel_rfl) (by kernel_rfl) rfl rfl rfl rfl rfl rfl rfl rfl hs
    · exact rsz_any g s 2 x y 2 0 (by kernel_rfl) (by kernel_rfl) (by kernel_rfl) rfl rfl rfl rfl rfl rfl rfl rfl hs
    · exact rsz_any g s 4 x y 0 4 (by kernel_rfl) (by kernel_rfl) (by kernel_rfl) rfl rfl rfl rfl rfl rfl rfl rfl hs
    · exact rsz_any g s 5 x y 1 4 (by kernel_rfl) (by kernel_rfl) (by kernel_rfl) rfl rfl rfl rfl rfl rfl rfl rfl hs
    · exact rsz_any g s 6 x y 2 4 (by kernel_rfl) (by kernel_rfl) (by kernel_rfl) rfl rfl rfl rfl rfl rfl rfl rfl hs
    · exact rsz_any g s 8 x y 0 8 (by kernel_rfl) (by kernel_rfl) (by kernel_rfl) rfl rfl rfl rfl rfl rfl rfl rfl hs
    · exact rsz_any g s 9 x y 1 8 (by kernel_rfl) (by kernel_rfl) (by kernel_rfl) rfl rfl rfl rfl rfl rfl rfl rfl hs
    · exact rsz_any g s 10 x y 2 8 (by kernel_rfl) (by kernel_rfl) (by kernel_rfl) rfl rfl rfl rfl rfl rfl rfl rfl hs
  · have hk := Bool.eq_false_iff.2 hk
    have hE : rszE s k x y = 2 := by unfold rszE; rw [hk]; rfl
    unfold rszA rszB rszS
    rw [hE]
    exact rsz_bad g s k x y hk hs
end
end Go.Proofs.Ytckpgccbhaejgaa.Q
