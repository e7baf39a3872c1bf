import Derived.Test.YtlfediaeaaodpaaQu1
namespace Go.Proofs.Ytlfediaeaaodpaa.Q
open Go.RowKit Go.Proofs.YtlfediaeaaodpaaW.PrintWords Go.Proofs.YtlfediaeaaodpaaW.PrintLast Go.Proofs.YtlfediaeaaodpaaW.PrintMore Go.Proofs.Ytlfediaeaaodpaa.Sl Go.Proofs.Ytlfediaeaaodpaa.Hand 
attribute [local go_sem] max2_int min2_int max_two min_two max_three min_three max_four min_four 
set_option linter.unusedVariables false
set_option linter.unusedSimpArgs false

set_option maxHeartbeats 2000000 in
set_option maxRecDepth 100000 in
theorem adv_base (g : Nat) (b : BSt) (t : Int) (F : Nat → Prop) (w : World) (hP : (bucketR g b).P w F) (hF : ∀ k, F k → k < w.heap.size) (ho : Bok b) (h0 : -9223372036854775808 ≤ t) (h1 : t < 9223372036854775808) :
    Calls Try.prog 28 #[.pointer (some ⟨g, 0, none⟩), .int .i64 t] w fun e w' => e = .returned (.tuple #[]) ∧
      (∃ F' : Nat → Prop, (bucketR g (advB b t)).P w' F' ∧ ∀ k, F' k → (F k ∨ w.heap.size ≤ k) ∧ k < w'.heap.size) ∧ Chg F w w' := by
  obtain ⟨hg, hb⟩ := hP
  have HF := Aside0.mk hF
  have HG := Aside0.mk hg
  have HBk := Aside0.mk hb
  obtain ⟨ra, bu, le, st, nw⟩ := b
  obtain ⟨a1, a2, a3, a4, a5, a6, a7, a8⟩ := ho
  simp only at a1 a2 a3 a4 a5 a6 a7 a8
  have c0 := (blk_cell hb 0).trans (show _ = some (Value.int .i64 ra) from rfl)
  have c1 := (blk_cell hb 1).trans (show _ = some (Value.int .i64 bu) from rfl)
  have c2 := (blk_cell hb 2).trans (show _ = some (Value.int .i64 le) from rfl)
  have c3 := (blk_cell hb 3).trans (show _ = some (Value.bool st) from rfl)
  have c4 := (blk_cell hb 4).trans (show _ = some (Value.int .i64 nw) from rfl)
  have f2 := blk_frozen hb 2
  have f3 := blk_frozen hb 3
  have f4 := blk_frozen hb 4
  clear hb hg hF
  cases st
  · go_enter Try.func28, Try.ntmps28
    go_wp2
    refine bodyPost_ret (results_none rfl _ _ _) rfl ?_
    refine ⟨rfl, ⟨F, ⟨HG.out, ?_⟩, fun k hk => ⟨.inl hk, by simpa [World.setCell] using HF.out k hk⟩⟩, ((Chg.refl F w).setCell (.inl HG.out) _).setCell (.inl HG.out) _⟩
    exact blk_set (blk_set HBk.out 3 _) 4 _
  by_cases d1 : t ≤ nw
  · have b1 : decide (t ≤ nw) = true := decide_eq_true d1
    have E := Aside0.mk (show advB ⟨ra, bu, le, true, nw⟩ t = ⟨ra, bu, le, true, nw⟩ by unfold advB; simp [d1])
    clear d1
    go_enter Try.func28, Try.ntmps28
    go_wp2
    refine bodyPost_ret (results_none rfl _ _ _) rfl ?_
    rw [E.out]
    exact ⟨rfl, ⟨F, ⟨HG.out, HBk.out⟩, fun k hk => ⟨.inl hk, HF.out k hk⟩⟩, Chg.refl F w⟩
  have b1 : decide (t ≤ nw) = false := decide_eq_false d1
  have u1 : IntKind.u64.wrap (IntKind.u64.wrap t - IntKind.u64.wrap nw) = t - nw := u64_sub (by omega) a7 h1
  have E := Aside0.mk (show advB ⟨ra, bu, le, true, nw⟩ t = ⟨ra, bu, lvl ⟨ra, bu, le, true, nw⟩ t, true, t⟩ by unfold advB; simp [d1])
  by_cases d2 : 0 < ra
  · have b2 : decide (0 < ra) = true := decide_eq_true d2
    go_enter Try.func28, Try.ntmps28
    go_wp2
    go_quiet (fail)
    go_wp2
    · go_end0
      have hl : lvl ⟨ra, bu, le, true, nw⟩ t = bu * 1000 := by
        unfold lvl
        exact if_pos (need_le d2 (by assumption))
      rw [E.out, hl]
      refine ⟨rfl, ⟨F, ⟨HG.out, ?_⟩, fun k hk => ⟨.inl hk, by simpa [World.setCell] using HF.out k hk⟩⟩, ?_⟩
      · exact blk_set (blk_set HBk.out 2 _) 4 _
      · repeat (with_reducible first | exact Chg.refl F w | apply Chg.drewN | apply Chg.drew | refine Chg.setCell ?_ (.inl HG.out) _)
    · have hn := need_gt d2 (by assumption)
      have hp : 0 ≤ (t - nw) * ra := Int.mul_nonneg (by omega) a1
      have hl : lvl ⟨ra, bu, le, true, nw⟩ t = le + (t - nw) * ra := by
        unfold lvl
        exact if_neg (by show ¬ (bu * 1000 ≤ le + (t - nw) * ra); omega)
      refine start_ (n := 15) (S := fun w' => w'.cell? ⟨g, 2, none⟩ = some (.int .i64 le) ∧ w'.cell? ⟨g, 0, none⟩ = some (.int .i64 ra)) (ds := [14]) #[false, false, false, false, false, false, false, false, false, false, false, false, false, false, false] (by kernel_rfl) rfl rfl ⟨c2, c0⟩ (fun hHeld => ?_)
      refine pure_ (i := 0) (N := some 69) (v := ?_) (a' := ?_) #[true, false, false, false, false, false, false, false, false, false, false, false, false, false, false] rfl rfl (by kernel_rfl) (fun _ _ _ h => h) (Or.inl ⟨by rfl, ?_⟩) ?_ ?_
      rotate_left
      · intro w'
        go_simp
        with_reducible rfl
      rotate_left
      · simp only [Act.put, List.setIfInBounds_toArray, List.set_cons_zero, List.set_cons_succ, i64_w, i32_w, IntKind.wrap_u32, IntKind.wrap_u8, IntKind.wrap_u16]
        rfl
      refine pure_ (i := 1) (N := some 70) (v := ?_) (a' := ?_) #[true, true, false, false, false, false, false, false, false, false, false, false, false, false, false] rfl rfl (by kernel_rfl) (fun _ _ _ h => h) (Or.inl ⟨by rfl, ?_⟩) ?_ ?_
      rotate_left
      · intro w'
        go_simp
        with_reducible rfl
      rotate_left
      · simp only [Act.put, List.setIfInBounds_toArray, List.set_cons_zero, List.set_cons_succ, i64_w, i32_w, IntKind.wrap_u32, IntKind.wrap_u8, IntKind.wrap_u16]
        rfl
      refine pure_ (i := 2) (N := some 71) (v := ?_) (a' := ?_) #[true, true, true, false, false, false, false, false, false, false, false, false, false, false, false] rfl rfl (by kernel_rfl) (fun _ _ _ h => h) (Or.inl ⟨by rfl, ?_⟩) ?_ ?_
      rotate_left
      · intro w'
        go_simp
        with_reducible rfl
      rotate_left
      · simp only [Act.put, List.setIfInBounds_toArray, List.set_cons_zero, List.set_cons_succ, i64_w, i32_w, IntKind.wrap_u32, IntKind.wrap_u8, IntKind.wrap_u16]
        rfl
      refine pure_ (i := 4) (N := some 73) (v := ?_) (a' := ?_) #[true, true, true, false, true, false, false, false, false, false, false, false, false, false, false] rfl rfl (by kernel_rfl) (fun _ _ _ h => h) (Or.inl ⟨by rfl, ?_⟩) ?_ ?_
      rotate_left
      · intro w'
        go_simp
        with_reducible rfl
      rotate_left
      · simp only [Act.put, List.setIfInBounds_toArray, List.set_cons_zero, List.set_cons_succ, i64_w, i32_w, IntKind.wrap_u32, IntKind.wrap_u8, IntKind.wrap_u16]
        rfl
      refine pure_ (i := 5) (N := some 74) (v := ?_) (a' := ?_) #[true, true, true, false, true, true, false, false, false, false, false, false, false, false, false] rfl rfl (by kernel_rfl) (fun _ _ _ h => h) (Or.inl ⟨by rfl, ?_⟩) ?_ ?_
      rotate_left
      · intro w'
        go_simp
        with_reducible rfl
      rotate_left
      · simp only [Act.put, List.setIfInBounds_toArray, List.set_cons_zero, List.set_cons_succ, i64_w, i32_w, IntKind.wrap_u32, IntKind.wrap_u8, IntKind.wrap_u16]
        rfl
      refine pure_ (i := 6) (N := some 75) (v := ?_) (a' := ?_) #[true, true, true, false, true, true, true, false, false, false, false, false, false, false, false] rfl rfl (by kernel_rfl) (fun _ _ _ h => h) (Or.inl ⟨by rfl, ?_⟩) ?_ ?_
      rotate_left
      · intro w'
        go_simp
        with_reducible rfl
      rotate_left
      · simp only [Act.put, List.setIfInBounds_toArray, List.set_cons_zero, List.set_cons_succ, i64_w, i32_w, IntKind.wrap_u32, IntKind.wrap_u8, IntKind.wrap_u16]
        rfl
      refine pure_ (i := 7) (N := some 76) (v := ?_) (a' := ?_) #[true, true, true, false, true, true, true, true, false, false, false, false, false, false, false] rfl rfl (by kernel_rfl) (fun _ _ _ h => h) (Or.inl ⟨by rfl, ?_⟩) ?_ ?_
      rotate_left
      · intro w'
        go_simp
        with_reducible rfl
      rotate_left
      · simp only [Act.put, List.setIfInBounds_toArray, List.set_cons_zero, List.set_cons_succ, i64_w, i32_w, IntKind.wrap_u32, IntKind.wrap_u8, IntKind.wrap_u16]
        rfl
      refine pure_ (i := 8) (N := some 77) (v := ?_) (a' := ?_) #[true, true, true, false, true, true, true, true, true, false, false, false, false, false, false] rfl rfl (by kernel_rfl) (fun _ _ _ h => h) (Or.inl ⟨by rfl, ?_⟩) ?_ ?_
      rotate_left
      · intro w'
        go_simp
        with_reducible rfl
      rotate_left
      · simp only [Act.put, List.setIfInBounds_toArray, List.set_cons_zero, List.set_cons_succ, i64_w, i32_w, IntKind.wrap_u32, IntKind.wrap_u8, IntKind.wrap_u16]
        rfl
      refine take_ (i := 3) (N := some 72) (v := ?_) (a' := ?_) #[true, true, true, true, true, true, true, true, true, false, false, false, false, false, false] rfl rfl (by kernel_rfl) (fun _ _ _ h => h) (Or.inl ⟨by rfl, ?_⟩) hHeld ?_ ?_
      rotate_left
      · rintro w' ⟨s0, s1⟩
        go_simp
        with_reducible rfl
      rotate_left
      · simp only [Act.put, List.setIfInBounds_toArray, List.set_cons_zero, List.set_cons_succ, i64_w, i32_w, IntKind.wrap_u32, IntKind.wrap_u8, IntKind.wrap_u16]
        rfl
      refine take_ (i := 9) (N := some 78) (v := ?_) (a' := ?_) #[true, true, true, true, true, true, true, true, true, true, false, false, false, false, false] rfl rfl (by kernel_rfl) (fun _ _ _ h => h) (Or.inl ⟨by rfl, ?_⟩) hHeld ?_ ?_
      rotate_left
      · rintro w' ⟨s0, s1⟩
        go_simp
        with_reducible rfl
      rotate_left
      · simp only [Act.put, List.setIfInBounds_toArray, List.set_cons_zero, List.set_cons_succ, i64_w, i32_w, IntKind.wrap_u32, IntKind.wrap_u8, IntKind.wrap_u16]
        rfl
      refine pure_ (i := 10) (N := some 79) (v := ?_) (a' := ?_) #[true, true, true, true, true, true, true, true, true, true, true, false, false, false, false] rfl rfl (by kernel_rfl) (fun _ _ _ h => h) (Or.inl ⟨by rfl, ?_⟩) ?_ ?_
      rotate_left
      · intro w'
        go_simp
        with_reducible rfl
      rotate_left
      · simp only [Act.put, List.setIfInBounds_toArray, List.set_cons_zero, List.set_cons_succ, i64_w, i32_w, IntKind.wrap_u32, IntKind.wrap_u8, IntKind.wrap_u16]
        rfl
      refine pure_ (i := 11) (N := some 80) (v := ?_) (a' := ?_) #[true, true, true, true, true, true, true, true, true, true, true, true, false, false, false] rfl rfl (by kernel_rfl) (fun _ _ _ h => h) (Or.inl ⟨by rfl, ?_⟩) ?_ ?_
      rotate_left
      · intro w'
        go_simp
        with_reducible rfl
      rotate_left
      · simp only [Act.put, List.setIfInBounds_toArray, List.set_cons_zero, List.set_cons_succ, i64_w, i32_w, IntKind.wrap_u32, IntKind.wrap_u8, IntKind.wrap_u16]
        rfl
      refine pure_ (i := 12) (N := some 81) (v := ?_) (a' := ?_) #[true, true, true, true, true, true, true, true, true, true, true, true, true, false, false] rfl rfl (by kernel_rfl) (fun _ _ _ h => h) (Or.inl ⟨by rfl, ?_⟩) ?_ ?_
      rotate_left
      · intro w'
        go_simp
        with_reducible rfl
      rotate_left
      · simp only [Act.put, List.setIfInBounds_toArray, List.set_cons_zero, List.set_cons_succ, i64_w, i32_w, IntKind.wrap_u32, IntKind.wrap_u8, IntKind.wrap_u16]
        rfl
      refine pure_ (i := 13) (N := some 82) (v := ?_) (a' := ?_) #[true, true, true, true, true, true, true, true, true, true, true, true, true, true, false] rfl rfl (by kernel_rfl) (fun _ _ _ h => h) (Or.inl ⟨by rfl, ?_⟩) ?_ ?_
      rotate_left
      · intro w'
        go_simp
        with_reducible rfl
      rotate_left
      · simp only [Act.put, List.setIfInBounds_toArray, List.set_cons_zero, List.set_cons_succ, i64_w, i32_w, IntKind.wrap_u32, IntKind.wrap_u8, IntKind.wrap_u16]
        rfl
      refine last_ (i := 14) (N := none) #[true, true, true, true, true, true, true, true, true, true, true, true, true, true, true] rfl rfl (by kernel_rfl) (by decide) (fun K hK => ?_)
      refine skip_ (w1 := ?_) (by rfl) rfl ?_ ?_
      rotate_left
      · go_simp
        rfl
      refine hK.out _ _ ?_
      clear hK K
      refine done_ (by kernel_rfl) ?_
      have e1 : t - nw ≤ (t - nw) * ra := by
        have := Int.mul_le_mul_of_nonneg_left (show (1 : Int) ≤ ra by omega) (show 0 ≤ t - nw by omega)
        rwa [Int.mul_one] at this
      rw [w64 (t - nw) (by omega), w64 ((t - nw) * ra) (by omega), w64 (le + (t - nw) * ra) (by omega)]
      have HL := Aside0.mk hl
      clear hl hn hp e1
      have f4' := f4
      go_wp2
      go_end0
      rw [E.out, HL.out]
      refine ⟨rfl, ⟨F, ⟨HG.out, ?_⟩, fun k hk => ⟨.inl hk, by simpa [World.setCell] using HF.out k hk⟩⟩, ?_⟩
      · exact blk_set (blk_set HBk.out 2 _) 4 _
      · repeat (with_reducible first | exact Chg.refl F w | apply Chg.drewN | apply Chg.drew | refine Chg.setCell ?_ (.inl HG.out) _)
  · have b2 : decide (0 < ra) = false := decide_eq_false d2
    obtain rfl : ra = 0 := by omega
    have hl : lvl ⟨0, bu, le, true, nw⟩ t = le := by
      unfold lvl
      show (if bu * 1000 ≤ le + (t - nw) * 0 then bu * 1000 else le + (t - nw) * 0) = le
      rw [Int.mul_zero]
      split <;> omega
    have HL := Aside0.mk hl
    clear hl d2
    go_enter Try.func28, Try.ntmps28
    go_wp2
    go_end0
    rw [E.out, HL.out]
    refine ⟨rfl, ⟨F, ⟨HG.out, ?_⟩, fun k hk => ⟨.inl hk, by simpa [World.setCell] using HF.out k hk⟩⟩, (Chg.refl F w).setCell (.inl HG.out) _⟩
    exact blk_set HBk.out 4 _
end Go.Proofs.Ytlfediaeaaodpaa.Q
