import Derived.Laws.StandIn
import Derived.Test.YtckpgccbhaejgaaT23
import Derived.Test.YtckpgccbhaejgaaQx3
import Derived.Test.YtckpgccbhaejgaaQx5
namespace Go.Proofs.Ytckpgccbhaejgaa.Q
open Go.RowKit Go.Proofs.YtckpgccbhaejgaaW.PrintWords Go.Proofs.YtckpgccbhaejgaaW.PrintLast Go.Proofs.YtckpgccbhaejgaaW.PrintMore Go.Proofs.Ytckpgccbhaejgaa.Sl Go.Proofs.Ytckpgccbhaejgaa.Hand 
attribute [local go_sem] max2_int min2_int max_two min_two max_three min_three max_four min_four 
set_option linter.unusedVariables false
set_option linter.unusedSimpArgs false

/-! ### The reference's functions -/
abbrev rcs (s : WSt) (M : Int) : Array Value := #[.int .i64 s.lx, .int .i64 s.ly, .int .i64 s.mx, .int .i64 s.my, .int .i64 s.gx, .int .i64 s.gy, .int .i64 s.fx, .int .i64 s.fy, .int .i64 s.sx, .int .i64 s.sy, .int .i64 M]
abbrev rvS (s : WSt) (M : Int) : Value := .agg (rcs s M)
abbrev rcz : Array Value := #[.int .i64 0, .int .i64 0, .int .i64 0, .int .i64 0, .int .i64 0, .int .i64 0, .int .i64 0, .int .i64 0, .int .i64 0, .int .i64 0, .int .i64 0]
theorem size_f (x y lo : Int) : compositorref22_size.f x y lo = some (valB lo x y) := by
  unfold compositorref22_size.f valB
  by_cases a1 : x ≥ lo
  · rw [if_pos a1, decide_eq_true (show lo ≤ x from a1)]
    by_cases a2 : x ≤ 16384
    · rw [if_pos a2, decide_eq_true a2]
      by_cases a3 : y ≥ lo
      · rw [if_pos a3, decide_eq_true (show lo ≤ y from a3)]
        rfl
      · rw [if_neg a3, decide_eq_false (show ¬ lo ≤ y from a3)]
        rfl
    · rw [if_neg a2, decide_eq_false a2]
      rfl
  · rw [if_neg a1, decide_eq_false (show ¬ lo ≤ x from a1)]
    rfl
theorem fits_f (lx ly mx my : Int) : compositorref22_fits.f lx ly mx my = some (decide (limE lx ly mx my = 0)) := by
  unfold compositorref22_fits.f limE
  by_cases hq : (mx ≠ 0 ∧ mx < lx) ∨ (my ≠ 0 ∧ my < ly)
  · rw [if_pos hq]
    repeat' split
    all_goals first | (exfalso; omega) | rfl | (simp; omega)
  · rw [if_neg hq]
    repeat' split
    all_goals first | (exfalso; omega) | rfl | (simp; omega)
theorem emp04_f (a b c d : Int) : compositorref04_Empty.f a b c d = some (emptyB a b c d) := by
  have hv : ∀ a, compositorref04_coordinate.f a = some (recV a) := fun a => valid1_f a
  unfold compositorref04_Empty.f compositorref04_Valid.f emptyB
  simp only [hv, Option.bind_some]
  cases recV a <;> cases recV b <;> cases recV c <;> cases recV d <;> simp
  by_cases h1 : c ≤ a
  · rw [if_pos h1, decide_eq_false (show ¬ a < c by omega)]
    rfl
  · rw [if_neg h1, decide_eq_true (show a < c by omega)]
    by_cases h2 : d ≤ b
    · rw [decide_eq_true h2, decide_eq_false (show ¬ b < d by omega)]
      rfl
    · rw [decide_eq_false h2, decide_eq_true (show b < d by omega)]
      rfl
theorem limit04_f (n lo hi : Int) : compositorref22_limit.f n lo hi = some (limI lo hi n) := by
  unfold compositorref22_limit.f limI mx
  by_cases a1 : hi = 0
  · rw [if_pos a1, if_neg (show ¬ hi ≠ 0 from fun h => h a1)]
  · rw [if_neg a1, if_pos a1]
    by_cases a2 : n > hi
    · rw [if_pos a2, if_pos (show hi < n from a2)]
    · rw [if_neg a2, if_neg (show ¬ hi < n from a2)]
section
variable {w0 w : World} {L : List Res}
theorem size_c (h : SL w0 w L) (x y lo : Int) {r : Bool} (hr : valB lo x y = r) : Calls Try.prog 40 #[.int .i64 x, .int .i64 y, .int .i64 lo] w fun e w' => e = .returned (.bool r) ∧ SL w0 w' L := by
  subst hr
  refine (compositorref22_size.calls x y lo _ w (size_f x y lo)).mono ?_
  rintro e w' ⟨rfl, n, rfl⟩
  exact ⟨rfl, sl_drewN h n⟩
theorem fits_c (h : SL w0 w L) (lx ly mx my : Int) {r : Bool} (hr : decide (limE lx ly mx my = 0) = r) : Calls Try.prog 41 #[.agg #[.int .i64 lx, .int .i64 ly], .agg #[.int .i64 mx, .int .i64 my]] w fun e w' => e = .returned (.bool r) ∧ SL w0 w' L := by
  subst hr
  refine (compositorref22_fits.calls lx ly mx my _ w (fits_f lx ly mx my)).mono ?_
  rintro e w' ⟨rfl, hb⟩
  exact ⟨rfl, sl_below h hb⟩
theorem con_c (h : SL w0 w L) (s : WSt) {M : Int} {c : Bool} (hc : (Go.bits .and .i64 M 3 != 0) = c) : Calls Try.prog 42 #[rvS s M] w fun e w' => e = .returned (.bool c) ∧ SL w0 w' L := by
  subst hc
  refine (compositorref22_Constrained.calls _ _ _ _ _ _ _ _ _ _ M _ w rfl).mono ?_
  rintro e w' ⟨rfl, hb⟩
  exact ⟨rfl, sl_below h hb⟩
theorem emp04_c (h : SL w0 w L) (a b c d : Int) {r : Bool} (hr : emptyB a b c d = r) : Calls Try.prog 43 #[.agg #[.int .i64 a, .int .i64 b, .int .i64 c, .int .i64 d]] w fun e w' => e = .returned (.bool r) ∧ SL w0 w' L := by
  subst hr
  refine (compositorref04_Empty.calls a b c d _ w (emp04_f a b c d)).mono ?_
  rintro e w' ⟨rfl, hb⟩
  exact ⟨rfl, sl_below h hb⟩
theorem limit04_c (h : SL w0 w L) (n lo hi : Int) : Calls Try.prog 49 #[.int .i64 n, .int .i64 lo, .int .i64 hi] w fun e w' => e = .returned (.int .i64 (limI lo hi n)) ∧ SL w0 w' L := by
  refine (compositorref22_limit.calls n lo hi _ w (limit04_f n lo hi)).mono ?_
  rintro e w' ⟨rfl, hb⟩
  exact ⟨rfl, sl_below h hb⟩
theorem edged_f (k : Int) : compositorref22_edged.f k = some (edgeB k) := by
  unfold compositorref22_edged.f
  by_cases h1 : k > 0
  · rw [if_pos h1]
    by_cases h2 : k < 16
    · rw [if_pos h2]
      have hc : k = 1 ∨ k = 2 ∨ k = 3 ∨ k = 4 ∨ k = 5 ∨ k = 6 ∨ k = 7 ∨ k = 8 ∨ k = 9 ∨ k = 10 ∨ k = 11 ∨ k = 12 ∨ k = 13 ∨ k = 14 ∨ k = 15 := by omega
      rcases hc with rfl | rfl | rfl | rfl | rfl | rfl | rfl | rfl | rfl | rfl | rfl | rfl | rfl | rfl | rfl <;> (show _ = _; kernel_rfl)
    · rw [if_neg h2]
      have : edgeB k = false := by
        unfold edgeB
        simp only [Bool.or_eq_false_iff, beq_eq_false_iff_ne]
        omega
      rw [this]
  · rw [if_neg h1]
    have : edgeB k = false := by
      unfold edgeB
      simp only [Bool.or_eq_false_iff, beq_eq_false_iff_ne]
      omega
    rw [this]
theorem edged_c (h : SL w0 w L) (k : Int) {r : Bool} (hr : edgeB k = r) : Calls Try.prog 45 #[.int .i64 k] w fun e w' => e = .returned (.bool r) ∧ SL w0 w' L := by
  subst hr
  refine (compositorref22_edged.calls k _ w (edged_f k)).mono ?_
  rintro e w' ⟨rfl, n, rfl⟩
  exact ⟨rfl, sl_drewN h n⟩
theorem Limited_c (h : SL w0 w L) (s : WSt) (M x y : Int) {a b : Int} (ha : limI s.lx s.mx x = a) (hb : limI s.ly s.my y = b) : Calls Try.prog 44 #[rvS s M, .agg #[.int .i64 x, .int .i64 y]] w fun e w' => e = .returned (.agg #[.int .i64 a, .int .i64 b]) ∧ SL w0 w' L := by
  have HL := Aside0.mk h
  have HS := Aside0.mk (sl_box (sl_box (sl_box (sl_start w) (rcs s M) 39) #[.int .i64 x, .int .i64 y] 23) #[.int .i64 0, .int .i64 0] 23)
  simp only [World.size_alloc] at HS
  have HA := Aside0.mk (And.intro ha hb)
  clear h ha hb
  go_enter Try.func44, Try.ntmps44
  go_wp2_with (fail)
  refine start_ (n := 20) (S := fun w' => w'.cell? ⟨w.heap.size, 0, none⟩ = some (.int .i64 s.lx) ∧ w'.cell? ⟨w.heap.size, 1, none⟩ = some (.int .i64 s.ly) ∧ w'.cell? ⟨w.heap.size, 2, none⟩ = some (.int .i64 s.mx) ∧ w'.cell? ⟨w.heap.size, 3, none⟩ = some (.int .i64 s.my) ∧ w'.cell? ⟨w.heap.size + 1, 0, none⟩ = some (.int .i64 x) ∧ w'.cell? ⟨w.heap.size + 1, 1, none⟩ = some (.int .i64 y)) (ds := [19]) #[false, false, false, false, false, false, false, false, false, false, false, false, false, false, false, false, false, false, false, false] (by kernel_rfl) rfl rfl ⟨(c_at (sl_drew HS.out) 0 rfl 0 rfl), (c_at (sl_drew HS.out) 0 rfl 1 rfl), (c_at (sl_drew HS.out) 0 rfl 2 rfl), (c_at (sl_drew HS.out) 0 rfl 3 rfl), (c_at (sl_drew HS.out) 1 rfl 0 rfl), (c_at (sl_drew HS.out) 1 rfl 1 rfl)⟩ (fun hHeld => ?_)
  refine pure_ (i := 0) (N := some 5) (v := ?_) (a' := ?_) #[true, false, false, false, false, false, false, false, false, false, false, false, false, false, false, false, false, false, false, false] rfl rfl (by kernel_rfl) (fun _ _ _ h => h) (Or.inl ⟨by rfl, ?_⟩) ?_ ?_
  rotate_left
  · intro w'
    go_simp
    with_reducible rfl
  rotate_left
  · simp only [Act.put, List.setIfInBounds_toArray, List.set_cons_zero, List.set_cons_succ, i64_w, i32_w, IntKind.wrap_u32, IntKind.wrap_u8, IntKind.wrap_u16]
    rfl
  refine pure_ (i := 2) (N := some 7) (v := ?_) (a' := ?_) #[true, false, true, false, false, false, false, false, false, false, false, false, false, false, false, false, false, false, false, false] rfl rfl (by kernel_rfl) (fun _ _ _ h => h) (Or.inl ⟨by rfl, ?_⟩) ?_ ?_
  rotate_left
  · intro w'
    go_simp
    with_reducible rfl
  rotate_left
  · simp only [Act.put, List.setIfInBounds_toArray, List.set_cons_zero, List.set_cons_succ, i64_w, i32_w, IntKind.wrap_u32, IntKind.wrap_u8, IntKind.wrap_u16]
    rfl
  refine pure_ (i := 3) (N := some 8) (v := ?_) (a' := ?_) #[true, false, true, true, false, false, false, false, false, false, false, false, false, false, false, false, false, false, false, false] rfl rfl (by kernel_rfl) (fun _ _ _ h => h) (Or.inl ⟨by rfl, ?_⟩) ?_ ?_
  rotate_left
  · intro w'
    go_simp
    with_reducible rfl
  rotate_left
  · simp only [Act.put, List.setIfInBounds_toArray, List.set_cons_zero, List.set_cons_succ, i64_w, i32_w, IntKind.wrap_u32, IntKind.wrap_u8, IntKind.wrap_u16]
    rfl
  refine pure_ (i := 5) (N := some 10) (v := ?_) (a' := ?_) #[true, false, true, true, false, true, false, false, false, false, false, false, false, false, false, false, false, false, false, false] rfl rfl (by kernel_rfl) (fun _ _ _ h => h) (Or.inl ⟨by rfl, ?_⟩) ?_ ?_
  rotate_left
  · intro w'
    go_simp
    with_reducible rfl
  rotate_left
  · simp only [Act.put, List.setIfInBounds_toArray, List.set_cons_zero, List.set_cons_succ, i64_w, i32_w, IntKind.wrap_u32, IntKind.wrap_u8, IntKind.wrap_u16]
    rfl
  refine pure_ (i := 6) (N := some 11) (v := ?_) (a' := ?_) #[true, false, true, true, false, true, true, false, false, false, false, false, false, false, false, false, false, false, false, false] rfl rfl (by kernel_rfl) (fun _ _ _ h => h) (Or.inl ⟨by rfl, ?_⟩) ?_ ?_
  rotate_left
  · intro w'
    go_simp
    with_reducible rfl
  rotate_left
  · simp only [Act.put, List.setIfInBounds_toArray, List.set_cons_zero, List.set_cons_succ, i64_w, i32_w, IntKind.wrap_u32, IntKind.wrap_u8, IntKind.wrap_u16]
    rfl
  refine pure_ (i := 9) (N := some 14) (v := ?_) (a' := ?_) #[true, false, true, true, false, true, true, false, false, true, false, false, false, false, false, false, false, false, false, false] rfl rfl (by kernel_rfl) (fun _ _ _ h => h) (Or.inl ⟨by rfl, ?_⟩) ?_ ?_
  rotate_left
  · intro w'
    go_simp
    with_reducible rfl
  rotate_left
  · simp only [Act.put, List.setIfInBounds_toArray, List.set_cons_zero, List.set_cons_succ, i64_w, i32_w, IntKind.wrap_u32, IntKind.wrap_u8, IntKind.wrap_u16]
    rfl
  refine pure_ (i := 11) (N := some 16) (v := ?_) (a' := ?_) #[true, false, true, true, false, true, true, false, false, true, false, true, false, false, false, false, false, false, false, false] rfl rfl (by kernel_rfl) (fun _ _ _ h => h) (Or.inl ⟨by rfl, ?_⟩) ?_ ?_
  rotate_left
  · intro w'
    go_simp
    with_reducible rfl
  rotate_left
  · simp only [Act.put, List.setIfInBounds_toArray, List.set_cons_zero, List.set_cons_succ, i64_w, i32_w, IntKind.wrap_u32, IntKind.wrap_u8, IntKind.wrap_u16]
    rfl
  refine pure_ (i := 12) (N := some 17) (v := ?_) (a' := ?_) #[true, false, true, true, false, true, true, false, false, true, false, true, true, false, false, false, false, false, false, false] rfl rfl (by kernel_rfl) (fun _ _ _ h => h) (Or.inl ⟨by rfl, ?_⟩) ?_ ?_
  rotate_left
  · intro w'
    go_simp
    with_reducible rfl
  rotate_left
  · simp only [Act.put, List.setIfInBounds_toArray, List.set_cons_zero, List.set_cons_succ, i64_w, i32_w, IntKind.wrap_u32, IntKind.wrap_u8, IntKind.wrap_u16]
    rfl
  refine pure_ (i := 14) (N := some 19) (v := ?_) (a' := ?_) #[true, false, true, true, false, true, true, false, false, true, false, true, true, false, true, false, false, false, false, false] rfl rfl (by kernel_rfl) (fun _ _ _ h => h) (Or.inl ⟨by rfl, ?_⟩) ?_ ?_
  rotate_left
  · intro w'
    go_simp
    with_reducible rfl
  rotate_left
  · simp only [Act.put, List.setIfInBounds_toArray, List.set_cons_zero, List.set_cons_succ, i64_w, i32_w, IntKind.wrap_u32, IntKind.wrap_u8, IntKind.wrap_u16]
    rfl
  refine pure_ (i := 15) (N := some 20) (v := ?_) (a' := ?_) #[true, false, true, true, false, true, true, false, false, true, false, true, true, false, true, true, false, false, false, false] rfl rfl (by kernel_rfl) (fun _ _ _ h => h) (Or.inl ⟨by rfl, ?_⟩) ?_ ?_
  rotate_left
  · intro w'
    go_simp
    with_reducible rfl
  rotate_left
  · simp only [Act.put, List.setIfInBounds_toArray, List.set_cons_zero, List.set_cons_succ, i64_w, i32_w, IntKind.wrap_u32, IntKind.wrap_u8, IntKind.wrap_u16]
    rfl
  refine take_ (i := 1) (N := some 6) (v := ?_) (a' := ?_) #[true, true, true, true, false, true, true, false, false, true, false, true, true, false, true, true, false, false, false, false] rfl rfl (by kernel_rfl) (fun _ _ _ h => h) (Or.inl ⟨by rfl, ?_⟩) hHeld ?_ ?_
  rotate_left
  · rintro w' ⟨s0, s1, s2, s3, s4, s5⟩
    go_simp
    with_reducible rfl
  rotate_left
  · simp only [Act.put, List.setIfInBounds_toArray, List.set_cons_zero, List.set_cons_succ, i64_w, i32_w, IntKind.wrap_u32, IntKind.wrap_u8, IntKind.wrap_u16]
    rfl
  refine take_ (i := 4) (N := some 9) (v := ?_) (a' := ?_) #[true, true, true, true, true, true, true, false, false, true, false, true, true, false, true, true, false, false, false, false] rfl rfl (by kernel_rfl) (fun _ _ _ h => h) (Or.inl ⟨by rfl, ?_⟩) hHeld ?_ ?_
  rotate_left
  · rintro w' ⟨s0, s1, s2, s3, s4, s5⟩
    go_simp
    with_reducible rfl
  rotate_left
  · simp only [Act.put, List.setIfInBounds_toArray, List.set_cons_zero, List.set_cons_succ, i64_w, i32_w, IntKind.wrap_u32, IntKind.wrap_u8, IntKind.wrap_u16]
    rfl
  refine take_ (i := 7) (N := some 12) (v := ?_) (a' := ?_) #[true, true, true, true, true, true, true, true, false, true, false, true, true, false, true, true, false, false, false, false] rfl rfl (by kernel_rfl) (fun _ _ _ h => h) (Or.inl ⟨by rfl, ?_⟩) hHeld ?_ ?_
  rotate_left
  · rintro w' ⟨s0, s1, s2, s3, s4, s5⟩
    go_simp
    with_reducible rfl
  rotate_left
  · simp only [Act.put, List.setIfInBounds_toArray, List.set_cons_zero, List.set_cons_succ, i64_w, i32_w, IntKind.wrap_u32, IntKind.wrap_u8, IntKind.wrap_u16]
    rfl
  refine take_ (i := 10) (N := some 15) (v := ?_) (a' := ?_) #[true, true, true, true, true, true, true, true, false, true, true, true, true, false, true, true, false, false, false, false] rfl rfl (by kernel_rfl) (fun _ _ _ h => h) (Or.inl ⟨by rfl, ?_⟩) hHeld ?_ ?_
  rotate_left
  · rintro w' ⟨s0, s1, s2, s3, s4, s5⟩
    go_simp
    with_reducible rfl
  rotate_left
  · simp only [Act.put, List.setIfInBounds_toArray, List.set_cons_zero, List.set_cons_succ, i64_w, i32_w, IntKind.wrap_u32, IntKind.wrap_u8, IntKind.wrap_u16]
    rfl
  refine take_ (i := 13) (N := some 18) (v := ?_) (a' := ?_) #[true, true, true, true, true, true, true, true, false, true, true, true, true, true, true, true, false, false, false, false] rfl rfl (by kernel_rfl) (fun _ _ _ h => h) (Or.inl ⟨by rfl, ?_⟩) hHeld ?_ ?_
  rotate_left
  · rintro w' ⟨s0, s1, s2, s3, s4, s5⟩
    go_simp
    with_reducible rfl
  rotate_left
  · simp only [Act.put, List.setIfInBounds_toArray, List.set_cons_zero, List.set_cons_succ, i64_w, i32_w, IntKind.wrap_u32, IntKind.wrap_u8, IntKind.wrap_u16]
    rfl
  refine take_ (i := 16) (N := some 21) (v := ?_) (a' := ?_) #[true, true, true, true, true, true, true, true, false, true, true, true, true, true, true, true, true, false, false, false] rfl rfl (by kernel_rfl) (fun _ _ _ h => h) (Or.inl ⟨by rfl, ?_⟩) hHeld ?_ ?_
  rotate_left
  · rintro w' ⟨s0, s1, s2, s3, s4, s5⟩
    go_simp
    with_reducible rfl
  rotate_left
  · simp only [Act.put, List.setIfInBounds_toArray, List.set_cons_zero, List.set_cons_succ, i64_w, i32_w, IntKind.wrap_u32, IntKind.wrap_u8, IntKind.wrap_u16]
    rfl
  refine one_ (i := 8) (N := some 13) #[true, true, true, true, true, true, true, true, true, true, true, true, true, true, true, true, true, false, false, false] rfl rfl (by kernel_rfl) (by decide) (fun K hK => ?_)
  refine goes_ Try.func49 (by kernel_rfl) rfl #[.int .i64 x, .int .i64 s.lx, .int .i64 s.mx] (by rfl) rfl rfl (by (try simp only [List.map_toArray, List.map_cons, List.map_nil]); first | done | rfl) ?_
  with_reducible refine (limit04_c (sl_drew HS.out) x s.lx s.mx).mono ?_
  rintro e w3 ⟨rfl, hs3⟩
  refine ⟨_, rfl, ?_⟩
  rw [HA.out.1]
  refine hK.out _ _ ⟨(c_at hs3 0 rfl 0 rfl), (c_at hs3 0 rfl 1 rfl), (c_at hs3 0 rfl 2 rfl), (c_at hs3 0 rfl 3 rfl), (c_at hs3 1 rfl 0 rfl), (c_at hs3 1 rfl 1 rfl)⟩ (fun hHeld => ?_)
  clear hK K
  refine norm_ (a' := ?_) ?_ ?_
  rotate_left
  · show Act.put _ (some 13) _ = _
    simp only [Act.put, List.setIfInBounds_toArray, List.set_cons_zero, List.set_cons_succ, i64_w, i32_w, IntKind.wrap_u32, IntKind.wrap_u8, IntKind.wrap_u16]
    rfl
  refine one_ (i := 17) (N := some 22) #[true, true, true, true, true, true, true, true, true, true, true, true, true, true, true, true, true, true, false, false] rfl rfl (by kernel_rfl) (by decide) (fun K hK => ?_)
  refine goes_ Try.func49 (by kernel_rfl) rfl #[.int .i64 y, .int .i64 s.ly, .int .i64 s.my] (by rfl) rfl rfl (by (try simp only [List.map_toArray, List.map_cons, List.map_nil]); first | done | rfl) ?_
  with_reducible refine (limit04_c hs3 y s.ly s.my).mono ?_
  rintro e w4 ⟨rfl, hs4⟩
  refine ⟨_, rfl, ?_⟩
  rw [HA.out.2]
  have r0 := c_at hs4 2 rfl 0 rfl
  have r1 := c_at hs4 2 rfl 1 rfl
  have fr0 := f_at hs4 2 rfl 0
  have fr1 := f_at hs4 2 rfl 1
  have hl4 := blk_lt (sl_blk hs4 2 rfl)
  refine hK.out _ _ ⟨(c_at hs4 0 rfl 0 rfl), (c_at hs4 0 rfl 1 rfl), (c_at hs4 0 rfl 2 rfl), (c_at hs4 0 rfl 3 rfl), (c_at hs4 1 rfl 0 rfl), (c_at hs4 1 rfl 1 rfl)⟩ (fun hHeld => ?_)
  clear hK K
  refine norm_ (a' := ?_) ?_ ?_
  rotate_left
  · show Act.put _ (some 22) _ = _
    simp only [Act.put, List.setIfInBounds_toArray, List.set_cons_zero, List.set_cons_succ, i64_w, i32_w, IntKind.wrap_u32, IntKind.wrap_u8, IntKind.wrap_u16]
    rfl
  refine pure_ (i := 18) (N := some 23) (v := ?_) (a' := ?_) #[true, true, true, true, true, true, true, true, true, true, true, true, true, true, true, true, true, true, true, false] rfl rfl (by kernel_rfl) (fun _ _ _ h => h) (Or.inl ⟨by rfl, ?_⟩) ?_ ?_
  rotate_left
  · intro w'
    go_simp
    with_reducible rfl
  rotate_left
  · simp only [Act.put, List.setIfInBounds_toArray, List.set_cons_zero, List.set_cons_succ, i64_w, i32_w, IntKind.wrap_u32, IntKind.wrap_u8, IntKind.wrap_u16]
    rfl
  refine last_ (i := 19) (N := none) #[true, true, true, true, true, true, true, true, true, true, true, true, true, true, true, true, true, true, true, true] rfl rfl (by kernel_rfl) (by decide) (fun K hK => ?_)
  refine skip_ (w1 := ?_) (by rfl) rfl ?_ ?_
  rotate_left
  · go_simp
    rfl
  refine hK.out _ _ ?_
  clear hK K
  refine done_ (by kernel_rfl) ?_
  go_wp2_with (fail)
  have hs5 := sl_put (sl_put hs4 2 rfl 0 (.int .i64 a)) 2 rfl 1 (.int .i64 b)
  refine bodyPost_ret (results_cell_row rfl _ _ (w.heap.size + 1 + 1) 23 #[.int .i64 a, .int .i64 b] (0, 0) _ (by rfl) (by exact sl_blk hs5 2 rfl) (by exact Try.underlying23) (by rfl) (by kernel_rfl)) rfl ?_
  exact ⟨rfl, sl_below HL.out (sl_below0 hs5)⟩
theorem rMin_c (h : SL w0 w L) (s : WSt) (M x y : Int) : Calls Try.prog 30 #[rvS s M, .int .i64 x, .int .i64 y] w fun e w' => e = .returned (.tuple #[rvS (minS s x y) M, .int .i64 (minE s x y)]) ∧ SL w0 w' L := by
  have HL := Aside0.mk h
  have HS := Aside0.mk (sl_start w)
  clear h
  by_cases c1 : valB 0 x y = true
  rotate_left
  · have HV := Aside0.mk (show valB 0 x y = false from Bool.eq_false_iff.2 c1)
    have hE : minE s x y = 6 := if_neg c1
    have hS : minS s x y = s := by unfold minS; rw [hE]; rfl
    rw [hE, hS]
    clear hE hS c1
    go_enter Try.func30, Try.ntmps30
    go_wp2_with (first
      | (go_at_call 40; refine (size_c (by repeat (with_reducible first | exact HS.out | apply sl_drewN | apply sl_drew | apply sl_box | apply sl_alloc)) x y 0 HV.out).mono ?_; rintro e w1 ⟨rfl, hs⟩; (try simp only [World.size_alloc] at hs); replace HS := Aside0.mk hs; clear hs; (try clear a0 a1 a2 a3 a4 a5 a6 a7 a8 a9 a10 fa0 fa1 la); (try (have a0 := c_at HS.out 0 rfl 0 rfl; have a1 := c_at HS.out 0 rfl 1 rfl; have a2 := c_at HS.out 0 rfl 2 rfl; have a3 := c_at HS.out 0 rfl 3 rfl; have a4 := c_at HS.out 0 rfl 4 rfl; have a5 := c_at HS.out 0 rfl 5 rfl; have a6 := c_at HS.out 0 rfl 6 rfl; have a7 := c_at HS.out 0 rfl 7 rfl; have a8 := c_at HS.out 0 rfl 8 rfl; have a9 := c_at HS.out 0 rfl 9 rfl; have a10 := c_at HS.out 0 rfl 10 rfl; have fa0 := f_at HS.out 0 rfl 0; have fa1 := f_at HS.out 0 rfl 1; have la := blk_lt (sl_blk HS.out 0 rfl))); (try clear p0 p1 lp); (try (have p0 := c_at HS.out 2 rfl 0 rfl; have p1 := c_at HS.out 2 rfl 1 rfl; have lp := blk_lt (sl_blk HS.out 2 rfl))))
      | (go_at_call 41; refine (fits_c (by repeat (with_reducible first | exact HS.out | apply sl_drewN | apply sl_drew | apply sl_box | apply sl_alloc)) _ _ _ _ HF.out).mono ?_; rintro e w1 ⟨rfl, hs⟩; (try simp only [World.size_alloc] at hs); replace HS := Aside0.mk hs; clear hs; (try clear a0 a1 a2 a3 a4 a5 a6 a7 a8 a9 a10 fa0 fa1 la); (try (have a0 := c_at HS.out 0 rfl 0 rfl; have a1 := c_at HS.out 0 rfl 1 rfl; have a2 := c_at HS.out 0 rfl 2 rfl; have a3 := c_at HS.out 0 rfl 3 rfl; have a4 := c_at HS.out 0 rfl 4 rfl; have a5 := c_at HS.out 0 rfl 5 rfl; have a6 := c_at HS.out 0 rfl 6 rfl; have a7 := c_at HS.out 0 rfl 7 rfl; have a8 := c_at HS.out 0 rfl 8 rfl; have a9 := c_at HS.out 0 rfl 9 rfl; have a10 := c_at HS.out 0 rfl 10 rfl; have fa0 := f_at HS.out 0 rfl 0; have fa1 := f_at HS.out 0 rfl 1; have la := blk_lt (sl_blk HS.out 0 rfl))); (try clear p0 p1 lp); (try (have p0 := c_at HS.out 2 rfl 0 rfl; have p1 := c_at HS.out 2 rfl 1 rfl; have lp := blk_lt (sl_blk HS.out 2 rfl))))
      | (refine wpList_store_row rfl 39 _ _ rfl _ (rcs s M) rfl rfl 39 rcz (sl_blk (by repeat (with_reducible first | exact HS.out | apply sl_drewN | apply sl_drew | apply sl_box | apply sl_alloc)) 1 rfl) (by kernel_rfl) rfl (by simp [Value.oneCell']) ?_; have hs := sl_row (by repeat (with_reducible first | exact HS.out | apply sl_drewN | apply sl_drew | apply sl_box | apply sl_alloc)) 1 rfl (rcs s M); (try simp only [World.size_alloc] at hs); replace HS := Aside0.mk hs; clear hs))
    try rw [Exit.noGoto_ret]
    refine bodyPost_ret (results_list (rs := [.cell 6 39, .tmp 7]) rfl (by simp) (.cell _ 39 (rcs s M) (0, 0) _ rfl (sl_blk HS.out 1 rfl) Try.underlying39 rfl (by kernel_rfl) (.tmp .nil))) rfl ?_
    exact ⟨rfl, sl_below HL.out (sl_below0 HS.out)⟩
  have HV := Aside0.mk c1
  by_cases c2 : limE x y s.mx s.my = 0
  · have HF := Aside0.mk (show decide (limE x y s.mx s.my = 0) = true from decide_eq_true c2)
    have hE : minE s x y = 0 := (if_pos c1).trans c2
    have hS : minS s x y = { s with lx := x, ly := y } := if_pos hE
    rw [hE, hS]
    clear hE hS c1 c2
    go_enter Try.func30, Try.ntmps30
    go_wp2_with (first
      | (go_at_call 40; refine (size_c (by repeat (with_reducible first | exact HS.out | apply sl_drewN | apply sl_drew | apply sl_box | apply sl_alloc)) x y 0 HV.out).mono ?_; rintro e w1 ⟨rfl, hs⟩; (try simp only [World.size_alloc] at hs); replace HS := Aside0.mk hs; clear hs; (try clear a0 a1 a2 a3 a4 a5 a6 a7 a8 a9 a10 fa0 fa1 la); (try (have a0 := c_at HS.out 0 rfl 0 rfl; have a1 := c_at HS.out 0 rfl 1 rfl; have a2 := c_at HS.out 0 rfl 2 rfl; have a3 := c_at HS.out 0 rfl 3 rfl; have a4 := c_at HS.out 0 rfl 4 rfl; have a5 := c_at HS.out 0 rfl 5 rfl; have a6 := c_at HS.out 0 rfl 6 rfl; have a7 := c_at HS.out 0 rfl 7 rfl; have a8 := c_at HS.out 0 rfl 8 rfl; have a9 := c_at HS.out 0 rfl 9 rfl; have a10 := c_at HS.out 0 rfl 10 rfl; have fa0 := f_at HS.out 0 rfl 0; have fa1 := f_at HS.out 0 rfl 1; have la := blk_lt (sl_blk HS.out 0 rfl))); (try clear p0 p1 lp); (try (have p0 := c_at HS.out 2 rfl 0 rfl; have p1 := c_at HS.out 2 rfl 1 rfl; have lp := blk_lt (sl_blk HS.out 2 rfl))))
      | (go_at_call 41; refine (fits_c (by repeat (with_reducible first | exact HS.out | apply sl_drewN | apply sl_drew | apply sl_box | apply sl_alloc)) _ _ _ _ HF.out).mono ?_; rintro e w1 ⟨rfl, hs⟩; (try simp only [World.size_alloc] at hs); replace HS := Aside0.mk hs; clear hs; (try clear a0 a1 a2 a3 a4 a5 a6 a7 a8 a9 a10 fa0 fa1 la); (try (have a0 := c_at HS.out 0 rfl 0 rfl; have a1 := c_at HS.out 0 rfl 1 rfl; have a2 := c_at HS.out 0 rfl 2 rfl; have a3 := c_at HS.out 0 rfl 3 rfl; have a4 := c_at HS.out 0 rfl 4 rfl; have a5 := c_at HS.out 0 rfl 5 rfl; have a6 := c_at HS.out 0 rfl 6 rfl; have a7 := c_at HS.out 0 rfl 7 rfl; have a8 := c_at HS.out 0 rfl 8 rfl; have a9 := c_at HS.out 0 rfl 9 rfl; have a10 := c_at HS.out 0 rfl 10 rfl; have fa0 := f_at HS.out 0 rfl 0; have fa1 := f_at HS.out 0 rfl 1; have la := blk_lt (sl_blk HS.out 0 rfl))); (try clear p0 p1 lp); (try (have p0 := c_at HS.out 2 rfl 0 rfl; have p1 := c_at HS.out 2 rfl 1 rfl; have lp := blk_lt (sl_blk HS.out 2 rfl))))
      | (refine wpList_store_row rfl 39 _ _ rfl _ (rcs { s with lx := x, ly := y } M) rfl rfl 39 rcz (sl_blk (sl_put (sl_put HS.out 0 rfl 0 (.int .i64 x)) 0 rfl 1 (.int .i64 y)) 1 rfl) (by kernel_rfl) rfl (by simp [Value.oneCell']) ?_; have hs := sl_row (sl_put (sl_put HS.out 0 rfl 0 (.int .i64 x)) 0 rfl 1 (.int .i64 y)) 1 rfl (rcs { s with lx := x, ly := y } M); (try simp only [World.size_alloc] at hs); replace HS := Aside0.mk hs; clear hs))
    try rw [Exit.noGoto_ret]
    refine bodyPost_ret (results_list (rs := [.cell 6 39, .tmp 7]) rfl (by simp) (.cell _ 39 (rcs { s with lx := x, ly := y } M) (0, 0) _ rfl (sl_blk HS.out 1 rfl) Try.underlying39 rfl (by kernel_rfl) (.tmp .nil))) rfl ?_
    exact ⟨rfl, sl_below HL.out (sl_below0 HS.out)⟩
  · have HF := Aside0.mk (show decide (limE x y s.mx s.my = 0) = false from decide_eq_false c2)
    have hl : limE x y s.mx s.my = 2 := by unfold limE at c2 ⊢; split at c2 <;> simp_all
    have hE : minE s x y = 2 := (if_pos c1).trans hl
    have hS : minS s x y = s := by unfold minS; rw [hE]; rfl
    rw [hE, hS]
    clear hE hS c1 c2
    go_enter Try.func30, Try.ntmps30
    go_wp2_with (first
      | (go_at_call 40; refine (size_c (by repeat (with_reducible first | exact HS.out | apply sl_drewN | apply sl_drew | apply sl_box | apply sl_alloc)) x y 0 HV.out).mono ?_; rintro e w1 ⟨rfl, hs⟩; (try simp only [World.size_alloc] at hs); replace HS := Aside0.mk hs; clear hs; (try clear a0 a1 a2 a3 a4 a5 a6 a7 a8 a9 a10 fa0 fa1 la); (try (have a0 := c_at HS.out 0 rfl 0 rfl; have a1 := c_at HS.out 0 rfl 1 rfl; have a2 := c_at HS.out 0 rfl 2 rfl; have a3 := c_at HS.out 0 rfl 3 rfl; have a4 := c_at HS.out 0 rfl 4 rfl; have a5 := c_at HS.out 0 rfl 5 rfl; have a6 := c_at HS.out 0 rfl 6 rfl; have a7 := c_at HS.out 0 rfl 7 rfl; have a8 := c_at HS.out 0 rfl 8 rfl; have a9 := c_at HS.out 0 rfl 9 rfl; have a10 := c_at HS.out 0 rfl 10 rfl; have fa0 := f_at HS.out 0 rfl 0; have fa1 := f_at HS.out 0 rfl 1; have la := blk_lt (sl_blk HS.out 0 rfl))); (try clear p0 p1 lp); (try (have p0 := c_at HS.out 2 rfl 0 rfl; have p1 := c_at HS.out 2 rfl 1 rfl; have lp := blk_lt (sl_blk HS.out 2 rfl))))
      | (go_at_call 41; refine (fits_c (by repeat (with_reducible first | exact HS.out | apply sl_drewN | apply sl_drew | apply sl_box | apply sl_alloc)) _ _ _ _ HF.out).mono ?_; rintro e w1 ⟨rfl, hs⟩; (try simp only [World.size_alloc] at hs); replace HS := Aside0.mk hs; clear hs; (try clear a0 a1 a2 a3 a4 a5 a6 a7 a8 a9 a10 fa0 fa1 la); (try (have a0 := c_at HS.out 0 rfl 0 rfl; have a1 := c_at HS.out 0 rfl 1 rfl; have a2 := c_at HS.out 0 rfl 2 rfl; have a3 := c_at HS.out 0 rfl 3 rfl; have a4 := c_at HS.out 0 rfl 4 rfl; have a5 := c_at HS.out 0 rfl 5 rfl; have a6 := c_at HS.out 0 rfl 6 rfl; have a7 := c_at HS.out 0 rfl 7 rfl; have a8 := c_at HS.out 0 rfl 8 rfl; have a9 := c_at HS.out 0 rfl 9 rfl; have a10 := c_at HS.out 0 rfl 10 rfl; have fa0 := f_at HS.out 0 rfl 0; have fa1 := f_at HS.out 0 rfl 1; have la := blk_lt (sl_blk HS.out 0 rfl))); (try clear p0 p1 lp); (try (have p0 := c_at HS.out 2 rfl 0 rfl; have p1 := c_at HS.out 2 rfl 1 rfl; have lp := blk_lt (sl_blk HS.out 2 rfl))))
      | (refine wpList_store_row rfl 39 _ _ rfl _ (rcs s M) rfl rfl 39 rcz (sl_blk (by repeat (with_reducible first | exact HS.out | apply sl_drewN | apply sl_drew | apply sl_box | apply sl_alloc)) 1 rfl) (by kernel_rfl) rfl (by simp [Value.oneCell']) ?_; have hs := sl_row (by repeat (with_reducible first | exact HS.out | apply sl_drewN | apply sl_drew | apply sl_box | apply sl_alloc)) 1 rfl (rcs s M); (try simp only [World.size_alloc] at hs); replace HS := Aside0.mk hs; clear hs))
    try rw [Exit.noGoto_ret]
    refine bodyPost_ret (results_list (rs := [.cell 6 39, .tmp 7]) rfl (by simp) (.cell _ 39 (rcs s M) (0, 0) _ rfl (sl_blk HS.out 1 rfl) Try.underlying39 rfl (by kernel_rfl) (.tmp .nil))) rfl ?_
    exact ⟨rfl, sl_below HL.out (sl_below0 HS.out)⟩
theorem rMax_c (h : SL w0 w L) (s : WSt) (M x y : Int) : Calls Try.prog 31 #[rvS s M, .int .i64 x, .int .i64 y] w fun e w' => e = .returned (.tuple #[rvS (maxS s x y) M, .int .i64 (maxE s x y)]) ∧ SL w0 w' L := by
  have HL := Aside0.mk h
  have HS := Aside0.mk (sl_start w)
  clear h
  by_cases c1 : valB 0 x y = true
  rotate_left
  · have HV := Aside0.mk (show valB 0 x y = false from Bool.eq_false_iff.2 c1)
    have hE : maxE s x y = 6 := if_neg c1
    have hS : maxS s x y = s := by unfold maxS; rw [hE]; rfl
    rw [hE, hS]
    clear hE hS c1
    go_enter Try.func31, Try.ntmps31
    go_wp2_with (first
      | (go_at_call 40; refine (size_c (by repeat (with_reducible first | exact HS.out | apply sl_drewN | apply sl_drew | apply sl_box | apply sl_alloc)) x y 0 HV.out).mono ?_; rintro e w1 ⟨rfl, hs⟩; (try simp only [World.size_alloc] at hs); replace HS := Aside0.mk hs; clear hs; (try clear a0 a1 a2 a3 a4 a5 a6 a7 a8 a9 a10 fa2 fa3 la); (try (have a0 := c_at HS.out 0 rfl 0 rfl; have a1 := c_at HS.out 0 rfl 1 rfl; have a2 := c_at HS.out 0 rfl 2 rfl; have a3 := c_at HS.out 0 rfl 3 rfl; have a4 := c_at HS.out 0 rfl 4 rfl; have a5 := c_at HS.out 0 rfl 5 rfl; have a6 := c_at HS.out 0 rfl 6 rfl; have a7 := c_at HS.out 0 rfl 7 rfl; have a8 := c_at HS.out 0 rfl 8 rfl; have a9 := c_at HS.out 0 rfl 9 rfl; have a10 := c_at HS.out 0 rfl 10 rfl; have fa2 := f_at HS.out 0 rfl 2; have fa3 := f_at HS.out 0 rfl 3; have la := blk_lt (sl_blk HS.out 0 rfl))); (try clear p0 p1 lp); (try (have p0 := c_at HS.out 2 rfl 0 rfl; have p1 := c_at HS.out 2 rfl 1 rfl; have lp := blk_lt (sl_blk HS.out 2 rfl))))
      | (go_at_call 41; refine (fits_c (by repeat (with_reducible first | exact HS.out | apply sl_drewN | apply sl_drew | apply sl_box | apply sl_alloc)) _ _ _ _ HF.out).mono ?_; rintro e w1 ⟨rfl, hs⟩; (try simp only [World.size_alloc] at hs); replace HS := Aside0.mk hs; clear hs; (try clear a0 a1 a2 a3 a4 a5 a6 a7 a8 a9 a10 fa2 fa3 la); (try (have a0 := c_at HS.out 0 rfl 0 rfl; have a1 := c_at HS.out 0 rfl 1 rfl; have a2 := c_at HS.out 0 rfl 2 rfl; have a3 := c_at HS.out 0 rfl 3 rfl; have a4 := c_at HS.out 0 rfl 4 rfl; have a5 := c_at HS.out 0 rfl 5 rfl; have a6 := c_at HS.out 0 rfl 6 rfl; have a7 := c_at HS.out 0 rfl 7 rfl; have a8 := c_at HS.out 0 rfl 8 rfl; have a9 := c_at HS.out 0 rfl 9 rfl; have a10 := c_at HS.out 0 rfl 10 rfl; have fa2 := f_at HS.out 0 rfl 2; have fa3 := f_at HS.out 0 rfl 3; have la := blk_lt (sl_blk HS.out 0 rfl))); (try clear p0 p1 lp); (try (have p0 := c_at HS.out 2 rfl 0 rfl; have p1 := c_at HS.out 2 rfl 1 rfl; have lp := blk_lt (sl_blk HS.out 2 rfl))))
      | (refine wpList_store_row rfl 39 _ _ rfl _ (rcs s M) rfl rfl 39 rcz (sl_blk (by repeat (with_reducible first | exact HS.out | apply sl_drewN | apply sl_drew | apply sl_box | apply sl_alloc)) 1 rfl) (by kernel_rfl) rfl (by simp [Value.oneCell']) ?_; have hs := sl_row (by repeat (with_reducible first | exact HS.out | apply sl_drewN | apply sl_drew | apply sl_box | apply sl_alloc)) 1 rfl (rcs s M); (try simp only [World.size_alloc] at hs); replace HS := Aside0.mk hs; clear hs))
    try rw [Exit.noGoto_ret]
    refine bodyPost_ret (results_list (rs := [.cell 6 39, .tmp 7]) rfl (by simp) (.cell _ 39 (rcs s M) (0, 0) _ rfl (sl_blk HS.out 1 rfl) Try.underlying39 rfl (by kernel_rfl) (.tmp .nil))) rfl ?_
    exact ⟨rfl, sl_below HL.out (sl_below0 HS.out)⟩
  have HV := Aside0.mk c1
  by_cases c2 : limE s.lx s.ly x y = 0
  · have HF := Aside0.mk (show decide (limE s.lx s.ly x y = 0) = true from decide_eq_true c2)
    have hE : maxE s x y = 0 := (if_pos c1).trans c2
    have hS : maxS s x y = { s with mx := x, my := y } := if_pos hE
    rw [hE, hS]
    clear hE hS c1 c2
    go_enter Try.func31, Try.ntmps31
    go_wp2_with (first
      | (go_at_call 40; refine (size_c (by repeat (with_reducible first | exact HS.out | apply sl_drewN | apply sl_drew | apply sl_box | apply sl_alloc)) x y 0 HV.out).mono ?_; rintro e w1 ⟨rfl, hs⟩; (try simp only [World.size_alloc] at hs); replace HS := Aside0.mk hs; clear hs; (try clear a0 a1 a2 a3 a4 a5 a6 a7 a8 a9 a10 fa2 fa3 la); (try (have a0 := c_at HS.out 0 rfl 0 rfl; have a1 := c_at HS.out 0 rfl 1 rfl; have a2 := c_at HS.out 0 rfl 2 rfl; have a3 := c_at HS.out 0 rfl 3 rfl; have a4 := c_at HS.out 0 rfl 4 rfl; have a5 := c_at HS.out 0 rfl 5 rfl; have a6 := c_at HS.out 0 rfl 6 rfl; have a7 := c_at HS.out 0 rfl 7 rfl; have a8 := c_at HS.out 0 rfl 8 rfl; have a9 := c_at HS.out 0 rfl 9 rfl; have a10 := c_at HS.out 0 rfl 10 rfl; have fa2 := f_at HS.out 0 rfl 2; have fa3 := f_at HS.out 0 rfl 3; have la := blk_lt (sl_blk HS.out 0 rfl))); (try clear p0 p1 lp); (try (have p0 := c_at HS.out 2 rfl 0 rfl; have p1 := c_at HS.out 2 rfl 1 rfl; have lp := blk_lt (sl_blk HS.out 2 rfl))))
      | (go_at_call 41; refine (fits_c (by repeat (with_reducible first | exact HS.out | apply sl_drewN | apply sl_drew | apply sl_box | apply sl_alloc)) _ _ _ _ HF.out).mono ?_; rintro e w1 ⟨rfl, hs⟩; (try simp only [World.size_alloc] at hs); replace HS := Aside0.mk hs; clear hs; (try clear a0 a1 a2 a3 a4 a5 a6 a7 a8 a9 a10 fa2 fa3 la); (try (have a0 := c_at HS.out 0 rfl 0 rfl; have a1 := c_at HS.out 0 rfl 1 rfl; have a2 := c_at HS.out 0 rfl 2 rfl; have a3 := c_at HS.out 0 rfl 3 rfl; have a4 := c_at HS.out 0 rfl 4 rfl; have a5 := c_at HS.out 0 rfl 5 rfl; have a6 := c_at HS.out 0 rfl 6 rfl; have a7 := c_at HS.out 0 rfl 7 rfl; have a8 := c_at HS.out 0 rfl 8 rfl; have a9 := c_at HS.out 0 rfl 9 rfl; have a10 := c_at HS.out 0 rfl 10 rfl; have fa2 := f_at HS.out 0 rfl 2; have fa3 := f_at HS.out 0 rfl 3; have la := blk_lt (sl_blk HS.out 0 rfl))); (try clear p0 p1 lp); (try (have p0 := c_at HS.out 2 rfl 0 rfl; have p1 := c_at HS.out 2 rfl 1 rfl; have lp := blk_lt (sl_blk HS.out 2 rfl))))
      | (refine wpList_store_row rfl 39 _ _ rfl _ (rcs { s with mx := x, my := y } M) rfl rfl 39 rcz (sl_blk (sl_put (sl_put HS.out 0 rfl 2 (.int .i64 x)) 0 rfl 3 (.int .i64 y)) 1 rfl) (by kernel_rfl) rfl (by simp [Value.oneCell']) ?_; have hs := sl_row (sl_put (sl_put HS.out 0 rfl 2 (.int .i64 x)) 0 rfl 3 (.int .i64 y)) 1 rfl (rcs { s with mx := x, my := y } M); (try simp only [World.size_alloc] at hs); replace HS := Aside0.mk hs; clear hs))
    try rw [Exit.noGoto_ret]
    refine bodyPost_ret (results_list (rs := [.cell 6 39, .tmp 7]) rfl (by simp) (.cell _ 39 (rcs { s with mx := x, my := y } M) (0, 0) _ rfl (sl_blk HS.out 1 rfl) Try.underlying39 rfl (by kernel_rfl) (.tmp .nil))) rfl ?_
    exact ⟨rfl, sl_below HL.out (sl_below0 HS.out)⟩
  · have HF := Aside0.mk (show decide (limE s.lx s.ly x y = 0) = false from decide_eq_false c2)
    have hl : limE s.lx s.ly x y = 2 := by unfold limE at c2 ⊢; split at c2 <;> simp_all
    have hE : maxE s x y = 2 := (if_pos c1).trans hl
    have hS : maxS s x y = s := by unfold maxS; rw [hE]; rfl
    rw [hE, hS]
    clear hE hS c1 c2
    go_enter Try.func31, Try.ntmps31
    go_wp2_with (first
      | (go_at_call 40; refine (size_c (by repeat (with_reducible first | exact HS.out | apply sl_drewN | apply sl_drew | apply sl_box | apply sl_alloc)) x y 0 HV.out).mono ?_; rintro e w1 ⟨rfl, hs⟩; (try simp only [World.size_alloc] at hs); replace HS := Aside0.mk hs; clear hs; (try clear a0 a1 a2 a3 a4 a5 a6 a7 a8 a9 a10 fa2 fa3 la); (try (have a0 := c_at HS.out 0 rfl 0 rfl; have a1 := c_at HS.out 0 rfl 1 rfl; have a2 := c_at HS.out 0 rfl 2 rfl; have a3 := c_at HS.out 0 rfl 3 rfl; have a4 := c_at HS.out 0 rfl 4 rfl; have a5 := c_at HS.out 0 rfl 5 rfl; have a6 := c_at HS.out 0 rfl 6 rfl; have a7 := c_at HS.out 0 rfl 7 rfl; have a8 := c_at HS.out 0 rfl 8 rfl; have a9 := c_at HS.out 0 rfl 9 rfl; have a10 := c_at HS.out 0 rfl 10 rfl; have fa2 := f_at HS.out 0 rfl 2; have fa3 := f_at HS.out 0 rfl 3; have la := blk_lt (sl_blk HS.out 0 rfl))); (try clear p0 p1 lp); (try (have p0 := c_at HS.out 2 rfl 0 rfl; have p1 := c_at HS.out 2 rfl 1 rfl; have lp := blk_lt (sl_blk HS.out 2 rfl))))
      | (go_at_call 41; refine (fits_c (by repeat (with_reducible first | exact HS.out | apply sl_drewN | apply sl_drew | apply sl_box | apply sl_alloc)) _ _ _ _ HF.out).mono ?_; rintro e w1 ⟨rfl, hs⟩; (try simp only [World.size_alloc] at hs); replace HS := Aside0.mk hs; clear hs; (try clear a0 a1 a2 a3 a4 a5 a6 a7 a8 a9 a10 fa2 fa3 la); (try (have a0 := c_at HS.out 0 rfl 0 rfl; have a1 := c_at HS.out 0 rfl 1 rfl; have a2 := c_at HS.out 0 rfl 2 rfl; have a3 := c_at HS.out 0 rfl 3 rfl; have a4 := c_at HS.out 0 rfl 4 rfl; have a5 := c_at HS.out 0 rfl 5 rfl; have a6 := c_at HS.out 0 rfl 6 rfl; have a7 := c_at HS.out 0 rfl 7 rfl; have a8 := c_at HS.out 0 rfl 8 rfl; have a9 := c_at HS.out 0 rfl 9 rfl; have a10 := c_at HS.out 0 rfl 10 rfl; have fa2 := f_at HS.out 0 rfl 2; have fa3 := f_at HS.out 0 rfl 3; have la := blk_lt (sl_blk HS.out 0 rfl))); (try clear p0 p1 lp); (try (have p0 := c_at HS.out 2 rfl 0 rfl; have p1 := c_at HS.out 2 rfl 1 rfl; have lp := blk_lt (sl_blk HS.out 2 rfl))))
      | (refine wpList_store_row rfl 39 _ _ rfl _ (rcs s M) rfl rfl 39 rcz (sl_blk (by repeat (with_reducible first | exact HS.out | apply sl_drewN | apply sl_drew | apply sl_box | apply sl_alloc)) 1 rfl) (by kernel_rfl) rfl (by simp [Value.oneCell']) ?_; have hs := sl_row (by repeat (with_reducible first | exact HS.out | apply sl_drewN | apply sl_drew | apply sl_box | apply sl_alloc)) 1 rfl (rcs s M); (try simp only [World.size_alloc] at hs); replace HS := Aside0.mk hs; clear hs))
    try rw [Exit.noGoto_ret]
    refine bodyPost_ret (results_list (rs := [.cell 6 39, .tmp 7]) rfl (by simp) (.cell _ 39 (rcs s M) (0, 0) _ rfl (sl_blk HS.out 1 rfl) Try.underlying39 rfl (by kernel_rfl) (.tmp .nil))) rfl ?_
    exact ⟨rfl, sl_below HL.out (sl_below0 HS.out)⟩
end
end Go.Proofs.Ytckpgccbhaejgaa.Q
