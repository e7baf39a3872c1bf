import Derived.Test.YtckpgccbhaejgaaT9
namespace Go.Proofs.Ytckpgccbhaejgaa.Q
open Go.RowKit Go.Proofs.YtckpgccbhaejgaaW.PrintWords Go.Proofs.YtckpgccbhaejgaaW.PrintLast Go.Proofs.YtckpgccbhaejgaaW.PrintMore Go.Proofs.Ytckpgccbhaejgaa.Sl Go.Proofs.Ytckpgccbhaejgaa.Hand 
attribute [local go_sem] max2_int min2_int max_two min_two max_three min_three max_four min_four 
set_option linter.unusedVariables false
set_option linter.unusedSimpArgs false

theorem sl_bput_step {w0 w : World} {L : List Res} {ops : Array Oper} {oi : Oper} {a : Act} {Q : Exit → Act → World → Prop} {K : Act → World → Prop} {mb : Nat} {s : Bits} (hw : Region.wanted oi (yielded ops a.tmps) = true) (hN : oi.dst = none) (h : SL w0 w L) (i : Nat) (hi : L[i]? = some (bitR mb s)) (m x v : Operand) (hop : oi.op = Op.mapUpdate 53 m x v)
    (hm : a.eval m = .map (some mb)) (k : Int) (hk : k = 1 ∨ k = 2 ∨ k = 4 ∨ k = 8) (hx : a.eval x = .int .i64 k) (y : Bool) (hv : a.eval v = .int .i64 (bi y))
    (hK : ∀ w1, SL w0 w1 (L.set i (bitR mb (setB s k y))) → K a w1) : if Region.wanted oi (yielded ops a.tmps) = true then Oper.wp Try.prog oi a w K Q else K (a.put none undef) w := by
  obtain ⟨w1, hr, h1, hg⟩ := (sl_bit h i hi).put k hk y
  refine skip_ hw hN (w1 := w1) (by simp [execOp, hop, hm, hx, hv, hr, Result.andThen]) ?_
  obtain ⟨F, h2, h3, h4⟩ := sl_upd h hi
  exact hK _ (h4 w1 _ F ⟨h2.1, h1⟩ (fun k hk => ⟨.inl hk, Nat.lt_of_lt_of_le (h3 k hk).2 hg.size⟩) ((Chg.refl F w).grown hg (fun k hk => by injection hk with hk; subst hk; exact .inl h2.1)))
def recV (a : Int) : Bool := decide (-16384 ≤ a) && decide (a ≤ 16384)
def emptyB (a b c d : Int) : Bool := !(recV a && recV b && recV c && recV d && decide (a < c) && decide (b < d))
theorem valid1_f (a : Int) : rect_valid.f a = some (recV a) := by
  unfold rect_valid.f recV
  by_cases h : a ≥ -16384
  · rw [if_pos h, decide_eq_true (show -16384 ≤ a from h), Bool.true_and]
  · rw [if_neg h, decide_eq_false (show ¬ -16384 ≤ a from h), Bool.false_and]
theorem empty_f (a b c d : Int) : rect_Empty.f a b c d = some (emptyB a b c d) := by
  unfold rect_Empty.f rect_Valid.f emptyB
  simp only [valid1_f, Option.bind_some]
  cases recV a <;> cases recV b <;> cases recV c <;> cases recV d <;> simp
  by_cases h1 : c ≤ a
  · rw [if_pos h1, decide_eq_false (show ¬ a < c by omega)]
    rfl
  · rw [if_neg h1, decide_eq_true (show a < c by omega)]
    by_cases h2 : d ≤ b
    · rw [decide_eq_true h2, decide_eq_false (show ¬ b < d by omega)]
      rfl
    · rw [decide_eq_false h2, decide_eq_true (show b < d by omega)]
      rfl
theorem empty_c {w0 w : World} {L : List Res} (h : SL w0 w L) (a b c d : Int) {r : Bool} (hr : emptyB a b c d = r) : Calls Try.prog 29 #[.agg #[.int .i64 a, .int .i64 b, .int .i64 c, .int .i64 d]] w fun e w' => e = .returned (.bool r) ∧ SL w0 w' L := by
  subst hr
  refine (rect_Empty.calls a b c d _ w (empty_f a b c d)).mono ?_
  rintro e w' ⟨rfl, hb⟩
  exact ⟨rfl, sl_below h hb⟩
theorem an_1 (b : Bits) : Go.bits .andNot .i64 (mskI b) 1 = mskI (setB b 1 false) := by obtain ⟨b1, b2, b3, b4⟩ := b; cases b1 <;> cases b2 <;> cases b3 <;> cases b4 <;> kernel_rfl
theorem or_1 (b : Bits) : Go.bits .or .i64 (mskI (setB b 1 false)) 1 = mskI (setB b 1 true) := by obtain ⟨b1, b2, b3, b4⟩ := b; cases b1 <;> cases b2 <;> cases b3 <;> cases b4 <;> kernel_rfl
theorem ad_11 (b : Bits) : Go.bits .and .i64 (mskI (setB b 1 true)) 1 = 1 := by obtain ⟨b1, b2, b3, b4⟩ := b; cases b1 <;> cases b2 <;> cases b3 <;> cases b4 <;> kernel_rfl
theorem ad_10 (b : Bits) : Go.bits .and .i64 (mskI (setB b 1 false)) 1 = 0 := by obtain ⟨b1, b2, b3, b4⟩ := b; cases b1 <;> cases b2 <;> cases b3 <;> cases b4 <;> kernel_rfl
theorem an_2 (b : Bits) : Go.bits .andNot .i64 (mskI b) 2 = mskI (setB b 2 false) := by obtain ⟨b1, b2, b3, b4⟩ := b; cases b1 <;> cases b2 <;> cases b3 <;> cases b4 <;> kernel_rfl
theorem or_2 (b : Bits) : Go.bits .or .i64 (mskI (setB b 2 false)) 2 = mskI (setB b 2 true) := by obtain ⟨b1, b2, b3, b4⟩ := b; cases b1 <;> cases b2 <;> cases b3 <;> cases b4 <;> kernel_rfl
theorem ad_21 (b : Bits) : Go.bits .and .i64 (mskI (setB b 2 true)) 2 = 2 := by obtain ⟨b1, b2, b3, b4⟩ := b; cases b1 <;> cases b2 <;> cases b3 <;> cases b4 <;> kernel_rfl
theorem ad_20 (b : Bits) : Go.bits .and .i64 (mskI (setB b 2 false)) 2 = 0 := by obtain ⟨b1, b2, b3, b4⟩ := b; cases b1 <;> cases b2 <;> cases b3 <;> cases b4 <;> kernel_rfl
theorem an_4 (b : Bits) : Go.bits .andNot .i64 (mskI b) 4 = mskI (setB b 4 false) := by obtain ⟨b1, b2, b3, b4⟩ := b; cases b1 <;> cases b2 <;> cases b3 <;> cases b4 <;> kernel_rfl
theorem or_4 (b : Bits) : Go.bits .or .i64 (mskI (setB b 4 false)) 4 = mskI (setB b 4 true) := by obtain ⟨b1, b2, b3, b4⟩ := b; cases b1 <;> cases b2 <;> cases b3 <;> cases b4 <;> kernel_rfl
theorem ad_41 (b : Bits) : Go.bits .and .i64 (mskI (setB b 4 true)) 4 = 4 := by obtain ⟨b1, b2, b3, b4⟩ := b; cases b1 <;> cases b2 <;> cases b3 <;> cases b4 <;> kernel_rfl
theorem ad_40 (b : Bits) : Go.bits .and .i64 (mskI (setB b 4 false)) 4 = 0 := by obtain ⟨b1, b2, b3, b4⟩ := b; cases b1 <;> cases b2 <;> cases b3 <;> cases b4 <;> kernel_rfl
theorem an_8 (b : Bits) : Go.bits .andNot .i64 (mskI b) 8 = mskI (setB b 8 false) := by obtain ⟨b1, b2, b3, b4⟩ := b; cases b1 <;> cases b2 <;> cases b3 <;> cases b4 <;> kernel_rfl
theorem or_8 (b : Bits) : Go.bits .or .i64 (mskI (setB b 8 false)) 8 = mskI (setB b 8 true) := by obtain ⟨b1, b2, b3, b4⟩ := b; cases b1 <;> cases b2 <;> cases b3 <;> cases b4 <;> kernel_rfl
theorem ad_81 (b : Bits) : Go.bits .and .i64 (mskI (setB b 8 true)) 8 = 8 := by obtain ⟨b1, b2, b3, b4⟩ := b; cases b1 <;> cases b2 <;> cases b3 <;> cases b4 <;> kernel_rfl
theorem ad_80 (b : Bits) : Go.bits .and .i64 (mskI (setB b 8 false)) 8 = 0 := by obtain ⟨b1, b2, b3, b4⟩ := b; cases b1 <;> cases b2 <;> cases b3 <;> cases b4 <;> kernel_rfl
theorem emp_rng {a b c d : Int} (h : emptyB a b c d = false) : (-16384 ≤ a ∧ a ≤ 16384) ∧ (-16384 ≤ b ∧ b ≤ 16384) ∧ (-16384 ≤ c ∧ c ≤ 16384) ∧ (-16384 ≤ d ∧ d ≤ 16384) ∧ a < c ∧ b < d := by
  unfold emptyB recV at h
  simp only [Bool.not_eq_false', Bool.and_eq_true, decide_eq_true_eq] at h
  omega
def rqC (s : WSt) (k : Int) (on : Bool) : Bool := (setB s.b k on).a || (setB s.b k on).b
def rqE (s : WSt) (k : Int) (on em : Bool) : Int := if k = 1 ∨ k = 2 ∨ k = 4 ∨ k = 8 then (if (rqC s k on && em) = true then 6 else 0) else 2
def rqX (s : WSt) (k : Int) (on : Bool) (x0 x1 : Int) : Int := if rqC s k on = true then x1 - x0 else limI s.lx s.mx s.fx
def rqY (s : WSt) (k : Int) (on : Bool) (y0 y1 : Int) : Int := if rqC s k on = true then y1 - y0 else limI s.ly s.my s.fy
def rqS (s : WSt) (k : Int) (on : Bool) (x0 y0 x1 y1 : Int) : WSt := if rqE s k on (emptyB x0 y0 x1 y1) = 0 then { s with sx := rqX s k on x0 x1, sy := rqY s k on y0 y1, b := setB s.b k on } else s
def rqV (s : WSt) (k : Int) (on : Bool) (x0 y0 x1 y1 : Int) : Value := if rqE s k on (emptyB x0 y0 x1 y1) = 0 then .tuple #[.int .i64 (rqX s k on x0 x1), .int .i64 (rqY s k on y0 y1), .int .i64 (mskI (setB s.b k on)), .int .i64 0] else .tuple #[.int .i64 0, .int .i64 0, .int .i64 0, .int .i64 (rqE s k on (emptyB x0 y0 x1 y1))]
section
variable {w0 w : World} {R : Res}
set_option maxHeartbeats 2000000
theorem req_10 (g : Nat) (s : WSt) (x0 y0 x1 y1 : Int) (hs : SL w0 w [winR g s, R]) : Calls Try.prog 12 #[.pointer (some ⟨g, 0, none⟩), .int .i64 1, .bool false, .agg #[.int .i64 x0, .int .i64 y0, .int .i64 x1, .int .i64 y1]] w fun e w' => e = .returned (rqV s 1 false x0 y0 x1 y1) ∧ SL w0 w' [winR g (rqS s 1 false x0 y0 x1 y1), R] := by
  have HS := Aside0.mk (sl_box hs #[.int .i64 x0, .int .i64 y0, .int .i64 x1, .int .i64 y1] 34)
  clear hs
  obtain ⟨M, hM⟩ : ∃ M, mskI s.b = M := ⟨_, rfl⟩
  obtain ⟨N1, hN1⟩ : ∃ N, mskI (setB s.b 1 false) = N := ⟨_, rfl⟩
  have h1 := an_1 s.b
  rw [hM, hN1] at h1
  have h5 := ad_10 s.b
  rw [hN1] at h5
  have a3 := and3 (setB s.b 1 false)
  rw [hN1] at a3
  obtain ⟨X3, h33⟩ : ∃ X, Go.bits .and .i64 N1 3 = X := ⟨_, rfl⟩
  rw [h33] at a3
  have HN := Aside0.mk (show mskI (setB s.b 1 false) = N1 from hN1)
  have HM := Aside0.mk hM
  clear hM hN1
  obtain ⟨A, hA⟩ : ∃ A, limI s.lx s.mx s.fx = A := ⟨_, rfl⟩
  obtain ⟨B, hB⟩ : ∃ B, limI s.ly s.my s.fy = B := ⟨_, rfl⟩
  have HA := Aside0.mk (And.intro hA hB)
  clear hA hB
  have hk : (1 : Int) = 1 ∨ (1 : Int) = 2 ∨ (1 : Int) = 4 ∨ (1 : Int) = 8 := by decide
  by_cases hc : rqC s 1 false = true
  rotate_left
  · replace a3 : (X3 == 0) = true := a3.trans (by rw [show ((setB s.b 1 false).a || (setB s.b 1 false).b) = false from Bool.eq_false_iff.2 hc]; rfl)
    have a3' : (X3 != 0) = false := by unfold bne; rw [a3]; rfl
    have hE : rqE s 1 false (emptyB x0 y0 x1 y1) = 0 := by unfold rqE; rw [if_pos hk, Bool.eq_false_iff.2 hc]; rfl
    have HE := Aside0.mk (show rqV s 1 false x0 y0 x1 y1 = .tuple #[.int .i64 A, .int .i64 B, .int .i64 N1, .int .i64 0] ∧ rqS s 1 false x0 y0 x1 y1 = { s with sx := A, sy := B, b := setB s.b 1 false } by
      unfold rqV rqS rqX rqY
      rw [if_pos hE, if_pos hE, if_neg hc, if_neg hc, HA.out.1, HA.out.2, HN.out]
      exact ⟨rfl, rfl⟩)
    clear hc hE hk
    go_enter Try.func12, Try.ntmps12
    go_wp2_with (first
    | (go_at_call 25; refine (usable_w (by repeat (with_reducible first | exact HS.out | apply sl_drewN | apply sl_drew)) 0 (by rfl)).mono ?_; rintro e wu ⟨rfl, hs⟩; (try simp only [World.size_alloc] at hs); replace HS := Aside0.mk hs; clear hs)
    | (go_at_call 26; refine (mask_w (by repeat (with_reducible first | exact HS.out | apply sl_drewN | apply sl_drew)) 0 HM.out (by rfl)).mono ?_; rintro e wm ⟨rfl, hs⟩; (try simp only [World.size_alloc] at hs); replace HS := Aside0.mk hs; clear hs; obtain ⟨mb, ho⟩ := sl_open HS.out 0 rfl; have hm8 := c_at ho 0 rfl 8 rfl; have hm9 := c_at ho 0 rfl 9 rfl; clear ho)
    | (go_at_call 28; refine (limited_w (by repeat (with_reducible first | exact HS.out | apply sl_drewN | apply sl_drew)) 0 s.fx s.fy HA.out.1 HA.out.2 (by rfl)).mono ?_; rintro e wl ⟨rfl, hs⟩; (try simp only [World.size_alloc] at hs); replace HS := Aside0.mk hs; clear hs; clear hm8 hm9; have bx0 := c_at HS.out 2 rfl 0 rfl; have bx1 := c_at HS.out 2 rfl 1 rfl; have bx2 := c_at HS.out 2 rfl 2 rfl; have bx3 := c_at HS.out 2 rfl 3 rfl; have bl := blk_lt (sl_blk HS.out 2 rfl))
    | (go_at_call 29; refine (empty_c (sl_box HS.out #[.int .i64 A, .int .i64 B] 23) x0 y0 x1 y1 HX.out).mono ?_; rintro e we ⟨rfl, hs⟩; (try simp only [World.size_alloc] at hs); replace HS := Aside0.mk hs; clear hs; clear bx0 bx1 bx2 bx3 bl; have bl := blk_lt (sl_blk HS.out 2 rfl); have bx0 := c_at HS.out 2 rfl 0 rfl; have bx1 := c_at HS.out 2 rfl 1 rfl; have bx2 := c_at HS.out 2 rfl 2 rfl; have bx3 := c_at HS.out 2 rfl 3 rfl; have wx0 := c_at HS.out 3 rfl 0 rfl; have wx1 := c_at HS.out 3 rfl 1 rfl; have wf0 := f_at HS.out 3 rfl 0; have wf1 := f_at HS.out 3 rfl 1; have wl1 := blk_lt (sl_blk HS.out 3 rfl)))
    have HS2 := sl_box HS.out #[.int .i64 A, .int .i64 B] 23
    obtain ⟨m, ho⟩ := sl_open HS2 0 rfl
    have HO := Aside0.mk ho
    clear ho HS2
    refine start_ (n := 11) (S := fun w' => w'.cell? ⟨g, 1, none⟩ = some (.map (some m))) (ds := [10]) #[false, false, false, false, false, false, false, false, false, false, false] (by kernel_rfl) rfl rfl ((c_at (sl_drew HO.out) 0 rfl 1 rfl)) (fun hHeld => ?_)
    refine pure_ (i := 0) (N := some 61) (v := ?_) (a' := ?_) #[true, false, false, false, false, false, false, false, false, false, false] rfl rfl (by kernel_rfl) (fun _ _ _ h => h) (Or.inl ⟨by rfl, ?_⟩) ?_ ?_
    rotate_left
    · intro w'
      go_simp
      with_reducible rfl
    rotate_left
    · simp only [Act.put, List.setIfInBounds_toArray, List.set_cons_zero, List.set_cons_succ, i64_w, i32_w, IntKind.wrap_u32, IntKind.wrap_u8, IntKind.wrap_u16]
      rfl
    refine pure_ (i := 1) (N := some 62) (v := ?_) (a' := ?_) #[true, true, false, false, false, false, false, false, false, false, false] rfl rfl (by kernel_rfl) (fun _ _ _ h => h) (Or.inl ⟨by rfl, ?_⟩) ?_ ?_
    rotate_left
    · intro w'
      go_simp
      with_reducible rfl
    rotate_left
    · simp only [Act.put, List.setIfInBounds_toArray, List.set_cons_zero, List.set_cons_succ, i64_w, i32_w, IntKind.wrap_u32, IntKind.wrap_u8, IntKind.wrap_u16]
      rfl
    refine pure_ (i := 2) (N := some 63) (v := ?_) (a' := ?_) #[true, true, true, false, false, false, false, false, false, false, false] rfl rfl (by kernel_rfl) (fun _ _ _ h => h) (Or.inl ⟨by rfl, ?_⟩) ?_ ?_
    rotate_left
    · intro w'
      go_simp
      with_reducible rfl
    rotate_left
    · simp only [Act.put, List.setIfInBounds_toArray, List.set_cons_zero, List.set_cons_succ, i64_w, i32_w, IntKind.wrap_u32, IntKind.wrap_u8, IntKind.wrap_u16]
      rfl
    refine pure_ (i := 4) (N := some 65) (v := ?_) (a' := ?_) #[true, true, true, false, true, false, false, false, false, false, false] rfl rfl (by kernel_rfl) (fun _ _ _ h => h) (Or.inl ⟨by rfl, ?_⟩) ?_ ?_
    rotate_left
    · intro w'
      go_simp
      with_reducible rfl
    rotate_left
    · simp only [Act.put, List.setIfInBounds_toArray, List.set_cons_zero, List.set_cons_succ, i64_w, i32_w, IntKind.wrap_u32, IntKind.wrap_u8, IntKind.wrap_u16]
      rfl
    refine pure_ (i := 5) (N := some 66) (v := ?_) (a' := ?_) #[true, true, true, false, true, true, false, false, false, false, false] rfl rfl (by kernel_rfl) (fun _ _ _ h => h) (Or.inl ⟨by rfl, ?_⟩) ?_ ?_
    rotate_left
    · intro w'
      go_simp
      with_reducible rfl
    rotate_left
    · simp only [Act.put, List.setIfInBounds_toArray, List.set_cons_zero, List.set_cons_succ, i64_w, i32_w, IntKind.wrap_u32, IntKind.wrap_u8, IntKind.wrap_u16]
      rfl
    refine pure_ (i := 6) (N := some 67) (v := ?_) (a' := ?_) #[true, true, true, false, true, true, true, false, false, false, false] rfl rfl (by kernel_rfl) (fun _ _ _ h => h) (Or.inl ⟨by rfl, ?_⟩) ?_ ?_
    rotate_left
    · intro w'
      go_simp
      with_reducible rfl
    rotate_left
    · simp only [Act.put, List.setIfInBounds_toArray, List.set_cons_zero, List.set_cons_succ, i64_w, i32_w, IntKind.wrap_u32, IntKind.wrap_u8, IntKind.wrap_u16]
      rfl
    refine pure_ (i := 7) (N := some 68) (v := ?_) (a' := ?_) #[true, true, true, false, true, true, true, true, false, false, false] rfl rfl (by kernel_rfl) (fun _ _ _ h => h) (Or.inl ⟨by rfl, ?_⟩) ?_ ?_
    rotate_left
    · intro w'
      go_simp
      with_reducible rfl
    rotate_left
    · simp only [Act.put, List.setIfInBounds_toArray, List.set_cons_zero, List.set_cons_succ, i64_w, i32_w, IntKind.wrap_u32, IntKind.wrap_u8, IntKind.wrap_u16]
      rfl
    refine pure_ (i := 8) (N := some 69) (v := ?_) (a' := ?_) #[true, true, true, false, true, true, true, true, true, false, false] rfl rfl (by kernel_rfl) (fun _ _ _ h => h) (Or.inl ⟨by rfl, ?_⟩) ?_ ?_
    rotate_left
    · intro w'
      go_simp
      with_reducible rfl
    rotate_left
    · simp only [Act.put, List.setIfInBounds_toArray, List.set_cons_zero, List.set_cons_succ, i64_w, i32_w, IntKind.wrap_u32, IntKind.wrap_u8, IntKind.wrap_u16]
      rfl
    refine pure_ (i := 9) (N := some 70) (v := ?_) (a' := ?_) #[true, true, true, false, true, true, true, true, true, true, false] rfl rfl (by kernel_rfl) (fun _ _ _ h => h) (Or.inl ⟨by rfl, ?_⟩) ?_ ?_
    rotate_left
    · intro w'
      go_simp
      with_reducible rfl
    rotate_left
    · simp only [Act.put, List.setIfInBounds_toArray, List.set_cons_zero, List.set_cons_succ, i64_w, i32_w, IntKind.wrap_u32, IntKind.wrap_u8, IntKind.wrap_u16]
      rfl
    refine take_ (i := 3) (N := some 64) (v := ?_) (a' := ?_) #[true, true, true, true, true, true, true, true, true, true, false] rfl rfl (by kernel_rfl) (fun _ _ _ h => h) (Or.inl ⟨by rfl, ?_⟩) hHeld ?_ ?_
    rotate_left
    · intro w' s0
      go_simp
      with_reducible rfl
    rotate_left
    · simp only [Act.put, List.setIfInBounds_toArray, List.set_cons_zero, List.set_cons_succ, i64_w, i32_w, IntKind.wrap_u32, IntKind.wrap_u8, IntKind.wrap_u16]
      rfl
    refine last_ (i := 10) (N := none) #[true, true, true, true, true, true, true, true, true, true, true] rfl rfl (by kernel_rfl) (by decide) (fun K hK => ?_)
    refine sl_bput_step (by rfl) rfl (sl_drew HO.out) 4 rfl _ _ _ rfl rfl 1 (by decide) rfl false (congrArg (Value.int .i64) (show wrap64 0 = bi false by unfold wrap64 bi; decide)) ?_
    intro w5 hs5
    have p0 := c_at hs5 3 rfl 0 rfl
    have p1 := c_at hs5 3 rfl 1 rfl
    have q0 := c_at hs5 0 rfl 10 rfl
    have q1 := c_at hs5 0 rfl 11 rfl
    have f0 := f_at hs5 0 rfl 10
    have f1 := f_at hs5 0 rfl 11
    have hl1 := blk_lt (sl_blk hs5 0 rfl)
    refine hK.out _ _ ?_
    clear hK K
    refine done_ (by kernel_rfl) ?_
    go_wp2_with (fail)
    have HO3 := Aside0.mk (sl_put (sl_put hs5 0 rfl 10 (.int .i64 A)) 0 rfl 11 (.int .i64 B))
    refine start_ (n := 9) (S := fun w' => w'.cell? ⟨wl.heap.size, 0, none⟩ = some (.int .i64 A) ∧ w'.cell? ⟨wl.heap.size, 1, none⟩ = some (.int .i64 B)) (ds := []) #[false, false, false, false, false, false, false, false, false] (by kernel_rfl) rfl rfl ⟨(c_at (sl_drew HO3.out) 3 rfl 0 rfl), (c_at (sl_drew HO3.out) 3 rfl 1 rfl)⟩ (fun hHeld => ?_)
    refine pure_ (i := 0) (N := some 75) (v := ?_) (a' := ?_) #[true, false, false, false, false, false, false, false, false] rfl rfl (by kernel_rfl) (fun _ _ _ h => h) (Or.inl ⟨by rfl, ?_⟩) ?_ ?_
    rotate_left
    · intro w'
      go_simp
      with_reducible rfl
    rotate_left
    · simp only [Act.put, List.setIfInBounds_toArray, List.set_cons_zero, List.set_cons_succ, i64_w, i32_w, IntKind.wrap_u32, IntKind.wrap_u8, IntKind.wrap_u16]
      rfl
    refine pure_ (i := 2) (N := some 77) (v := ?_) (a' := ?_) #[true, false, true, false, false, false, false, false, false] rfl rfl (by kernel_rfl) (fun _ _ _ h => h) (Or.inl ⟨by rfl, ?_⟩) ?_ ?_
    rotate_left
    · intro w'
      go_simp
      with_reducible rfl
    rotate_left
    · simp only [Act.put, List.setIfInBounds_toArray, List.set_cons_zero, List.set_cons_succ, i64_w, i32_w, IntKind.wrap_u32, IntKind.wrap_u8, IntKind.wrap_u16]
      rfl
    refine pure_ (i := 4) (N := some 79) (v := ?_) (a' := ?_) #[true, false, true, false, true, false, false, false, false] rfl rfl (by kernel_rfl) (fun _ _ _ h => h) (Or.inl ⟨by rfl, ?_⟩) ?_ ?_
    rotate_left
    · intro w'
      go_simp
      with_reducible rfl
    rotate_left
    · simp only [Act.put, List.setIfInBounds_toArray, List.set_cons_zero, List.set_cons_succ, i64_w, i32_w, IntKind.wrap_u32, IntKind.wrap_u8, IntKind.wrap_u16]
      rfl
    refine take_ (i := 1) (N := some 76) (v := ?_) (a' := ?_) #[true, true, true, false, true, false, false, false, false] rfl rfl (by kernel_rfl) (fun _ _ _ h => h) (Or.inl ⟨by rfl, ?_⟩) hHeld ?_ ?_
    rotate_left
    · rintro w' ⟨s0, s1⟩
      go_simp
      with_reducible rfl
    rotate_left
    · simp only [Act.put, List.setIfInBounds_toArray, List.set_cons_zero, List.set_cons_succ, i64_w, i32_w, IntKind.wrap_u32, IntKind.wrap_u8, IntKind.wrap_u16]
      rfl
    refine pure_ (i := 5) (N := some 8) (v := ?_) (a' := ?_) #[true, true, true, false, true, true, false, false, false] rfl rfl (by kernel_rfl) (fun _ _ _ h => h) (Or.inl ⟨by rfl, ?_⟩) ?_ ?_
    rotate_left
    · intro w'
      go_simp
      with_reducible rfl
    rotate_left
    · simp only [Act.put, List.setIfInBounds_toArray, List.set_cons_zero, List.set_cons_succ, i64_w, i32_w, IntKind.wrap_u32, IntKind.wrap_u8, IntKind.wrap_u16]
      rfl
    refine take_ (i := 3) (N := some 78) (v := ?_) (a' := ?_) #[true, true, true, true, true, true, false, false, false] rfl rfl (by kernel_rfl) (fun _ _ _ h => h) (Or.inl ⟨by rfl, ?_⟩) hHeld ?_ ?_
    rotate_left
    · rintro w' ⟨s0, s1⟩
      go_simp
      with_reducible rfl
    rotate_left
    · simp only [Act.put, List.setIfInBounds_toArray, List.set_cons_zero, List.set_cons_succ, i64_w, i32_w, IntKind.wrap_u32, IntKind.wrap_u8, IntKind.wrap_u16]
      rfl
    refine pure_ (i := 6) (N := some 9) (v := ?_) (a' := ?_) #[true, true, true, true, true, true, true, false, false] rfl rfl (by kernel_rfl) (fun _ _ _ h => h) (Or.inl ⟨by rfl, ?_⟩) ?_ ?_
    rotate_left
    · intro w'
      go_simp
      with_reducible rfl
    rotate_left
    · simp only [Act.put, List.setIfInBounds_toArray, List.set_cons_zero, List.set_cons_succ, i64_w, i32_w, IntKind.wrap_u32, IntKind.wrap_u8, IntKind.wrap_u16]
      rfl
    refine pure_ (i := 7) (N := some 10) (v := ?_) (a' := ?_) #[true, true, true, true, true, true, true, true, false] rfl rfl (by kernel_rfl) (fun _ _ _ h => h) (Or.inl ⟨by rfl, ?_⟩) ?_ ?_
    rotate_left
    · intro w'
      go_simp
      with_reducible rfl
    rotate_left
    · simp only [Act.put, List.setIfInBounds_toArray, List.set_cons_zero, List.set_cons_succ, i64_w, i32_w, IntKind.wrap_u32, IntKind.wrap_u8, IntKind.wrap_u16]
      rfl
    refine pure_ (i := 8) (N := some 11) (v := ?_) (a' := ?_) #[true, true, true, true, true, true, true, true, true] rfl rfl (by kernel_rfl) (fun _ _ _ h => h) (Or.inl ⟨by rfl, ?_⟩) ?_ ?_
    rotate_left
    · intro w'
      go_simp
      with_reducible rfl
    rotate_left
    · simp only [Act.put, List.setIfInBounds_toArray, List.set_cons_zero, List.set_cons_succ, i64_w, i32_w, IntKind.wrap_u32, IntKind.wrap_u8, IntKind.wrap_u16]
      rfl
    refine done_ (by kernel_rfl) ?_
    go_wp2_with (fail)
    refine bodyPost_ret (results_list (rs := [.tmp 8, .tmp 9, .tmp 10, .tmp 11]) rfl (by simp) (.tmp (.tmp (.tmp (.tmp .nil))))) rfl ?_
    rw [HE.out.1, HE.out.2]
    exact ⟨rfl, win_close (m := m) { s with sx := A, sy := B, b := setB s.b 1 false } (sl_pick (sl_drew HO3.out) [0, 1, 4] (by decide) rfl)⟩
  · replace a3 : (X3 == 0) = false := a3.trans (by rw [show ((setB s.b 1 false).a || (setB s.b 1 false).b) = true from hc]; rfl)
    have a3' : (X3 != 0) = true := by unfold bne; rw [a3]; rfl
    obtain ⟨em, hem⟩ : ∃ em, emptyB x0 y0 x1 y1 = em := ⟨_, rfl⟩
    have HX := Aside0.mk hem
    cases em
    rotate_left
    · have hE : rqE s 1 false (emptyB x0 y0 x1 y1) = 6 := by unfold rqE; rw [if_pos hk, hc, hem]; rfl
      have HE := Aside0.mk (show rqV s 1 false x0 y0 x1 y1 = .tuple #[.int .i64 0, .int .i64 0, .int .i64 0, .int .i64 6] ∧ rqS s 1 false x0 y0 x1 y1 = s by
        unfold rqV rqS
        rw [hE]
        exact ⟨rfl, rfl⟩)
      clear hc hE hk hem
      go_enter Try.func12, Try.ntmps12
      go_wp2_with (first
    | (go_at_call 25; refine (usable_w (by repeat (with_reducible first | exact HS.out | apply sl_drewN | apply sl_drew)) 0 (by rfl)).mono ?_; rintro e wu ⟨rfl, hs⟩; (try simp only [World.size_alloc] at hs); replace HS := Aside0.mk hs; clear hs)
    | (go_at_call 26; refine (mask_w (by repeat (with_reducible first | exact HS.out | apply sl_drewN | apply sl_drew)) 0 HM.out (by rfl)).mono ?_; rintro e wm ⟨rfl, hs⟩; (try simp only [World.size_alloc] at hs); replace HS := Aside0.mk hs; clear hs; obtain ⟨mb, ho⟩ := sl_open HS.out 0 rfl; have hm8 := c_at ho 0 rfl 8 rfl; have hm9 := c_at ho 0 rfl 9 rfl; clear ho)
    | (go_at_call 28; refine (limited_w (by repeat (with_reducible first | exact HS.out | apply sl_drewN | apply sl_drew)) 0 s.fx s.fy HA.out.1 HA.out.2 (by rfl)).mono ?_; rintro e wl ⟨rfl, hs⟩; (try simp only [World.size_alloc] at hs); replace HS := Aside0.mk hs; clear hs; clear hm8 hm9; have bx0 := c_at HS.out 2 rfl 0 rfl; have bx1 := c_at HS.out 2 rfl 1 rfl; have bx2 := c_at HS.out 2 rfl 2 rfl; have bx3 := c_at HS.out 2 rfl 3 rfl; have bl := blk_lt (sl_blk HS.out 2 rfl))
    | (go_at_call 29; refine (empty_c (sl_box HS.out #[.int .i64 A, .int .i64 B] 23) x0 y0 x1 y1 HX.out).mono ?_; rintro e we ⟨rfl, hs⟩; (try simp only [World.size_alloc] at hs); replace HS := Aside0.mk hs; clear hs; clear bx0 bx1 bx2 bx3 bl; have bl := blk_lt (sl_blk HS.out 2 rfl); have bx0 := c_at HS.out 2 rfl 0 rfl; have bx1 := c_at HS.out 2 rfl 1 rfl; have bx2 := c_at HS.out 2 rfl 2 rfl; have bx3 := c_at HS.out 2 rfl 3 rfl; have wx0 := c_at HS.out 3 rfl 0 rfl; have wx1 := c_at HS.out 3 rfl 1 rfl; have wf0 := f_at HS.out 3 rfl 0; have wf1 := f_at HS.out 3 rfl 1; have wl1 := blk_lt (sl_blk HS.out 3 rfl)))
      refine bodyPost_ret (results_list (rs := [.tmp 8, .tmp 9, .tmp 10, .tmp 11]) rfl (by simp) (.tmp (.tmp (.tmp (.tmp .nil))))) rfl ?_
      rw [HE.out.1, HE.out.2]
      exact ⟨rfl, sl_take HS.out 2⟩
    obtain ⟨DX, hDX⟩ : ∃ D, x1 - x0 = D := ⟨_, rfl⟩
    obtain ⟨DY, hDY⟩ : ∃ D, y1 - y0 = D := ⟨_, rfl⟩
    have hr := emp_rng hem
    have hd1 : wrap64 (x1 - x0) = DX := by rw [← hDX]; unfold wrap64; omega
    have hd2 : wrap64 (y1 - y0) = DY := by rw [← hDY]; unfold wrap64; omega
    have hE : rqE s 1 false (emptyB x0 y0 x1 y1) = 0 := by unfold rqE; rw [if_pos hk, hc, hem]; rfl
    have HE := Aside0.mk (show rqV s 1 false x0 y0 x1 y1 = .tuple #[.int .i64 DX, .int .i64 DY, .int .i64 N1, .int .i64 0] ∧ rqS s 1 false x0 y0 x1 y1 = { s with sx := DX, sy := DY, b := setB s.b 1 false } by
      unfold rqV rqS rqX rqY
      rw [if_pos hE, if_pos hE, if_pos hc, if_pos hc, hDX, hDY, HN.out]
      exact ⟨rfl, rfl⟩)
    clear hc hE hk hem hr hDX hDY
    go_enter Try.func12, Try.ntmps12
    go_wp2_with (first
    | (go_at_call 25; refine (usable_w (by repeat (with_reducible first | exact HS.out | apply sl_drewN | apply sl_drew)) 0 (by rfl)).mono ?_; rintro e wu ⟨rfl, hs⟩; (try simp only [World.size_alloc] at hs); replace HS := Aside0.mk hs; clear hs)
    | (go_at_call 26; refine (mask_w (by repeat (with_reducible first | exact HS.out | apply sl_drewN | apply sl_drew)) 0 HM.out (by rfl)).mono ?_; rintro e wm ⟨rfl, hs⟩; (try simp only [World.size_alloc] at hs); replace HS := Aside0.mk hs; clear hs; obtain ⟨mb, ho⟩ := sl_open HS.out 0 rfl; have hm8 := c_at ho 0 rfl 8 rfl; have hm9 := c_at ho 0 rfl 9 rfl; clear ho)
    | (go_at_call 28; refine (limited_w (by repeat (with_reducible first | exact HS.out | apply sl_drewN | apply sl_drew)) 0 s.fx s.fy HA.out.1 HA.out.2 (by rfl)).mono ?_; rintro e wl ⟨rfl, hs⟩; (try simp only [World.size_alloc] at hs); replace HS := Aside0.mk hs; clear hs; clear hm8 hm9; have bx0 := c_at HS.out 2 rfl 0 rfl; have bx1 := c_at HS.out 2 rfl 1 rfl; have bx2 := c_at HS.out 2 rfl 2 rfl; have bx3 := c_at HS.out 2 rfl 3 rfl; have bl := blk_lt (sl_blk HS.out 2 rfl))
    | (go_at_call 29; refine (empty_c (sl_box HS.out #[.int .i64 A, .int .i64 B] 23) x0 y0 x1 y1 HX.out).mono ?_; rintro e we ⟨rfl, hs⟩; (try simp only [World.size_alloc] at hs); replace HS := Aside0.mk hs; clear hs; clear bx0 bx1 bx2 bx3 bl; have bl := blk_lt (sl_blk HS.out 2 rfl); have bx0 := c_at HS.out 2 rfl 0 rfl; have bx1 := c_at HS.out 2 rfl 1 rfl; have bx2 := c_at HS.out 2 rfl 2 rfl; have bx3 := c_at HS.out 2 rfl 3 rfl; have wx0 := c_at HS.out 3 rfl 0 rfl; have wx1 := c_at HS.out 3 rfl 1 rfl; have wf0 := f_at HS.out 3 rfl 0; have wf1 := f_at HS.out 3 rfl 1; have wl1 := blk_lt (sl_blk HS.out 3 rfl)))
    have HS2 := sl_put (sl_put HS.out 3 rfl 0 (.int .i64 DX)) 3 rfl 1 (.int .i64 DY)
    obtain ⟨m, ho⟩ := sl_open HS2 0 rfl
    have HO := Aside0.mk ho
    clear ho HS2
    refine start_ (n := 11) (S := fun w' => w'.cell? ⟨g, 1, none⟩ = some (.map (some m))) (ds := [10]) #[false, false, false, false, false, false, false, false, false, false, false] (by kernel_rfl) rfl rfl ((c_at (sl_drew HO.out) 0 rfl 1 rfl)) (fun hHeld => ?_)
    refine pure_ (i := 0) (N := some 61) (v := ?_) (a' := ?_) #[true, false, false, false, false, false, false, false, false, false, false] rfl rfl (by kernel_rfl) (fun _ _ _ h => h) (Or.inl ⟨by rfl, ?_⟩) ?_ ?_
    rotate_left
    · intro w'
      go_simp
      with_reducible rfl
    rotate_left
    · simp only [Act.put, List.setIfInBounds_toArray, List.set_cons_zero, List.set_cons_succ, i64_w, i32_w, IntKind.wrap_u32, IntKind.wrap_u8, IntKind.wrap_u16]
      rfl
    refine pure_ (i := 1) (N := some 62) (v := ?_) (a' := ?_) #[true, true, false, false, false, false, false, false, false, false, false] rfl rfl (by kernel_rfl) (fun _ _ _ h => h) (Or.inl ⟨by rfl, ?_⟩) ?_ ?_
    rotate_left
    · intro w'
      go_simp
      with_reducible rfl
    rotate_left
    · simp only [Act.put, List.setIfInBounds_toArray, List.set_cons_zero, List.set_cons_succ, i64_w, i32_w, IntKind.wrap_u32, IntKind.wrap_u8, IntKind.wrap_u16]
      rfl
    refine pure_ (i := 2) (N := some 63) (v := ?_) (a' := ?_) #[true, true, true, false, false, false, false, false, false, false, false] rfl rfl (by kernel_rfl) (fun _ _ _ h => h) (Or.inl ⟨by rfl, ?_⟩) ?_ ?_
    rotate_left
    · intro w'
      go_simp
      with_reducible rfl
    rotate_left
    · simp only [Act.put, List.setIfInBounds_toArray, List.set_cons_zero, List.set_cons_succ, i64_w, i32_w, IntKind.wrap_u32, IntKind.wrap_u8, IntKind.wrap_u16]
      rfl
    refine pure_ (i := 4) (N := some 65) (v := ?_) (a' := ?_) #[true, true, true, false, true, false, false, false, false, false, false] rfl rfl (by kernel_rfl) (fun _ _ _ h => h) (Or.inl ⟨by rfl, ?_⟩) ?_ ?_
    rotate_left
    · intro w'
      go_simp
      with_reducible rfl
    rotate_left
    · simp only [Act.put, List.setIfInBounds_toArray, List.set_cons_zero, List.set_cons_succ, i64_w, i32_w, IntKind.wrap_u32, IntKind.wrap_u8, IntKind.wrap_u16]
      rfl
    refine pure_ (i := 5) (N := some 66) (v := ?_) (a' := ?_) #[true, true, true, false, true, true, false, false, false, false, false] rfl rfl (by kernel_rfl) (fun _ _ _ h => h) (Or.inl ⟨by rfl, ?_⟩) ?_ ?_
    rotate_left
    · intro w'
      go_simp
      with_reducible rfl
    rotate_left
    · simp only [Act.put, List.setIfInBounds_toArray, List.set_cons_zero, List.set_cons_succ, i64_w, i32_w, IntKind.wrap_u32, IntKind.wrap_u8, IntKind.wrap_u16]
      rfl
    refine pure_ (i := 6) (N := some 67) (v := ?_) (a' := ?_) #[true, true, true, false, true, true, true, false, false, false, false] rfl rfl (by kernel_rfl) (fun _ _ _ h => h) (Or.inl ⟨by rfl, ?_⟩) ?_ ?_
    rotate_left
    · intro w'
      go_simp
      with_reducible rfl
    rotate_left
    · simp only [Act.put, List.setIfInBounds_toArray, List.set_cons_zero, List.set_cons_succ, i64_w, i32_w, IntKind.wrap_u32, IntKind.wrap_u8, IntKind.wrap_u16]
      rfl
    refine pure_ (i := 7) (N := some 68) (v := ?_) (a' := ?_) #[true, true, true, false, true, true, true, true, false, false, false] rfl rfl (by kernel_rfl) (fun _ _ _ h => h) (Or.inl ⟨by rfl, ?_⟩) ?_ ?_
    rotate_left
    · intro w'
      go_simp
      with_reducible rfl
    rotate_left
    · simp only [Act.put, List.setIfInBounds_toArray, List.set_cons_zero, List.set_cons_succ, i64_w, i32_w, IntKind.wrap_u32, IntKind.wrap_u8, IntKind.wrap_u16]
      rfl
    refine pure_ (i := 8) (N := some 69) (v := ?_) (a' := ?_) #[true, true, true, false, true, true, true, true, true, false, false] rfl rfl (by kernel_rfl) (fun _ _ _ h => h) (Or.inl ⟨by rfl, ?_⟩) ?_ ?_
    rotate_left
    · intro w'
      go_simp
      with_reducible rfl
    rotate_left
    · simp only [Act.put, List.setIfInBounds_toArray, List.set_cons_zero, List.set_cons_succ, i64_w, i32_w, IntKind.wrap_u32, IntKind.wrap_u8, IntKind.wrap_u16]
      rfl
    refine pure_ (i := 9) (N := some 70) (v := ?_) (a' := ?_) #[true, true, true, false, true, true, true, true, true, true, false] rfl rfl (by kernel_rfl) (fun _ _ _ h => h) (Or.inl ⟨by rfl, ?_⟩) ?_ ?_
    rotate_left
    · intro w'
      go_simp
      with_reducible rfl
    rotate_left
    · simp only [Act.put, List.setIfInBounds_toArray, List.set_cons_zero, List.set_cons_succ, i64_w, i32_w, IntKind.wrap_u32, IntKind.wrap_u8, IntKind.wrap_u16]
      rfl
    refine take_ (i := 3) (N := some 64) (v := ?_) (a' := ?_) #[true, true, true, true, true, true, true, true, true, true, false] rfl rfl (by kernel_rfl) (fun _ _ _ h => h) (Or.inl ⟨by rfl, ?_⟩) hHeld ?_ ?_
    rotate_left
    · intro w' s0
      go_simp
      with_reducible rfl
    rotate_left
    · simp only [Act.put, List.setIfInBounds_toArray, List.set_cons_zero, List.set_cons_succ, i64_w, i32_w, IntKind.wrap_u32, IntKind.wrap_u8, IntKind.wrap_u16]
      rfl
    refine last_ (i := 10) (N := none) #[true, true, true, true, true, true, true, true, true, true, true] rfl rfl (by kernel_rfl) (by decide) (fun K hK => ?_)
    refine sl_bput_step (by rfl) rfl (sl_drew HO.out) 4 rfl _ _ _ rfl rfl 1 (by decide) rfl false (congrArg (Value.int .i64) (show wrap64 0 = bi false by unfold wrap64 bi; decide)) ?_
    intro w5 hs5
    have p0 := c_at hs5 3 rfl 0 rfl
    have p1 := c_at hs5 3 rfl 1 rfl
    have q0 := c_at hs5 0 rfl 10 rfl
    have q1 := c_at hs5 0 rfl 11 rfl
    have f0 := f_at hs5 0 rfl 10
    have f1 := f_at hs5 0 rfl 11
    have hl1 := blk_lt (sl_blk hs5 0 rfl)
    refine hK.out _ _ ?_
    clear hK K
    refine done_ (by kernel_rfl) ?_
    go_wp2_with (fail)
    have HO3 := Aside0.mk (sl_put (sl_put hs5 0 rfl 10 (.int .i64 DX)) 0 rfl 11 (.int .i64 DY))
    refine start_ (n := 9) (S := fun w' => w'.cell? ⟨wl.heap.size, 0, none⟩ = some (.int .i64 DX) ∧ w'.cell? ⟨wl.heap.size, 1, none⟩ = some (.int .i64 DY)) (ds := []) #[false, false, false, false, false, false, false, false, false] (by kernel_rfl) rfl rfl ⟨(c_at (sl_drew HO3.out) 3 rfl 0 rfl), (c_at (sl_drew HO3.out) 3 rfl 1 rfl)⟩ (fun hHeld => ?_)
    refine pure_ (i := 0) (N := some 75) (v := ?_) (a' := ?_) #[true, false, false, false, false, false, false, false, false] rfl rfl (by kernel_rfl) (fun _ _ _ h => h) (Or.inl ⟨by rfl, ?_⟩) ?_ ?_
    rotate_left
    · intro w'
      go_simp
      with_reducible rfl
    rotate_left
    · simp only [Act.put, List.setIfInBounds_toArray, List.set_cons_zero, List.set_cons_succ, i64_w, i32_w, IntKind.wrap_u32, IntKind.wrap_u8, IntKind.wrap_u16]
      rfl
    refine pure_ (i := 2) (N := some 77) (v := ?_) (a' := ?_) #[true, false, true, false, false, false, false, false, false] rfl rfl (by kernel_rfl) (fun _ _ _ h => h) (Or.inl ⟨by rfl, ?_⟩) ?_ ?_
    rotate_left
    · intro w'
      go_simp
      with_reducible rfl
    rotate_left
    · simp only [Act.put, List.setIfInBounds_toArray, List.set_cons_zero, List.set_cons_succ, i64_w, i32_w, IntKind.wrap_u32, IntKind.wrap_u8, IntKind.wrap_u16]
      rfl
    refine pure_ (i := 4) (N := some 79) (v := ?_) (a' := ?_) #[true, false, true, false, true, false, false, false, false] rfl rfl (by kernel_rfl) (fun _ _ _ h => h) (Or.inl ⟨by rfl, ?_⟩) ?_ ?_
    rotate_left
    · intro w'
      go_simp
      with_reducible rfl
    rotate_left
    · simp only [Act.put, List.setIfInBounds_toArray, List.set_cons_zero, List.set_cons_succ, i64_w, i32_w, IntKind.wrap_u32, IntKind.wrap_u8, IntKind.wrap_u16]
      rfl
    refine take_ (i := 1) (N := some 76) (v := ?_) (a' := ?_) #[true, true, true, false, true, false, false, false, false] rfl rfl (by kernel_rfl) (fun _ _ _ h => h) (Or.inl ⟨by rfl, ?_⟩) hHeld ?_ ?_
    rotate_left
    · rintro w' ⟨s0, s1⟩
      go_simp
      with_reducible rfl
    rotate_left
    · simp only [Act.put, List.setIfInBounds_toArray, List.set_cons_zero, List.set_cons_succ, i64_w, i32_w, IntKind.wrap_u32, IntKind.wrap_u8, IntKind.wrap_u16]
      rfl
    refine pure_ (i := 5) (N := some 8) (v := ?_) (a' := ?_) #[true, true, true, false, true, true, false, false, false] rfl rfl (by kernel_rfl) (fun _ _ _ h => h) (Or.inl ⟨by rfl, ?_⟩) ?_ ?_
    rotate_left
    · intro w'
      go_simp
      with_reducible rfl
    rotate_left
    · simp only [Act.put, List.setIfInBounds_toArray, List.set_cons_zero, List.set_cons_succ, i64_w, i32_w, IntKind.wrap_u32, IntKind.wrap_u8, IntKind.wrap_u16]
      rfl
    refine take_ (i := 3) (N := some 78) (v := ?_) (a' := ?_) #[true, true, true, true, true, true, false, false, false] rfl rfl (by kernel_rfl) (fun _ _ _ h => h) (Or.inl ⟨by rfl, ?_⟩) hHeld ?_ ?_
    rotate_left
    · rintro w' ⟨s0, s1⟩
      go_simp
      with_reducible rfl
    rotate_left
    · simp only [Act.put, List.setIfInBounds_toArray, List.set_cons_zero, List.set_cons_succ, i64_w, i32_w, IntKind.wrap_u32, IntKind.wrap_u8, IntKind.wrap_u16]
      rfl
    refine pure_ (i := 6) (N := some 9) (v := ?_) (a' := ?_) #[true, true, true, true, true, true, true, false, false] rfl rfl (by kernel_rfl) (fun _ _ _ h => h) (Or.inl ⟨by rfl, ?_⟩) ?_ ?_
    rotate_left
    · intro w'
      go_simp
      with_reducible rfl
    rotate_left
    · simp only [Act.put, List.setIfInBounds_toArray, List.set_cons_zero, List.set_cons_succ, i64_w, i32_w, IntKind.wrap_u32, IntKind.wrap_u8, IntKind.wrap_u16]
      rfl
    refine pure_ (i := 7) (N := some 10) (v := ?_) (a' := ?_) #[true, true, true, true, true, true, true, true, false] rfl rfl (by kernel_rfl) (fun _ _ _ h => h) (Or.inl ⟨by rfl, ?_⟩) ?_ ?_
    rotate_left
    · intro w'
      go_simp
      with_reducible rfl
    rotate_left
    · simp only [Act.put, List.setIfInBounds_toArray, List.set_cons_zero, List.set_cons_succ, i64_w, i32_w, IntKind.wrap_u32, IntKind.wrap_u8, IntKind.wrap_u16]
      rfl
    refine pure_ (i := 8) (N := some 11) (v := ?_) (a' := ?_) #[true, true, true, true, true, true, true, true, true] rfl rfl (by kernel_rfl) (fun _ _ _ h => h) (Or.inl ⟨by rfl, ?_⟩) ?_ ?_
    rotate_left
    · intro w'
      go_simp
      with_reducible rfl
    rotate_left
    · simp only [Act.put, List.setIfInBounds_toArray, List.set_cons_zero, List.set_cons_succ, i64_w, i32_w, IntKind.wrap_u32, IntKind.wrap_u8, IntKind.wrap_u16]
      rfl
    refine done_ (by kernel_rfl) ?_
    go_wp2_with (fail)
    refine bodyPost_ret (results_list (rs := [.tmp 8, .tmp 9, .tmp 10, .tmp 11]) rfl (by simp) (.tmp (.tmp (.tmp (.tmp .nil))))) rfl ?_
    rw [HE.out.1, HE.out.2]
    exact ⟨rfl, win_close (m := m) { s with sx := DX, sy := DY, b := setB s.b 1 false } (sl_pick (sl_drew HO3.out) [0, 1, 4] (by decide) rfl)⟩
theorem req_11 (g : Nat) (s : WSt) (x0 y0 x1 y1 : Int) (hs : SL w0 w [winR g s, R]) : Calls Try.prog 12 #[.pointer (some ⟨g, 0, none⟩), .int .i64 1, .bool true, .agg #[.int .i64 x0, .int .i64 y0, .int .i64 x1, .int .i64 y1]] w fun e w' => e = .returned (rqV s 1 true x0 y0 x1 y1) ∧ SL w0 w' [winR g (rqS s 1 true x0 y0 x1 y1), R] := by
  have HS := Aside0.mk (sl_box hs #[.int .i64 x0, .int .i64 y0, .int .i64 x1, .int .i64 y1] 34)
  clear hs
  obtain ⟨M, hM⟩ : ∃ M, mskI s.b = M := ⟨_, rfl⟩
  obtain ⟨N1, hN1⟩ : ∃ N, mskI (setB s.b 1 false) = N := ⟨_, rfl⟩
  have h1 := an_1 s.b
  rw [hM, hN1] at h1
  obtain ⟨N, hN⟩ : ∃ N, mskI (setB s.b 1 true) = N := ⟨_, rfl⟩
  have h2 := or_1 s.b
  rw [hN1, hN] at h2
  have h5 := ad_11 s.b
  rw [hN] at h5
  have a3 := and3 (setB s.b 1 true)
  rw [hN] at a3
  obtain ⟨X3, h33⟩ : ∃ X, Go.bits .and .i64 N 3 = X := ⟨_, rfl⟩
  rw [h33] at a3
  have HN := Aside0.mk (show mskI (setB s.b 1 true) = N from hN)
  have HM := Aside0.mk hM
  clear hM hN1 hN
  obtain ⟨A, hA⟩ : ∃ A, limI s.lx s.mx s.fx = A := ⟨_, rfl⟩
  obtain ⟨B, hB⟩ : ∃ B, limI s.ly s.my s.fy = B := ⟨_, rfl⟩
  have HA := Aside0.mk (And.intro hA hB)
  clear hA hB
  have hk : (1 : Int) = 1 ∨ (1 : Int) = 2 ∨ (1 : Int) = 4 ∨ (1 : Int) = 8 := by decide
  by_cases hc : rqC s 1 true = true
  rotate_left
  · replace a3 : (X3 == 0) = true := a3.trans (by rw [show ((setB s.b 1 true).a || (setB s.b 1 true).b) = false from Bool.eq_false_iff.2 hc]; rfl)
    have a3' : (X3 != 0) = false := by unfold bne; rw [a3]; rfl
    have hE : rqE s 1 true (emptyB x0 y0 x1 y1) = 0 := by unfold rqE; rw [if_pos hk, Bool.eq_false_iff.2 hc]; rfl
    have HE := Aside0.mk (show rqV s 1 true x0 y0 x1 y1 = .tuple #[.int .i64 A, .int .i64 B, .int .i64 N, .int .i64 0] ∧ rqS s 1 true x0 y0 x1 y1 = { s with sx := A, sy := B, b := setB s.b 1 true } by
      unfold rqV rqS rqX rqY
      rw [if_pos hE, if_pos hE, if_neg hc, if_neg hc, HA.out.1, HA.out.2, HN.out]
      exact ⟨rfl, rfl⟩)
    clear hc hE hk
    go_enter Try.func12, Try.ntmps12
    go_wp2_with (first
    | (go_at_call 25; refine (usable_w (by repeat (with_reducible first | exact HS.out | apply sl_drewN | apply sl_drew)) 0 (by rfl)).mono ?_; rintro e wu ⟨rfl, hs⟩; (try simp only [World.size_alloc] at hs); replace HS := Aside0.mk hs; clear hs)
    | (go_at_call 26; refine (mask_w (by repeat (with_reducible first | exact HS.out | apply sl_drewN | apply sl_drew)) 0 HM.out (by rfl)).mono ?_; rintro e wm ⟨rfl, hs⟩; (try simp only [World.size_alloc] at hs); replace HS := Aside0.mk hs; clear hs; obtain ⟨mb, ho⟩ := sl_open HS.out 0 rfl; have hm8 := c_at ho 0 rfl 8 rfl; have hm9 := c_at ho 0 rfl 9 rfl; clear ho)
    | (go_at_call 28; refine (limited_w (by repeat (with_reducible first | exact HS.out | apply sl_drewN | apply sl_drew)) 0 s.fx s.fy HA.out.1 HA.out.2 (by rfl)).mono ?_; rintro e wl ⟨rfl, hs⟩; (try simp only [World.size_alloc] at hs); replace HS := Aside0.mk hs; clear hs; clear hm8 hm9; have bx0 := c_at HS.out 2 rfl 0 rfl; have bx1 := c_at HS.out 2 rfl 1 rfl; have bx2 := c_at HS.out 2 rfl 2 rfl; have bx3 := c_at HS.out 2 rfl 3 rfl; have bl := blk_lt (sl_blk HS.out 2 rfl))
    | (go_at_call 29; refine (empty_c (sl_box HS.out #[.int .i64 A, .int .i64 B] 23) x0 y0 x1 y1 HX.out).mono ?_; rintro e we ⟨rfl, hs⟩; (try simp only [World.size_alloc] at hs); replace HS := Aside0.mk hs; clear hs; clear bx0 bx1 bx2 bx3 bl; have bl := blk_lt (sl_blk HS.out 2 rfl); have bx0 := c_at HS.out 2 rfl 0 rfl; have bx1 := c_at HS.out 2 rfl 1 rfl; have bx2 := c_at HS.out 2 rfl 2 rfl; have bx3 := c_at HS.out 2 rfl 3 rfl; have wx0 := c_at HS.out 3 rfl 0 rfl; have wx1 := c_at HS.out 3 rfl 1 rfl; have wf0 := f_at HS.out 3 rfl 0; have wf1 := f_at HS.out 3 rfl 1; have wl1 := blk_lt (sl_blk HS.out 3 rfl)))
    have HS2 := sl_box HS.out #[.int .i64 A, .int .i64 B] 23
    obtain ⟨m, ho⟩ := sl_open HS2 0 rfl
    have HO := Aside0.mk ho
    clear ho HS2
    refine start_ (n := 11) (S := fun w' => w'.cell? ⟨g, 1, none⟩ = some (.map (some m))) (ds := [10]) #[false, false, false, false, false, false, false, false, false, false, false] (by kernel_rfl) rfl rfl ((c_at (sl_drew HO.out) 0 rfl 1 rfl)) (fun hHeld => ?_)
    refine pure_ (i := 0) (N := some 61) (v := ?_) (a' := ?_) #[true, false, false, false, false, false, false, false, false, false, false] rfl rfl (by kernel_rfl) (fun _ _ _ h => h) (Or.inl ⟨by rfl, ?_⟩) ?_ ?_
    rotate_left
    · intro w'
      go_simp
      with_reducible rfl
    rotate_left
    · simp only [Act.put, List.setIfInBounds_toArray, List.set_cons_zero, List.set_cons_succ, i64_w, i32_w, IntKind.wrap_u32, IntKind.wrap_u8, IntKind.wrap_u16]
      rfl
    refine pure_ (i := 1) (N := some 62) (v := ?_) (a' := ?_) #[true, true, false, false, false, false, false, false, false, false, false] rfl rfl (by kernel_rfl) (fun _ _ _ h => h) (Or.inl ⟨by rfl, ?_⟩) ?_ ?_
    rotate_left
    · intro w'
      go_simp
      with_reducible rfl
    rotate_left
    · simp only [Act.put, List.setIfInBounds_toArray, List.set_cons_zero, List.set_cons_succ, i64_w, i32_w, IntKind.wrap_u32, IntKind.wrap_u8, IntKind.wrap_u16]
      rfl
    refine pure_ (i := 2) (N := some 63) (v := ?_) (a' := ?_) #[true, true, true, false, false, false, false, false, false, false, false] rfl rfl (by kernel_rfl) (fun _ _ _ h => h) (Or.inl ⟨by rfl, ?_⟩) ?_ ?_
    rotate_left
    · intro w'
      go_simp
      with_reducible rfl
    rotate_left
    · simp only [Act.put, List.setIfInBounds_toArray, List.set_cons_zero, List.set_cons_succ, i64_w, i32_w, IntKind.wrap_u32, IntKind.wrap_u8, IntKind.wrap_u16]
      rfl
    refine pure_ (i := 4) (N := some 65) (v := ?_) (a' := ?_) #[true, true, true, false, true, false, false, false, false, false, false] rfl rfl (by kernel_rfl) (fun _ _ _ h => h) (Or.inl ⟨by rfl, ?_⟩) ?_ ?_
    rotate_left
    · intro w'
      go_simp
      with_reducible rfl
    rotate_left
    · simp only [Act.put, List.setIfInBounds_toArray, List.set_cons_zero, List.set_cons_succ, i64_w, i32_w, IntKind.wrap_u32, IntKind.wrap_u8, IntKind.wrap_u16]
      rfl
    refine pure_ (i := 5) (N := some 66) (v := ?_) (a' := ?_) #[true, true, true, false, true, true, false, false, false, false, false] rfl rfl (by kernel_rfl) (fun _ _ _ h => h) (Or.inl ⟨by rfl, ?_⟩) ?_ ?_
    rotate_left
    · intro w'
      go_simp
      with_reducible rfl
    rotate_left
    · simp only [Act.put, List.setIfInBounds_toArray, List.set_cons_zero, List.set_cons_succ, i64_w, i32_w, IntKind.wrap_u32, IntKind.wrap_u8, IntKind.wrap_u16]
      rfl
    refine pure_ (i := 6) (N := some 67) (v := ?_) (a' := ?_) #[true, true, true, false, true, true, true, false, false, false, false] rfl rfl (by kernel_rfl) (fun _ _ _ h => h) (Or.inl ⟨by rfl, ?_⟩) ?_ ?_
    rotate_left
    · intro w'
      go_simp
      with_reducible rfl
    rotate_left
    · simp only [Act.put, List.setIfInBounds_toArray, List.set_cons_zero, List.set_cons_succ, i64_w, i32_w, IntKind.wrap_u32, IntKind.wrap_u8, IntKind.wrap_u16]
      rfl
    refine pure_ (i := 7) (N := some 68) (v := ?_) (a' := ?_) #[true, true, true, false, true, true, true, true, false, false, false] rfl rfl (by kernel_rfl) (fun _ _ _ h => h) (Or.inl ⟨by rfl, ?_⟩) ?_ ?_
    rotate_left
    · intro w'
      go_simp
      with_reducible rfl
    rotate_left
    · simp only [Act.put, List.setIfInBounds_toArray, List.set_cons_zero, List.set_cons_succ, i64_w, i32_w, IntKind.wrap_u32, IntKind.wrap_u8, IntKind.wrap_u16]
      rfl
    refine pure_ (i := 8) (N := some 69) (v := ?_) (a' := ?_) #[true, true, true, false, true, true, true, true, true, false, false] rfl rfl (by kernel_rfl) (fun _ _ _ h => h) (Or.inl ⟨by rfl, ?_⟩) ?_ ?_
    rotate_left
    · intro w'
      go_simp
      with_reducible rfl
    rotate_left
    · simp only [Act.put, List.setIfInBounds_toArray, List.set_cons_zero, List.set_cons_succ, i64_w, i32_w, IntKind.wrap_u32, IntKind.wrap_u8, IntKind.wrap_u16]
      rfl
    refine pure_ (i := 9) (N := some 70) (v := ?_) (a' := ?_) #[true, true, true, false, true, true, true, true, true, true, false] rfl rfl (by kernel_rfl) (fun _ _ _ h => h) (Or.inl ⟨by rfl, ?_⟩) ?_ ?_
    rotate_left
    · intro w'
      go_simp
      with_reducible rfl
    rotate_left
    · simp only [Act.put, List.setIfInBounds_toArray, List.set_cons_zero, List.set_cons_succ, i64_w, i32_w, IntKind.wrap_u32, IntKind.wrap_u8, IntKind.wrap_u16]
      rfl
    refine take_ (i := 3) (N := some 64) (v := ?_) (a' := ?_) #[true, true, true, true, true, true, true, true, true, true, false] rfl rfl (by kernel_rfl) (fun _ _ _ h => h) (Or.inl ⟨by rfl, ?_⟩) hHeld ?_ ?_
    rotate_left
    · intro w' s0
      go_simp
      with_reducible rfl
    rotate_left
    · simp only [Act.put, List.setIfInBounds_toArray, List.set_cons_zero, List.set_cons_succ, i64_w, i32_w, IntKind.wrap_u32, IntKind.wrap_u8, IntKind.wrap_u16]
      rfl
    refine last_ (i := 10) (N := none) #[true, true, true, true, true, true, true, true, true, true, true] rfl rfl (by kernel_rfl) (by decide) (fun K hK => ?_)
    refine sl_bput_step (by rfl) rfl (sl_drew HO.out) 4 rfl _ _ _ rfl rfl 1 (by decide) rfl true (congrArg (Value.int .i64) (show wrap64 1 = bi true by unfold wrap64 bi; decide)) ?_
    intro w5 hs5
    have p0 := c_at hs5 3 rfl 0 rfl
    have p1 := c_at hs5 3 rfl 1 rfl
    have q0 := c_at hs5 0 rfl 10 rfl
    have q1 := c_at hs5 0 rfl 11 rfl
    have f0 := f_at hs5 0 rfl 10
    have f1 := f_at hs5 0 rfl 11
    have hl1 := blk_lt (sl_blk hs5 0 rfl)
    refine hK.out _ _ ?_
    clear hK K
    refine done_ (by kernel_rfl) ?_
    go_wp2_with (fail)
    have HO3 := Aside0.mk (sl_put (sl_put hs5 0 rfl 10 (.int .i64 A)) 0 rfl 11 (.int .i64 B))
    refine start_ (n := 9) (S := fun w' => w'.cell? ⟨wl.heap.size, 0, none⟩ = some (.int .i64 A) ∧ w'.cell? ⟨wl.heap.size, 1, none⟩ = some (.int .i64 B)) (ds := []) #[false, false, false, false, false, false, false, false, false] (by kernel_rfl) rfl rfl ⟨(c_at (sl_drew HO3.out) 3 rfl 0 rfl), (c_at (sl_drew HO3.out) 3 rfl 1 rfl)⟩ (fun hHeld => ?_)
    refine pure_ (i := 0) (N := some 75) (v := ?_) (a' := ?_) #[true, false, false, false, false, false, false, false, false] rfl rfl (by kernel_rfl) (fun _ _ _ h => h) (Or.inl ⟨by rfl, ?_⟩) ?_ ?_
    rotate_left
    · intro w'
      go_simp
      with_reducible rfl
    rotate_left
    · simp only [Act.put, List.setIfInBounds_toArray, List.set_cons_zero, List.set_cons_succ, i64_w, i32_w, IntKind.wrap_u32, IntKind.wrap_u8, IntKind.wrap_u16]
      rfl
    refine pure_ (i := 2) (N := some 77) (v := ?_) (a' := ?_) #[true, false, true, false, false, false, false, false, false] rfl rfl (by kernel_rfl) (fun _ _ _ h => h) (Or.inl ⟨by rfl, ?_⟩) ?_ ?_
    rotate_left
    · intro w'
      go_simp
      with_reducible rfl
    rotate_left
    · simp only [Act.put, List.setIfInBounds_toArray, List.set_cons_zero, List.set_cons_succ, i64_w, i32_w, IntKind.wrap_u32, IntKind.wrap_u8, IntKind.wrap_u16]
      rfl
    refine pure_ (i := 4) (N := some 79) (v := ?_) (a' := ?_) #[true, false, true, false, true, false, false, false, false] rfl rfl (by kernel_rfl) (fun _ _ _ h => h) (Or.inl ⟨by rfl, ?_⟩) ?_ ?_
    rotate_left
    · intro w'
      go_simp
      with_reducible rfl
    rotate_left
    · simp only [Act.put, List.setIfInBounds_toArray, List.set_cons_zero, List.set_cons_succ, i64_w, i32_w, IntKind.wrap_u32, IntKind.wrap_u8, IntKind.wrap_u16]
      rfl
    refine take_ (i := 1) (N := some 76) (v := ?_) (a' := ?_) #[true, true, true, false, true, false, false, false, false] rfl rfl (by kernel_rfl) (fun _ _ _ h => h) (Or.inl ⟨by rfl, ?_⟩) hHeld ?_ ?_
    rotate_left
    · rintro w' ⟨s0, s1⟩
      go_simp
      with_reducible rfl
    rotate_left
    · simp only [Act.put, List.setIfInBounds_toArray, List.set_cons_zero, List.set_cons_succ, i64_w, i32_w, IntKind.wrap_u32, IntKind.wrap_u8, IntKind.wrap_u16]
      rfl
    refine pure_ (i := 5) (N := some 8) (v := ?_) (a' := ?_) #[true, true, true, false, true, true, false, false, false] rfl rfl (by kernel_rfl) (fun _ _ _ h => h) (Or.inl ⟨by rfl, ?_⟩) ?_ ?_
    rotate_left
    · intro w'
      go_simp
      with_reducible rfl
    rotate_left
    · simp only [Act.put, List.setIfInBounds_toArray, List.set_cons_zero, List.set_cons_succ, i64_w, i32_w, IntKind.wrap_u32, IntKind.wrap_u8, IntKind.wrap_u16]
      rfl
    refine take_ (i := 3) (N := some 78) (v := ?_) (a' := ?_) #[true, true, true, true, true, true, false, false, false] rfl rfl (by kernel_rfl) (fun _ _ _ h => h) (Or.inl ⟨by rfl, ?_⟩) hHeld ?_ ?_
    rotate_left
    · rintro w' ⟨s0, s1⟩
      go_simp
      with_reducible rfl
    rotate_left
    · simp only [Act.put, List.setIfInBounds_toArray, List.set_cons_zero, List.set_cons_succ, i64_w, i32_w, IntKind.wrap_u32, IntKind.wrap_u8, IntKind.wrap_u16]
      rfl
    refine pure_ (i := 6) (N := some 9) (v := ?_) (a' := ?_) #[true, true, true, true, true, true, true, false, false] rfl rfl (by kernel_rfl) (fun _ _ _ h => h) (Or.inl ⟨by rfl, ?_⟩) ?_ ?_
    rotate_left
    · intro w'
      go_simp
      with_reducible rfl
    rotate_left
    · simp only [Act.put, List.setIfInBounds_toArray, List.set_cons_zero, List.set_cons_succ, i64_w, i32_w, IntKind.wrap_u32, IntKind.wrap_u8, IntKind.wrap_u16]
      rfl
    refine pure_ (i := 7) (N := some 10) (v := ?_) (a' := ?_) #[true, true, true, true, true, true, true, true, false] rfl rfl (by kernel_rfl) (fun _ _ _ h => h) (Or.inl ⟨by rfl, ?_⟩) ?_ ?_
    rotate_left
    · intro w'
      go_simp
      with_reducible rfl
    rotate_left
    · simp only [Act.put, List.setIfInBounds_toArray, List.set_cons_zero, List.set_cons_succ, i64_w, i32_w, IntKind.wrap_u32, IntKind.wrap_u8, IntKind.wrap_u16]
      rfl
    refine pure_ (i := 8) (N := some 11) (v := ?_) (a' := ?_) #[true, true, true, true, true, true, true, true, true] rfl rfl (by kernel_rfl) (fun _ _ _ h => h) (Or.inl ⟨by rfl, ?_⟩) ?_ ?_
    rotate_left
    · intro w'
      go_simp
      with_reducible rfl
    rotate_left
    · simp only [Act.put, List.setIfInBounds_toArray, List.set_cons_zero, List.set_cons_succ, i64_w, i32_w, IntKind.wrap_u32, IntKind.wrap_u8, IntKind.wrap_u16]
      rfl
    refine done_ (by kernel_rfl) ?_
    go_wp2_with (fail)
    refine bodyPost_ret (results_list (rs := [.tmp 8, .tmp 9, .tmp 10, .tmp 11]) rfl (by simp) (.tmp (.tmp (.tmp (.tmp .nil))))) rfl ?_
    rw [HE.out.1, HE.out.2]
    exact ⟨rfl, win_close (m := m) { s with sx := A, sy := B, b := setB s.b 1 true } (sl_pick (sl_drew HO3.out) [0, 1, 4] (by decide) rfl)⟩
  · replace a3 : (X3 == 0) = false := a3.trans (by rw [show ((setB s.b 1 true).a || (setB s.b 1 true).b) = true from hc]; rfl)
    have a3' : (X3 != 0) = true := by unfold bne; rw [a3]; rfl
    obtain ⟨em, hem⟩ : ∃ em, emptyB x0 y0 x1 y1 = em := ⟨_, rfl⟩
    have HX := Aside0.mk hem
    cases em
    rotate_left
    · have hE : rqE s 1 true (emptyB x0 y0 x1 y1) = 6 := by unfold rqE; rw [if_pos hk, hc, hem]; rfl
      have HE := Aside0.mk (show rqV s 1 true x0 y0 x1 y1 = .tuple #[.int .i64 0, .int .i64 0, .int .i64 0, .int .i64 6] ∧ rqS s 1 true x0 y0 x1 y1 = s by
        unfold rqV rqS
        rw [hE]
        exact ⟨rfl, rfl⟩)
      clear hc hE hk hem
      go_enter Try.func12, Try.ntmps12
      go_wp2_with (first
    | (go_at_call 25; refine (usable_w (by repeat (with_reducible first | exact HS.out | apply sl_drewN | apply sl_drew)) 0 (by rfl)).mono ?_; rintro e wu ⟨rfl, hs⟩; (try simp only [World.size_alloc] at hs); replace HS := Aside0.mk hs; clear hs)
    | (go_at_call 26; refine (mask_w (by repeat (with_reducible first | exact HS.out | apply sl_drewN | apply sl_drew)) 0 HM.out (by rfl)).mono ?_; rintro e wm ⟨rfl, hs⟩; (try simp only [World.size_alloc] at hs); replace HS := Aside0.mk hs; clear hs; obtain ⟨mb, ho⟩ := sl_open HS.out 0 rfl; have hm8 := c_at ho 0 rfl 8 rfl; have hm9 := c_at ho 0 rfl 9 rfl; clear ho)
    | (go_at_call 28; refine (limited_w (by repeat (with_reducible first | exact HS.out | apply sl_drewN | apply sl_drew)) 0 s.fx s.fy HA.out.1 HA.out.2 (by rfl)).mono ?_; rintro e wl ⟨rfl, hs⟩; (try simp only [World.size_alloc] at hs); replace HS := Aside0.mk hs; clear hs; clear hm8 hm9; have bx0 := c_at HS.out 2 rfl 0 rfl; have bx1 := c_at HS.out 2 rfl 1 rfl; have bx2 := c_at HS.out 2 rfl 2 rfl; have bx3 := c_at HS.out 2 rfl 3 rfl; have bl := blk_lt (sl_blk HS.out 2 rfl))
    | (go_at_call 29; refine (empty_c (sl_box HS.out #[.int .i64 A, .int .i64 B] 23) x0 y0 x1 y1 HX.out).mono ?_; rintro e we ⟨rfl, hs⟩; (try simp only [World.size_alloc] at hs); replace HS := Aside0.mk hs; clear hs; clear bx0 bx1 bx2 bx3 bl; have bl := blk_lt (sl_blk HS.out 2 rfl); have bx0 := c_at HS.out 2 rfl 0 rfl; have bx1 := c_at HS.out 2 rfl 1 rfl; have bx2 := c_at HS.out 2 rfl 2 rfl; have bx3 := c_at HS.out 2 rfl 3 rfl; have wx0 := c_at HS.out 3 rfl 0 rfl; have wx1 := c_at HS.out 3 rfl 1 rfl; have wf0 := f_at HS.out 3 rfl 0; have wf1 := f_at HS.out 3 rfl 1; have wl1 := blk_lt (sl_blk HS.out 3 rfl)))
      refine bodyPost_ret (results_list (rs := [.tmp 8, .tmp 9, .tmp 10, .tmp 11]) rfl (by simp) (.tmp (.tmp (.tmp (.tmp .nil))))) rfl ?_
      rw [HE.out.1, HE.out.2]
      exact ⟨rfl, sl_take HS.out 2⟩
    obtain ⟨DX, hDX⟩ : ∃ D, x1 - x0 = D := ⟨_, rfl⟩
    obtain ⟨DY, hDY⟩ : ∃ D, y1 - y0 = D := ⟨_, rfl⟩
    have hr := emp_rng hem
    have hd1 : wrap64 (x1 - x0) = DX := by rw [← hDX]; unfold wrap64; omega
    have hd2 : wrap64 (y1 - y0) = DY := by rw [← hDY]; unfold wrap64; omega
    have hE : rqE s 1 true (emptyB x0 y0 x1 y1) = 0 := by unfold rqE; rw [if_pos hk, hc, hem]; rfl
    have HE := Aside0.mk (show rqV s 1 true x0 y0 x1 y1 = .tuple #[.int .i64 DX, .int .i64 DY, .int .i64 N, .int .i64 0] ∧ rqS s 1 true x0 y0 x1 y1 = { s with sx := DX, sy := DY, b := setB s.b 1 true } by
      unfold rqV rqS rqX rqY
      rw [if_pos hE, if_pos hE, if_pos hc, if_pos hc, hDX, hDY, HN.out]
      exact ⟨rfl, rfl⟩)
    clear hc hE hk hem hr hDX hDY
    go_enter Try.func12, Try.ntmps12
    go_wp2_with (first
    | (go_at_call 25; refine (usable_w (by repeat (with_reducible first | exact HS.out | apply sl_drewN | apply sl_drew)) 0 (by rfl)).mono ?_; rintro e wu ⟨rfl, hs⟩; (try simp only [World.size_alloc] at hs); replace HS := Aside0.mk hs; clear hs)
    | (go_at_call 26; refine (mask_w (by repeat (with_reducible first | exact HS.out | apply sl_drewN | apply sl_drew)) 0 HM.out (by rfl)).mono ?_; rintro e wm ⟨rfl, hs⟩; (try simp only [World.size_alloc] at hs); replace HS := Aside0.mk hs; clear hs; obtain ⟨mb, ho⟩ := sl_open HS.out 0 rfl; have hm8 := c_at ho 0 rfl 8 rfl; have hm9 := c_at ho 0 rfl 9 rfl; clear ho)
    | (go_at_call 28; refine (limited_w (by repeat (with_reducible first | exact HS.out | apply sl_drewN | apply sl_drew)) 0 s.fx s.fy HA.out.1 HA.out.2 (by rfl)).mono ?_; rintro e wl ⟨rfl, hs⟩; (try simp only [World.size_alloc] at hs); replace HS := Aside0.mk hs; clear hs; clear hm8 hm9; have bx0 := c_at HS.out 2 rfl 0 rfl; have bx1 := c_at HS.out 2 rfl 1 rfl; have bx2 := c_at HS.out 2 rfl 2 rfl; have bx3 := c_at HS.out 2 rfl 3 rfl; have bl := blk_lt (sl_blk HS.out 2 rfl))
    | (go_at_call 29; refine (empty_c (sl_box HS.out #[.int .i64 A, .int .i64 B] 23) x0 y0 x1 y1 HX.out).mono ?_; rintro e we ⟨rfl, hs⟩; (try simp only [World.size_alloc] at hs); replace HS := Aside0.mk hs; clear hs; clear bx0 bx1 bx2 bx3 bl; have bl := blk_lt (sl_blk HS.out 2 rfl); have bx0 := c_at HS.out 2 rfl 0 rfl; have bx1 := c_at HS.out 2 rfl 1 rfl; have bx2 := c_at HS.out 2 rfl 2 rfl; have bx3 := c_at HS.out 2 rfl 3 rfl; have wx0 := c_at HS.out 3 rfl 0 rfl; have wx1 := c_at HS.out 3 rfl 1 rfl; have wf0 := f_at HS.out 3 rfl 0; have wf1 := f_at HS.out 3 rfl 1; have wl1 := blk_lt (sl_blk HS.out 3 rfl)))
    have HS2 := sl_put (sl_put HS.out 3 rfl 0 (.int .i64 DX)) 3 rfl 1 (.int .i64 DY)
    obtain ⟨m, ho⟩ := sl_open HS2 0 rfl
    have HO := Aside0.mk ho
    clear ho HS2
    refine start_ (n := 11) (S := fun w' => w'.cell? ⟨g, 1, none⟩ = some (.map (some m))) (ds := [10]) #[false, false, false, false, false, false, false, false, false, false, false] (by kernel_rfl) rfl rfl ((c_at (sl_drew HO.out) 0 rfl 1 rfl)) (fun hHeld => ?_)
    refine pure_ (i := 0) (N := some 61) (v := ?_) (a' := ?_) #[true, false, false, false, false, false, false, false, false, false, false] rfl rfl (by kernel_rfl) (fun _ _ _ h => h) (Or.inl ⟨by rfl, ?_⟩) ?_ ?_
    rotate_left
    · intro w'
      go_simp
      with_reducible rfl
    rotate_left
    · simp only [Act.put, List.setIfInBounds_toArray, List.set_cons_zero, List.set_cons_succ, i64_w, i32_w, IntKind.wrap_u32, IntKind.wrap_u8, IntKind.wrap_u16]
      rfl
    refine pure_ (i := 1) (N := some 62) (v := ?_) (a' := ?_) #[true, true, false, false, false, false, false, false, false, false, false] rfl rfl (by kernel_rfl) (fun _ _ _ h => h) (Or.inl ⟨by rfl, ?_⟩) ?_ ?_
    rotate_left
    · intro w'
      go_simp
      with_reducible rfl
    rotate_left
    · simp only [Act.put, List.setIfInBounds_toArray, List.set_cons_zero, List.set_cons_succ, i64_w, i32_w, IntKind.wrap_u32, IntKind.wrap_u8, IntKind.wrap_u16]
      rfl
    refine pure_ (i := 2) (N := some 63) (v := ?_) (a' := ?_) #[true, true, true, false, false, false, false, false, false, false, false] rfl rfl (by kernel_rfl) (fun _ _ _ h => h) (Or.inl ⟨by rfl, ?_⟩) ?_ ?_
    rotate_left
    · intro w'
      go_simp
      with_reducible rfl
    rotate_left
    · simp only [Act.put, List.setIfInBounds_toArray, List.set_cons_zero, List.set_cons_succ, i64_w, i32_w, IntKind.wrap_u32, IntKind.wrap_u8, IntKind.wrap_u16]
      rfl
    refine pure_ (i := 4) (N := some 65) (v := ?_) (a' := ?_) #[true, true, true, false, true, false, false, false, false, false, false] rfl rfl (by kernel_rfl) (fun _ _ _ h => h) (Or.inl ⟨by rfl, ?_⟩) ?_ ?_
    rotate_left
    · intro w'
      go_simp
      with_reducible rfl
    rotate_left
    · simp only [Act.put, List.setIfInBounds_toArray, List.set_cons_zero, List.set_cons_succ, i64_w, i32_w, IntKind.wrap_u32, IntKind.wrap_u8, IntKind.wrap_u16]
      rfl
    refine pure_ (i := 5) (N := some 66) (v := ?_) (a' := ?_) #[true, true, true, false, true, true, false, false, false, false, false] rfl rfl (by kernel_rfl) (fun _ _ _ h => h) (Or.inl ⟨by rfl, ?_⟩) ?_ ?_
    rotate_left
    · intro w'
      go_simp
      with_reducible rfl
    rotate_left
    · simp only [Act.put, List.setIfInBounds_toArray, List.set_cons_zero, List.set_cons_succ, i64_w, i32_w, IntKind.wrap_u32, IntKind.wrap_u8, IntKind.wrap_u16]
      rfl
    refine pure_ (i := 6) (N := some 67) (v := ?_) (a' := ?_) #[true, true, true, false, true, true, true, false, false, false, false] rfl rfl (by kernel_rfl) (fun _ _ _ h => h) (Or.inl ⟨by rfl, ?_⟩) ?_ ?_
    rotate_left
    · intro w'
      go_simp
      with_reducible rfl
    rotate_left
    · simp only [Act.put, List.setIfInBounds_toArray, List.set_cons_zero, List.set_cons_succ, i64_w, i32_w, IntKind.wrap_u32, IntKind.wrap_u8, IntKind.wrap_u16]
      rfl
    refine pure_ (i := 7) (N := some 68) (v := ?_) (a' := ?_) #[true, true, true, false, true, true, true, true, false, false, false] rfl rfl (by kernel_rfl) (fun _ _ _ h => h) (Or.inl ⟨by rfl, ?_⟩) ?_ ?_
    rotate_left
    · intro w'
      go_simp
      with_reducible rfl
    rotate_left
    · simp only [Act.put, List.setIfInBounds_toArray, List.set_cons_zero, List.set_cons_succ, i64_w, i32_w, IntKind.wrap_u32, IntKind.wrap_u8, IntKind.wrap_u16]
      rfl
    refine pure_ (i := 8) (N := some 69) (v := ?_) (a' := ?_) #[true, true, true, false, true, true, true, true, true, false, false] rfl rfl (by kernel_rfl) (fun _ _ _ h => h) (Or.inl ⟨by rfl, ?_⟩) ?_ ?_
    rotate_left
    · intro w'
      go_simp
      with_reducible rfl
    rotate_left
    · simp only [Act.put, List.setIfInBounds_toArray, List.set_cons_zero, List.set_cons_succ, i64_w, i32_w, IntKind.wrap_u32, IntKind.wrap_u8, IntKind.wrap_u16]
      rfl
    refine pure_ (i := 9) (N := some 70) (v := ?_) (a' := ?_) #[true, true, true, false, true, true, true, true, true, true, false] rfl rfl (by kernel_rfl) (fun _ _ _ h => h) (Or.inl ⟨by rfl, ?_⟩) ?_ ?_
    rotate_left
    · intro w'
      go_simp
      with_reducible rfl
    rotate_left
    · simp only [Act.put, List.setIfInBounds_toArray, List.set_cons_zero, List.set_cons_succ, i64_w, i32_w, IntKind.wrap_u32, IntKind.wrap_u8, IntKind.wrap_u16]
      rfl
    refine take_ (i := 3) (N := some 64) (v := ?_) (a' := ?_) #[true, true, true, true, true, true, true, true, true, true, false] rfl rfl (by kernel_rfl) (fun _ _ _ h => h) (Or.inl ⟨by rfl, ?_⟩) hHeld ?_ ?_
    rotate_left
    · intro w' s0
      go_simp
      with_reducible rfl
    rotate_left
    · simp only [Act.put, List.setIfInBounds_toArray, List.set_cons_zero, List.set_cons_succ, i64_w, i32_w, IntKind.wrap_u32, IntKind.wrap_u8, IntKind.wrap_u16]
      rfl
    refine last_ (i := 10) (N := none) #[true, true, true, true, true, true, true, true, true, true, true] rfl rfl (by kernel_rfl) (by decide) (fun K hK => ?_)
    refine sl_bput_step (by rfl) rfl (sl_drew HO.out) 4 rfl _ _ _ rfl rfl 1 (by decide) rfl true (congrArg (Value.int .i64) (show wrap64 1 = bi true by unfold wrap64 bi; decide)) ?_
    intro w5 hs5
    have p0 := c_at hs5 3 rfl 0 rfl
    have p1 := c_at hs5 3 rfl 1 rfl
    have q0 := c_at hs5 0 rfl 10 rfl
    have q1 := c_at hs5 0 rfl 11 rfl
    have f0 := f_at hs5 0 rfl 10
    have f1 := f_at hs5 0 rfl 11
    have hl1 := blk_lt (sl_blk hs5 0 rfl)
    refine hK.out _ _ ?_
    clear hK K
    refine done_ (by kernel_rfl) ?_
    go_wp2_with (fail)
    have HO3 := Aside0.mk (sl_put (sl_put hs5 0 rfl 10 (.int .i64 DX)) 0 rfl 11 (.int .i64 DY))
    refine start_ (n := 9) (S := fun w' => w'.cell? ⟨wl.heap.size, 0, none⟩ = some (.int .i64 DX) ∧ w'.cell? ⟨wl.heap.size, 1, none⟩ = some (.int .i64 DY)) (ds := []) #[false, false, false, false, false, false, false, false, false] (by kernel_rfl) rfl rfl ⟨(c_at (sl_drew HO3.out) 3 rfl 0 rfl), (c_at (sl_drew HO3.out) 3 rfl 1 rfl)⟩ (fun hHeld => ?_)
    refine pure_ (i := 0) (N := some 75) (v := ?_) (a' := ?_) #[true, false, false, false, false, false, false, false, false] rfl rfl (by kernel_rfl) (fun _ _ _ h => h) (Or.inl ⟨by rfl, ?_⟩) ?_ ?_
    rotate_left
    · intro w'
      go_simp
      with_reducible rfl
    rotate_left
    · simp only [Act.put, List.setIfInBounds_toArray, List.set_cons_zero, List.set_cons_succ, i64_w, i32_w, IntKind.wrap_u32, IntKind.wrap_u8, IntKind.wrap_u16]
      rfl
    refine pure_ (i := 2) (N := some 77) (v := ?_) (a' := ?_) #[true, false, true, false, false, false, false, false, false] rfl rfl (by kernel_rfl) (fun _ _ _ h => h) (Or.inl ⟨by rfl, ?_⟩) ?_ ?_
    rotate_left
    · intro w'
      go_simp
      with_reducible rfl
    rotate_left
    · simp only [Act.put, List.setIfInBounds_toArray, List.set_cons_zero, List.set_cons_succ, i64_w, i32_w, IntKind.wrap_u32, IntKind.wrap_u8, IntKind.wrap_u16]
      rfl
    refine pure_ (i := 4) (N := some 79) (v := ?_) (a' := ?_) #[true, false, true, false, true, false, false, false, false] rfl rfl (by kernel_rfl) (fun _ _ _ h => h) (Or.inl ⟨by rfl, ?_⟩) ?_ ?_
    rotate_left
    · intro w'
      go_simp
      with_reducible rfl
    rotate_left
    · simp only [Act.put, List.setIfInBounds_toArray, List.set_cons_zero, List.set_cons_succ, i64_w, i32_w, IntKind.wrap_u32, IntKind.wrap_u8, IntKind.wrap_u16]
      rfl
    refine take_ (i := 1) (N := some 76) (v := ?_) (a' := ?_) #[true, true, true, false, true, false, false, false, false] rfl rfl (by kernel_rfl) (fun _ _ _ h => h) (Or.inl ⟨by rfl, ?_⟩) hHeld ?_ ?_
    rotate_left
    · rintro w' ⟨s0, s1⟩
      go_simp
      with_reducible rfl
    rotate_left
    · simp only [Act.put, List.setIfInBounds_toArray, List.set_cons_zero, List.set_cons_succ, i64_w, i32_w, IntKind.wrap_u32, IntKind.wrap_u8, IntKind.wrap_u16]
      rfl
    refine pure_ (i := 5) (N := some 8) (v := ?_) (a' := ?_) #[true, true, true, false, true, true, false, false, false] rfl rfl (by kernel_rfl) (fun _ _ _ h => h) (Or.inl ⟨by rfl, ?_⟩) ?_ ?_
    rotate_left
    · intro w'
      go_simp
      with_reducible rfl
    rotate_left
    · simp only [Act.put, List.setIfInBounds_toArray, List.set_cons_zero, List.set_cons_succ, i64_w, i32_w, IntKind.wrap_u32, IntKind.wrap_u8, IntKind.wrap_u16]
      rfl
    refine take_ (i := 3) (N := some 78) (v := ?_) (a' := ?_) #[true, true, true, true, true, true, false, false, false] rfl rfl (by kernel_rfl) (fun _ _ _ h => h) (Or.inl ⟨by rfl, ?_⟩) hHeld ?_ ?_
    rotate_left
    · rintro w' ⟨s0, s1⟩
      go_simp
      with_reducible rfl
    rotate_left
    · simp only [Act.put, List.setIfInBounds_toArray, List.set_cons_zero, List.set_cons_succ, i64_w, i32_w, IntKind.wrap_u32, IntKind.wrap_u8, IntKind.wrap_u16]
      rfl
    refine pure_ (i := 6) (N := some 9) (v := ?_) (a' := ?_) #[true, true, true, true, true, true, true, false, false] rfl rfl (by kernel_rfl) (fun _ _ _ h => h) (Or.inl ⟨by rfl, ?_⟩) ?_ ?_
    rotate_left
    · intro w'
      go_simp
      with_reducible rfl
    rotate_left
    · simp only [Act.put, List.setIfInBounds_toArray, List.set_cons_zero, List.set_cons_succ, i64_w, i32_w, IntKind.wrap_u32, IntKind.wrap_u8, IntKind.wrap_u16]
      rfl
    refine pure_ (i := 7) (N := some 10) (v := ?_) (a' := ?_) #[true, true, true, true, true, true, true, true, false] rfl rfl (by kernel_rfl) (fun _ _ _ h => h) (Or.inl ⟨by rfl, ?_⟩) ?_ ?_
    rotate_left
    · intro w'
      go_simp
      with_reducible rfl
    rotate_left
    · simp only [Act.put, List.setIfInBounds_toArray, List.set_cons_zero, List.set_cons_succ, i64_w, i32_w, IntKind.wrap_u32, IntKind.wrap_u8, IntKind.wrap_u16]
      rfl
    refine pure_ (i := 8) (N := some 11) (v := ?_) (a' := ?_) #[true, true, true, true, true, true, true, true, true] rfl rfl (by kernel_rfl) (fun _ _ _ h => h) (Or.inl ⟨by rfl, ?_⟩) ?_ ?_
    rotate_left
    · intro w'
      go_simp
      with_reducible rfl
    rotate_left
    · simp only [Act.put, List.setIfInBounds_toArray, List.set_cons_zero, List.set_cons_succ, i64_w, i32_w, IntKind.wrap_u32, IntKind.wrap_u8, IntKind.wrap_u16]
      rfl
    refine done_ (by kernel_rfl) ?_
    go_wp2_with (fail)
    refine bodyPost_ret (results_list (rs := [.tmp 8, .tmp 9, .tmp 10, .tmp 11]) rfl (by simp) (.tmp (.tmp (.tmp (.tmp .nil))))) rfl ?_
    rw [HE.out.1, HE.out.2]
    exact ⟨rfl, win_close (m := m) { s with sx := DX, sy := DY, b := setB s.b 1 true } (sl_pick (sl_drew HO3.out) [0, 1, 4] (by decide) rfl)⟩
theorem req_20 (g : Nat) (s : WSt) (x0 y0 x1 y1 : Int) (hs : SL w0 w [winR g s, R]) : Calls Try.prog 12 #[.pointer (some ⟨g, 0, none⟩), .int .i64 2, .bool false, .agg #[.int .i64 x0, .int .i64 y0, .int .i64 x1, .int .i64 y1]] w fun e w' => e = .returned (rqV s 2 false x0 y0 x1 y1) ∧ SL w0 w' [winR g (rqS s 2 false x0 y0 x1 y1), R] := by
  have HS := Aside0.mk (sl_box hs #[.int .i64 x0, .int .i64 y0, .int .i64 x1, .int .i64 y1] 34)
  clear hs
  obtain ⟨M, hM⟩ : ∃ M, mskI s.b = M := ⟨_, rfl⟩
  obtain ⟨N1, hN1⟩ : ∃ N, mskI (setB s.b 2 false) = N := ⟨_, rfl⟩
  have h1 := an_2 s.b
  rw [hM, hN1] at h1
  have h5 := ad_20 s.b
  rw [hN1] at h5
  have a3 := and3 (setB s.b 2 false)
  rw [hN1] at a3
  obtain ⟨X3, h33⟩ : ∃ X, Go.bits .and .i64 N1 3 = X := ⟨_, rfl⟩
  rw [h33] at a3
  have HN := Aside0.mk (show mskI (setB s.b 2 false) = N1 from hN1)
  have HM := Aside0.mk hM
  clear hM hN1
  obtain ⟨A, hA⟩ : ∃ A, limI s.lx s.mx s.fx = A := ⟨_, rfl⟩
  obtain ⟨B, hB⟩ : ∃ B, limI s.ly s.my s.fy = B := ⟨_, rfl⟩
  have HA := Aside0.mk (And.intro hA hB)
  clear hA hB
  have hk : (2 : Int) = 1 ∨ (2 : Int) = 2 ∨ (2 : Int) = 4 ∨ (2 : Int) = 8 := by decide
  by_cases hc : rqC s 2 false = true
  rotate_left
  · replace a3 : (X3 == 0) = true := a3.trans (by rw [show ((setB s.b 2 false).a || (setB s.b 2 false).b) = false from Bool.eq_false_iff.2 hc]; rfl)
    have a3' : (X3 != 0) = false := by unfold bne; rw [a3]; rfl
    have hE : rqE s 2 false (emptyB x0 y0 x1 y1) = 0 := by unfold rqE; rw [if_pos hk, Bool.eq_false_iff.2 hc]; rfl
    have HE := Aside0.mk (show rqV s 2 false x0 y0 x1 y1 = .tuple #[.int .i64 A, .int .i64 B, .int .i64 N1, .int .i64 0] ∧ rqS s 2 false x0 y0 x1 y1 = { s with sx := A, sy := B, b := setB s.b 2 false } by
      unfold rqV rqS rqX rqY
      rw [if_pos hE, if_pos hE, if_neg hc, if_neg hc, HA.out.1, HA.out.2, HN.out]
      exact ⟨rfl, rfl⟩)
    clear hc hE hk
    go_enter Try.func12, Try.ntmps12
    go_wp2_with (first
    | (go_at_call 25; refine (usable_w (by repeat (with_reducible first | exact HS.out | apply sl_drewN | apply sl_drew)) 0 (by rfl)).mono ?_; rintro e wu ⟨rfl, hs⟩; (try simp only [World.size_alloc] at hs); replace HS := Aside0.mk hs; clear hs)
    | (go_at_call 26; refine (mask_w (by repeat (with_reducible first | exact HS.out | apply sl_drewN | apply sl_drew)) 0 HM.out (by rfl)).mono ?_; rintro e wm ⟨rfl, hs⟩; (try simp only [World.size_alloc] at hs); replace HS := Aside0.mk hs; clear hs; obtain ⟨mb, ho⟩ := sl_open HS.out 0 rfl; have hm8 := c_at ho 0 rfl 8 rfl; have hm9 := c_at ho 0 rfl 9 rfl; clear ho)
    | (go_at_call 28; refine (limited_w (by repeat (with_reducible first | exact HS.out | apply sl_drewN | apply sl_drew)) 0 s.fx s.fy HA.out.1 HA.out.2 (by rfl)).mono ?_; rintro e wl ⟨rfl, hs⟩; (try simp only [World.size_alloc] at hs); replace HS := Aside0.mk hs; clear hs; clear hm8 hm9; have bx0 := c_at HS.out 2 rfl 0 rfl; have bx1 := c_at HS.out 2 rfl 1 rfl; have bx2 := c_at HS.out 2 rfl 2 rfl; have bx3 := c_at HS.out 2 rfl 3 rfl; have bl := blk_lt (sl_blk HS.out 2 rfl))
    | (go_at_call 29; refine (empty_c (sl_box HS.out #[.int .i64 A, .int .i64 B] 23) x0 y0 x1 y1 HX.out).mono ?_; rintro e we ⟨rfl, hs⟩; (try simp only [World.size_alloc] at hs); replace HS := Aside0.mk hs; clear hs; clear bx0 bx1 bx2 bx3 bl; have bl := blk_lt (sl_blk HS.out 2 rfl); have bx0 := c_at HS.out 2 rfl 0 rfl; have bx1 := c_at HS.out 2 rfl 1 rfl; have bx2 := c_at HS.out 2 rfl 2 rfl; have bx3 := c_at HS.out 2 rfl 3 rfl; have wx0 := c_at HS.out 3 rfl 0 rfl; have wx1 := c_at HS.out 3 rfl 1 rfl; have wf0 := f_at HS.out 3 rfl 0; have wf1 := f_at HS.out 3 rfl 1; have wl1 := blk_lt (sl_blk HS.out 3 rfl)))
    have HS2 := sl_box HS.out #[.int .i64 A, .int .i64 B] 23
    obtain ⟨m, ho⟩ := sl_open HS2 0 rfl
    have HO := Aside0.mk ho
    clear ho HS2
    refine start_ (n := 11) (S := fun w' => w'.cell? ⟨g, 1, none⟩ = some (.map (some m))) (ds := [10]) #[false, false, false, false, false, false, false, false, false, false, false] (by kernel_rfl) rfl rfl ((c_at (sl_drew HO.out) 0 rfl 1 rfl)) (fun hHeld => ?_)
    refine pure_ (i := 0) (N := some 61) (v := ?_) (a' := ?_) #[true, false, false, false, false, false, false, false, false, false, false] rfl rfl (by kernel_rfl) (fun _ _ _ h => h) (Or.inl ⟨by rfl, ?_⟩) ?_ ?_
    rotate_left
    · intro w'
      go_simp
      with_reducible rfl
    rotate_left
    · simp only [Act.put, List.setIfInBounds_toArray, List.set_cons_zero, List.set_cons_succ, i64_w, i32_w, IntKind.wrap_u32, IntKind.wrap_u8, IntKind.wrap_u16]
      rfl
    refine pure_ (i := 1) (N := some 62) (v := ?_) (a' := ?_) #[true, true, false, false, false, false, false, false, false, false, false] rfl rfl (by kernel_rfl) (fun _ _ _ h => h) (Or.inl ⟨by rfl, ?_⟩) ?_ ?_
    rotate_left
    · intro w'
      go_simp
      with_reducible rfl
    rotate_left
    · simp only [Act.put, List.setIfInBounds_toArray, List.set_cons_zero, List.set_cons_succ, i64_w, i32_w, IntKind.wrap_u32, IntKind.wrap_u8, IntKind.wrap_u16]
      rfl
    refine pure_ (i := 2) (N := some 63) (v := ?_) (a' := ?_) #[true, true, true, false, false, false, false, false, false, false, false] rfl rfl (by kernel_rfl) (fun _ _ _ h => h) (Or.inl ⟨by rfl, ?_⟩) ?_ ?_
    rotate_left
    · intro w'
      go_simp
      with_reducible rfl
    rotate_left
    · simp only [Act.put, List.setIfInBounds_toArray, List.set_cons_zero, List.set_cons_succ, i64_w, i32_w, IntKind.wrap_u32, IntKind.wrap_u8, IntKind.wrap_u16]
      rfl
    refine pure_ (i := 4) (N := some 65) (v := ?_) (a' := ?_) #[true, true, true, false, true, false, false, false, false, false, false] rfl rfl (by kernel_rfl) (fun _ _ _ h => h) (Or.inl ⟨by rfl, ?_⟩) ?_ ?_
    rotate_left
    · intro w'
      go_simp
      with_reducible rfl
    rotate_left
    · simp only [Act.put, List.setIfInBounds_toArray, List.set_cons_zero, List.set_cons_succ, i64_w, i32_w, IntKind.wrap_u32, IntKind.wrap_u8, IntKind.wrap_u16]
      rfl
    refine pure_ (i := 5) (N := some 66) (v := ?_) (a' := ?_) #[true, true, true, false, true, true, false, false, false, false, false] rfl rfl (by kernel_rfl) (fun _ _ _ h => h) (Or.inl ⟨by rfl, ?_⟩) ?_ ?_
    rotate_left
    · intro w'
      go_simp
      with_reducible rfl
    rotate_left
    · simp only [Act.put, List.setIfInBounds_toArray, List.set_cons_zero, List.set_cons_succ, i64_w, i32_w, IntKind.wrap_u32, IntKind.wrap_u8, IntKind.wrap_u16]
      rfl
    refine pure_ (i := 6) (N := some 67) (v := ?_) (a' := ?_) #[true, true, true, false, true, true, true, false, false, false, false] rfl rfl (by kernel_rfl) (fun _ _ _ h => h) (Or.inl ⟨by rfl, ?_⟩) ?_ ?_
    rotate_left
    · intro w'
      go_simp
      with_reducible rfl
    rotate_left
    · simp only [Act.put, List.setIfInBounds_toArray, List.set_cons_zero, List.set_cons_succ, i64_w, i32_w, IntKind.wrap_u32, IntKind.wrap_u8, IntKind.wrap_u16]
      rfl
    refine pure_ (i := 7) (N := some 68) (v := ?_) (a' := ?_) #[true, true, true, false, true, true, true, true, false, false, false] rfl rfl (by kernel_rfl) (fun _ _ _ h => h) (Or.inl ⟨by rfl, ?_⟩) ?_ ?_
    rotate_left
    · intro w'
      go_simp
      with_reducible rfl
    rotate_left
    · simp only [Act.put, List.setIfInBounds_toArray, List.set_cons_zero, List.set_cons_succ, i64_w, i32_w, IntKind.wrap_u32, IntKind.wrap_u8, IntKind.wrap_u16]
      rfl
    refine pure_ (i := 8) (N := some 69) (v := ?_) (a' := ?_) #[true, true, true, false, true, true, true, true, true, false, false] rfl rfl (by kernel_rfl) (fun _ _ _ h => h) (Or.inl ⟨by rfl, ?_⟩) ?_ ?_
    rotate_left
    · intro w'
      go_simp
      with_reducible rfl
    rotate_left
    · simp only [Act.put, List.setIfInBounds_toArray, List.set_cons_zero, List.set_cons_succ, i64_w, i32_w, IntKind.wrap_u32, IntKind.wrap_u8, IntKind.wrap_u16]
      rfl
    refine pure_ (i := 9) (N := some 70) (v := ?_) (a' := ?_) #[true, true, true, false, true, true, true, true, true, true, false] rfl rfl (by kernel_rfl) (fun _ _ _ h => h) (Or.inl ⟨by rfl, ?_⟩) ?_ ?_
    rotate_left
    · intro w'
      go_simp
      with_reducible rfl
    rotate_left
    · simp only [Act.put, List.setIfInBounds_toArray, List.set_cons_zero, List.set_cons_succ, i64_w, i32_w, IntKind.wrap_u32, IntKind.wrap_u8, IntKind.wrap_u16]
      rfl
    refine take_ (i := 3) (N := some 64) (v := ?_) (a' := ?_) #[true, true, true, true, true, true, true, true, true, true, false] rfl rfl (by kernel_rfl) (fun _ _ _ h => h) (Or.inl ⟨by rfl, ?_⟩) hHeld ?_ ?_
    rotate_left
    · intro w' s0
      go_simp
      with_reducible rfl
    rotate_left
    · simp only [Act.put, List.setIfInBounds_toArray, List.set_cons_zero, List.set_cons_succ, i64_w, i32_w, IntKind.wrap_u32, IntKind.wrap_u8, IntKind.wrap_u16]
      rfl
    refine last_ (i := 10) (N := none) #[true, true, true, true, true, true, true, true, true, true, true] rfl rfl (by kernel_rfl) (by decide) (fun K hK => ?_)
    refine sl_bput_step (by rfl) rfl (sl_drew HO.out) 4 rfl _ _ _ rfl rfl 2 (by decide) rfl false (congrArg (Value.int .i64) (show wrap64 0 = bi false by unfold wrap64 bi; decide)) ?_
    intro w5 hs5
    have p0 := c_at hs5 3 rfl 0 rfl
    have p1 := c_at hs5 3 rfl 1 rfl
    have q0 := c_at hs5 0 rfl 10 rfl
    have q1 := c_at hs5 0 rfl 11 rfl
    have f0 := f_at hs5 0 rfl 10
    have f1 := f_at hs5 0 rfl 11
    have hl1 := blk_lt (sl_blk hs5 0 rfl)
    refine hK.out _ _ ?_
    clear hK K
    refine done_ (by kernel_rfl) ?_
    go_wp2_with (fail)
    have HO3 := Aside0.mk (sl_put (sl_put hs5 0 rfl 10 (.int .i64 A)) 0 rfl 11 (.int .i64 B))
    refine start_ (n := 9) (S := fun w' => w'.cell? ⟨wl.heap.size, 0, none⟩ = some (.int .i64 A) ∧ w'.cell? ⟨wl.heap.size, 1, none⟩ = some (.int .i64 B)) (ds := []) #[false, false, false, false, false, false, false, false, false] (by kernel_rfl) rfl rfl ⟨(c_at (sl_drew HO3.out) 3 rfl 0 rfl), (c_at (sl_drew HO3.out) 3 rfl 1 rfl)⟩ (fun hHeld => ?_)
    refine pure_ (i := 0) (N := some 75) (v := ?_) (a' := ?_) #[true, false, false, false, false, false, false, false, false] rfl rfl (by kernel_rfl) (fun _ _ _ h => h) (Or.inl ⟨by rfl, ?_⟩) ?_ ?_
    rotate_left
    · intro w'
      go_simp
      with_reducible rfl
    rotate_left
    · simp only [Act.put, List.setIfInBounds_toArray, List.set_cons_zero, List.set_cons_succ, i64_w, i32_w, IntKind.wrap_u32, IntKind.wrap_u8, IntKind.wrap_u16]
      rfl
    refine pure_ (i := 2) (N := some 77) (v := ?_) (a' := ?_) #[true, false, true, false, false, false, false, false, false] rfl rfl (by kernel_rfl) (fun _ _ _ h => h) (Or.inl ⟨by rfl, ?_⟩) ?_ ?_
    rotate_left
    · intro w'
      go_simp
      with_reducible rfl
    rotate_left
    · simp only [Act.put, List.setIfInBounds_toArray, List.set_cons_zero, List.set_cons_succ, i64_w, i32_w, IntKind.wrap_u32, IntKind.wrap_u8, IntKind.wrap_u16]
      rfl
    refine pure_ (i := 4) (N := some 79) (v := ?_) (a' := ?_) #[true, false, true, false, true, false, false, false, false] rfl rfl (by kernel_rfl) (fun _ _ _ h => h) (Or.inl ⟨by rfl, ?_⟩) ?_ ?_
    rotate_left
    · intro w'
      go_simp
      with_reducible rfl
    rotate_left
    · simp only [Act.put, List.setIfInBounds_toArray, List.set_cons_zero, List.set_cons_succ, i64_w, i32_w, IntKind.wrap_u32, IntKind.wrap_u8, IntKind.wrap_u16]
      rfl
    refine take_ (i := 1) (N := some 76) (v := ?_) (a' := ?_) #[true, true, true, false, true, false, false, false, false] rfl rfl (by kernel_rfl) (fun _ _ _ h => h) (Or.inl ⟨by rfl, ?_⟩) hHeld ?_ ?_
    rotate_left
    · rintro w' ⟨s0, s1⟩
      go_simp
      with_reducible rfl
    rotate_left
    · simp only [Act.put, List.setIfInBounds_toArray, List.set_cons_zero, List.set_cons_succ, i64_w, i32_w, IntKind.wrap_u32, IntKind.wrap_u8, IntKind.wrap_u16]
      rfl
    refine pure_ (i := 5) (N := some 8) (v := ?_) (a' := ?_) #[true, true, true, false, true, true, false, false, false] rfl rfl (by kernel_rfl) (fun _ _ _ h => h) (Or.inl ⟨by rfl, ?_⟩) ?_ ?_
    rotate_left
    · intro w'
      go_simp
      with_reducible rfl
    rotate_left
    · simp only [Act.put, List.setIfInBounds_toArray, List.set_cons_zero, List.set_cons_succ, i64_w, i32_w, IntKind.wrap_u32, IntKind.wrap_u8, IntKind.wrap_u16]
      rfl
    refine take_ (i := 3) (N := some 78) (v := ?_) (a' := ?_) #[true, true, true, true, true, true, false, false, false] rfl rfl (by kernel_rfl) (fun _ _ _ h => h) (Or.inl ⟨by rfl, ?_⟩) hHeld ?_ ?_
    rotate_left
    · rintro w' ⟨s0, s1⟩
      go_simp
      with_reducible rfl
    rotate_left
    · simp only [Act.put, List.setIfInBounds_toArray, List.set_cons_zero, List.set_cons_succ, i64_w, i32_w, IntKind.wrap_u32, IntKind.wrap_u8, IntKind.wrap_u16]
      rfl
    refine pure_ (i := 6) (N := some 9) (v := ?_) (a' := ?_) #[true, true, true, true, true, true, true, false, false] rfl rfl (by kernel_rfl) (fun _ _ _ h => h) (Or.inl ⟨by rfl, ?_⟩) ?_ ?_
    rotate_left
    · intro w'
      go_simp
      with_reducible rfl
    rotate_left
    · simp only [Act.put, List.setIfInBounds_toArray, List.set_cons_zero, List.set_cons_succ, i64_w, i32_w, IntKind.wrap_u32, IntKind.wrap_u8, IntKind.wrap_u16]
      rfl
    refine pure_ (i := 7) (N := some 10) (v := ?_) (a' := ?_) #[true, true, true, true, true, true, true, true, false] rfl rfl (by kernel_rfl) (fun _ _ _ h => h) (Or.inl ⟨by rfl, ?_⟩) ?_ ?_
    rotate_left
    · intro w'
      go_simp
      with_reducible rfl
    rotate_left
    · simp only [Act.put, List.setIfInBounds_toArray, List.set_cons_zero, List.set_cons_succ, i64_w, i32_w, IntKind.wrap_u32, IntKind.wrap_u8, IntKind.wrap_u16]
      rfl
    refine pure_ (i := 8) (N := some 11) (v := ?_) (a' := ?_) #[true, true, true, true, true, true, true, true, true] rfl rfl (by kernel_rfl) (fun _ _ _ h => h) (Or.inl ⟨by rfl, ?_⟩) ?_ ?_
    rotate_left
    · intro w'
      go_simp
      with_reducible rfl
    rotate_left
    · simp only [Act.put, List.setIfInBounds_toArray, List.set_cons_zero, List.set_cons_succ, i64_w, i32_w, IntKind.wrap_u32, IntKind.wrap_u8, IntKind.wrap_u16]
      rfl
    refine done_ (by kernel_rfl) ?_
    go_wp2_with (fail)
    refine bodyPost_ret (results_list (rs := [.tmp 8, .tmp 9, .tmp 10, .tmp 11]) rfl (by simp) (.tmp (.tmp (.tmp (.tmp .nil))))) rfl ?_
    rw [HE.out.1, HE.out.2]
    exact ⟨rfl, win_close (m := m) { s with sx := A, sy := B, b := setB s.b 2 false } (sl_pick (sl_drew HO3.out) [0, 1, 4] (by decide) rfl)⟩
  · replace a3 : (X3 == 0) = false := a3.trans (by rw [show ((setB s.b 2 false).a || (setB s.b 2 false).b) = true from hc]; rfl)
    have a3' : (X3 != 0) = true := by unfold bne; rw [a3]; rfl
    obtain ⟨em, hem⟩ : ∃ em, emptyB x0 y0 x1 y1 = em := ⟨_, rfl⟩
    have HX := Aside0.mk hem
    cases em
    rotate_left
    · have hE : rqE s 2 false (emptyB x0 y0 x1 y1) = 6 := by unfold rqE; rw [if_pos hk, hc, hem]; rfl
      have HE := Aside0.mk (show rqV s 2 false x0 y0 x1 y1 = .tuple #[.int .i64 0, .int .i64 0, .int .i64 0, .int .i64 6] ∧ rqS s 2 false x0 y0 x1 y1 = s by
        unfold rqV rqS
        rw [hE]
        exact ⟨rfl, rfl⟩)
      clear hc hE hk hem
      go_enter Try.func12, Try.ntmps12
      go_wp2_with (first
    | (go_at_call 25; refine (usable_w (by repeat (with_reducible first | exact HS.out | apply sl_drewN | apply sl_drew)) 0 (by rfl)).mono ?_; rintro e wu ⟨rfl, hs⟩; (try simp only [World.size_alloc] at hs); replace HS := Aside0.mk hs; clear hs)
    | (go_at_call 26; refine (mask_w (by repeat (with_reducible first | exact HS.out | apply sl_drewN | apply sl_drew)) 0 HM.out (by rfl)).mono ?_; rintro e wm ⟨rfl, hs⟩; (try simp only [World.size_alloc] at hs); replace HS := Aside0.mk hs; clear hs; obtain ⟨mb, ho⟩ := sl_open HS.out 0 rfl; have hm8 := c_at ho 0 rfl 8 rfl; have hm9 := c_at ho 0 rfl 9 rfl; clear ho)
    | (go_at_call 28; refine (limited_w (by repeat (with_reducible first | exact HS.out | apply sl_drewN | apply sl_drew)) 0 s.fx s.fy HA.out.1 HA.out.2 (by rfl)).mono ?_; rintro e wl ⟨rfl, hs⟩; (try simp only [World.size_alloc] at hs); replace HS := Aside0.mk hs; clear hs; clear hm8 hm9; have bx0 := c_at HS.out 2 rfl 0 rfl; have bx1 := c_at HS.out 2 rfl 1 rfl; have bx2 := c_at HS.out 2 rfl 2 rfl; have bx3 := c_at HS.out 2 rfl 3 rfl; have bl := blk_lt (sl_blk HS.out 2 rfl))
    | (go_at_call 29; refine (empty_c (sl_box HS.out #[.int .i64 A, .int .i64 B] 23) x0 y0 x1 y1 HX.out).mono ?_; rintro e we ⟨rfl, hs⟩; (try simp only [World.size_alloc] at hs); replace HS := Aside0.mk hs; clear hs; clear bx0 bx1 bx2 bx3 bl; have bl := blk_lt (sl_blk HS.out 2 rfl); have bx0 := c_at HS.out 2 rfl 0 rfl; have bx1 := c_at HS.out 2 rfl 1 rfl; have bx2 := c_at HS.out 2 rfl 2 rfl; have bx3 := c_at HS.out 2 rfl 3 rfl; have wx0 := c_at HS.out 3 rfl 0 rfl; have wx1 := c_at HS.out 3 rfl 1 rfl; have wf0 := f_at HS.out 3 rfl 0; have wf1 := f_at HS.out 3 rfl 1; have wl1 := blk_lt (sl_blk HS.out 3 rfl)))
      refine bodyPost_ret (results_list (rs := [.tmp 8, .tmp 9, .tmp 10, .tmp 11]) rfl (by simp) (.tmp (.tmp (.tmp (.tmp .nil))))) rfl ?_
      rw [HE.out.1, HE.out.2]
      exact ⟨rfl, sl_take HS.out 2⟩
    obtain ⟨DX, hDX⟩ : ∃ D, x1 - x0 = D := ⟨_, rfl⟩
    obtain ⟨DY, hDY⟩ : ∃ D, y1 - y0 = D := ⟨_, rfl⟩
    have hr := emp_rng hem
    have hd1 : wrap64 (x1 - x0) = DX := by rw [← hDX]; unfold wrap64; omega
    have hd2 : wrap64 (y1 - y0) = DY := by rw [← hDY]; unfold wrap64; omega
    have hE : rqE s 2 false (emptyB x0 y0 x1 y1) = 0 := by unfold rqE; rw [if_pos hk, hc, hem]; rfl
    have HE := Aside0.mk (show rqV s 2 false x0 y0 x1 y1 = .tuple #[.int .i64 DX, .int .i64 DY, .int .i64 N1, .int .i64 0] ∧ rqS s 2 false x0 y0 x1 y1 = { s with sx := DX, sy := DY, b := setB s.b 2 false } by
      unfold rqV rqS rqX rqY
      rw [if_pos hE, if_pos hE, if_pos hc, if_pos hc, hDX, hDY, HN.out]
      exact ⟨rfl, rfl⟩)
    clear hc hE hk hem hr hDX hDY
    go_enter Try.func12, Try.ntmps12
    go_wp2_with (first
    | (go_at_call 25; refine (usable_w (by repeat (with_reducible first | exact HS.out | apply sl_drewN | apply sl_drew)) 0 (by rfl)).mono ?_; rintro e wu ⟨rfl, hs⟩; (try simp only [World.size_alloc] at hs); replace HS := Aside0.mk hs; clear hs)
    | (go_at_call 26; refine (mask_w (by repeat (with_reducible first | exact HS.out | apply sl_drewN | apply sl_drew)) 0 HM.out (by rfl)).mono ?_; rintro e wm ⟨rfl, hs⟩; (try simp only [World.size_alloc] at hs); replace HS := Aside0.mk hs; clear hs; obtain ⟨mb, ho⟩ := sl_open HS.out 0 rfl; have hm8 := c_at ho 0 rfl 8 rfl; have hm9 := c_at ho 0 rfl 9 rfl; clear ho)
    | (go_at_call 28; refine (limited_w (by repeat (with_reducible first | exact HS.out | apply sl_drewN | apply sl_drew)) 0 s.fx s.fy HA.out.1 HA.out.2 (by rfl)).mono ?_; rintro e wl ⟨rfl, hs⟩; (try simp only [World.size_alloc] at hs); replace HS := Aside0.mk hs; clear hs; clear hm8 hm9; have bx0 := c_at HS.out 2 rfl 0 rfl; have bx1 := c_at HS.out 2 rfl 1 rfl; have bx2 := c_at HS.out 2 rfl 2 rfl; have bx3 := c_at HS.out 2 rfl 3 rfl; have bl := blk_lt (sl_blk HS.out 2 rfl))
    | (go_at_call 29; refine (empty_c (sl_box HS.out #[.int .i64 A, .int .i64 B] 23) x0 y0 x1 y1 HX.out).mono ?_; rintro e we ⟨rfl, hs⟩; (try simp only [World.size_alloc] at hs); replace HS := Aside0.mk hs; clear hs; clear bx0 bx1 bx2 bx3 bl; have bl := blk_lt (sl_blk HS.out 2 rfl); have bx0 := c_at HS.out 2 rfl 0 rfl; have bx1 := c_at HS.out 2 rfl 1 rfl; have bx2 := c_at HS.out 2 rfl 2 rfl; have bx3 := c_at HS.out 2 rfl 3 rfl; have wx0 := c_at HS.out 3 rfl 0 rfl; have wx1 := c_at HS.out 3 rfl 1 rfl; have wf0 := f_at HS.out 3 rfl 0; have wf1 := f_at HS.out 3 rfl 1; have wl1 := blk_lt (sl_blk HS.out 3 rfl)))
    have HS2 := sl_put (sl_put HS.out 3 rfl 0 (.int .i64 DX)) 3 rfl 1 (.int .i64 DY)
    obtain ⟨m, ho⟩ := sl_open HS2 0 rfl
    have HO := Aside0.mk ho
    clear ho HS2
    refine start_ (n := 11) (S := fun w' => w'.cell? ⟨g, 1, none⟩ = some (.map (some m))) (ds := [10]) #[false, false, false, false, false, false, false, false, false, false, false] (by kernel_rfl) rfl rfl ((c_at (sl_drew HO.out) 0 rfl 1 rfl)) (fun hHeld => ?_)
    refine pure_ (i := 0) (N := some 61) (v := ?_) (a' := ?_) #[true, false, false, false, false, false, false, false, false, false, false] rfl rfl (by kernel_rfl) (fun _ _ _ h => h) (Or.inl ⟨by rfl, ?_⟩) ?_ ?_
    rotate_left
    · intro w'
      go_simp
      with_reducible rfl
    rotate_left
    · simp only [Act.put, List.setIfInBounds_toArray, List.set_cons_zero, List.set_cons_succ, i64_w, i32_w, IntKind.wrap_u32, IntKind.wrap_u8, IntKind.wrap_u16]
      rfl
    refine pure_ (i := 1) (N := some 62) (v := ?_) (a' := ?_) #[true, true, false, false, false, false, false, false, false, false, false] rfl rfl (by kernel_rfl) (fun _ _ _ h => h) (Or.inl ⟨by rfl, ?_⟩) ?_ ?_
    rotate_left
    · intro w'
      go_simp
      with_reducible rfl
    rotate_left
    · simp only [Act.put, List.setIfInBounds_toArray, List.set_cons_zero, List.set_cons_succ, i64_w, i32_w, IntKind.wrap_u32, IntKind.wrap_u8, IntKind.wrap_u16]
      rfl
    refine pure_ (i := 2) (N := some 63) (v := ?_) (a' := ?_) #[true, true, true, false, false, false, false, false, false, false, false] rfl rfl (by kernel_rfl) (fun _ _ _ h => h) (Or.inl ⟨by rfl, ?_⟩) ?_ ?_
    rotate_left
    · intro w'
      go_simp
      with_reducible rfl
    rotate_left
    · simp only [Act.put, List.setIfInBounds_toArray, List.set_cons_zero, List.set_cons_succ, i64_w, i32_w, IntKind.wrap_u32, IntKind.wrap_u8, IntKind.wrap_u16]
      rfl
    refine pure_ (i := 4) (N := some 65) (v := ?_) (a' := ?_) #[true, true, true, false, true, false, false, false, false, false, false] rfl rfl (by kernel_rfl) (fun _ _ _ h => h) (Or.inl ⟨by rfl, ?_⟩) ?_ ?_
    rotate_left
    · intro w'
      go_simp
      with_reducible rfl
    rotate_left
    · simp only [Act.put, List.setIfInBounds_toArray, List.set_cons_zero, List.set_cons_succ, i64_w, i32_w, IntKind.wrap_u32, IntKind.wrap_u8, IntKind.wrap_u16]
      rfl
    refine pure_ (i := 5) (N := some 66) (v := ?_) (a' := ?_) #[true, true, true, false, true, true, false, false, false, false, false] rfl rfl (by kernel_rfl) (fun _ _ _ h => h) (Or.inl ⟨by rfl, ?_⟩) ?_ ?_
    rotate_left
    · intro w'
      go_simp
      with_reducible rfl
    rotate_left
    · simp only [Act.put, List.setIfInBounds_toArray, List.set_cons_zero, List.set_cons_succ, i64_w, i32_w, IntKind.wrap_u32, IntKind.wrap_u8, IntKind.wrap_u16]
      rfl
    refine pure_ (i := 6) (N := some 67) (v := ?_) (a' := ?_) #[true, true, true, false, true, true, true, false, false, false, false] rfl rfl (by kernel_rfl) (fun _ _ _ h => h) (Or.inl ⟨by rfl, ?_⟩) ?_ ?_
    rotate_left
    · intro w'
      go_simp
      with_reducible rfl
    rotate_left
    · simp only [Act.put, List.setIfInBounds_toArray, List.set_cons_zero, List.set_cons_succ, i64_w, i32_w, IntKind.wrap_u32, IntKind.wrap_u8, IntKind.wrap_u16]
      rfl
    refine pure_ (i := 7) (N := some 68) (v := ?_) (a' := ?_) #[true, true, true, false, true, true, true, true, false, false, false] rfl rfl (by kernel_rfl) (fun _ _ _ h => h) (Or.inl ⟨by rfl, ?_⟩) ?_ ?_
    rotate_left
    · intro w'
      go_simp
      with_reducible rfl
    rotate_left
    · simp only [Act.put, List.setIfInBounds_toArray, List.set_cons_zero, List.set_cons_succ, i64_w, i32_w, IntKind.wrap_u32, IntKind.wrap_u8, IntKind.wrap_u16]
      rfl
    refine pure_ (i := 8) (N := some 69) (v := ?_) (a' := ?_) #[true, true, true, false, true, true, true, true, true, false, false] rfl rfl (by kernel_rfl) (fun _ _ _ h => h) (Or.inl ⟨by rfl, ?_⟩) ?_ ?_
    rotate_left
    · intro w'
      go_simp
      with_reducible rfl
    rotate_left
    · simp only [Act.put, List.setIfInBounds_toArray, List.set_cons_zero, List.set_cons_succ, i64_w, i32_w, IntKind.wrap_u32, IntKind.wrap_u8, IntKind.wrap_u16]
      rfl
    refine pure_ (i := 9) (N := some 70) (v := ?_) (a' := ?_) #[true, true, true, false, true, true, true, true, true, true, false] rfl rfl (by kernel_rfl) (fun _ _ _ h => h) (Or.inl ⟨by rfl, ?_⟩) ?_ ?_
    rotate_left
    · intro w'
      go_simp
      with_reducible rfl
    rotate_left
    · simp only [Act.put, List.setIfInBounds_toArray, List.set_cons_zero, List.set_cons_succ, i64_w, i32_w, IntKind.wrap_u32, IntKind.wrap_u8, IntKind.wrap_u16]
      rfl
    refine take_ (i := 3) (N := some 64) (v := ?_) (a' := ?_) #[true, true, true, true, true, true, true, true, true, true, false] rfl rfl (by kernel_rfl) (fun _ _ _ h => h) (Or.inl ⟨by rfl, ?_⟩) hHeld ?_ ?_
    rotate_left
    · intro w' s0
      go_simp
      with_reducible rfl
    rotate_left
    · simp only [Act.put, List.setIfInBounds_toArray, List.set_cons_zero, List.set_cons_succ, i64_w, i32_w, IntKind.wrap_u32, IntKind.wrap_u8, IntKind.wrap_u16]
      rfl
    refine last_ (i := 10) (N := none) #[true, true, true, true, true, true, true, true, true, true, true] rfl rfl (by kernel_rfl) (by decide) (fun K hK => ?_)
    refine sl_bput_step (by rfl) rfl (sl_drew HO.out) 4 rfl _ _ _ rfl rfl 2 (by decide) rfl false (congrArg (Value.int .i64) (show wrap64 0 = bi false by unfold wrap64 bi; decide)) ?_
    intro w5 hs5
    have p0 := c_at hs5 3 rfl 0 rfl
    have p1 := c_at hs5 3 rfl 1 rfl
    have q0 := c_at hs5 0 rfl 10 rfl
    have q1 := c_at hs5 0 rfl 11 rfl
    have f0 := f_at hs5 0 rfl 10
    have f1 := f_at hs5 0 rfl 11
    have hl1 := blk_lt (sl_blk hs5 0 rfl)
    refine hK.out _ _ ?_
    clear hK K
    refine done_ (by kernel_rfl) ?_
    go_wp2_with (fail)
    have HO3 := Aside0.mk (sl_put (sl_put hs5 0 rfl 10 (.int .i64 DX)) 0 rfl 11 (.int .i64 DY))
    refine start_ (n := 9) (S := fun w' => w'.cell? ⟨wl.heap.size, 0, none⟩ = some (.int .i64 DX) ∧ w'.cell? ⟨wl.heap.size, 1, none⟩ = some (.int .i64 DY)) (ds := []) #[false, false, false, false, false, false, false, false, false] (by kernel_rfl) rfl rfl ⟨(c_at (sl_drew HO3.out) 3 rfl 0 rfl), (c_at (sl_drew HO3.out) 3 rfl 1 rfl)⟩ (fun hHeld => ?_)
    refine pure_ (i := 0) (N := some 75) (v := ?_) (a' := ?_) #[true, false, false, false, false, false, false, false, false] rfl rfl (by kernel_rfl) (fun _ _ _ h => h) (Or.inl ⟨by rfl, ?_⟩) ?_ ?_
    rotate_left
    · intro w'
      go_simp
      with_reducible rfl
    rotate_left
    · simp only [Act.put, List.setIfInBounds_toArray, List.set_cons_zero, List.set_cons_succ, i64_w, i32_w, IntKind.wrap_u32, IntKind.wrap_u8, IntKind.wrap_u16]
      rfl
    refine pure_ (i := 2) (N := some 77) (v := ?_) (a' := ?_) #[true, false, true, false, false, false, false, false, false] rfl rfl (by kernel_rfl) (fun _ _ _ h => h) (Or.inl ⟨by rfl, ?_⟩) ?_ ?_
    rotate_left
    · intro w'
      go_simp
      with_reducible rfl
    rotate_left
    · simp only [Act.put, List.setIfInBounds_toArray, List.set_cons_zero, List.set_cons_succ, i64_w, i32_w, IntKind.wrap_u32, IntKind.wrap_u8, IntKind.wrap_u16]
      rfl
    refine pure_ (i := 4) (N := some 79) (v := ?_) (a' := ?_) #[true, false, true, false, true, false, false, false, false] rfl rfl (by kernel_rfl) (fun _ _ _ h => h) (Or.inl ⟨by rfl, ?_⟩) ?_ ?_
    rotate_left
    · intro w'
      go_simp
      with_reducible rfl
    rotate_left
    · simp only [Act.put, List.setIfInBounds_toArray, List.set_cons_zero, List.set_cons_succ, i64_w, i32_w, IntKind.wrap_u32, IntKind.wrap_u8, IntKind.wrap_u16]
      rfl
    refine take_ (i := 1) (N := some 76) (v := ?_) (a' := ?_) #[true, true, true, false, true, false, false, false, false] rfl rfl (by kernel_rfl) (fun _ _ _ h => h) (Or.inl ⟨by rfl, ?_⟩) hHeld ?_ ?_
    rotate_left
    · rintro w' ⟨s0, s1⟩
      go_simp
      with_reducible rfl
    rotate_left
    · simp only [Act.put, List.setIfInBounds_toArray, List.set_cons_zero, List.set_cons_succ, i64_w, i32_w, IntKind.wrap_u32, IntKind.wrap_u8, IntKind.wrap_u16]
      rfl
    refine pure_ (i := 5) (N := some 8) (v := ?_) (a' := ?_) #[true, true, true, false, true, true, false, false, false] rfl rfl (by kernel_rfl) (fun _ _ _ h => h) (Or.inl ⟨by rfl, ?_⟩) ?_ ?_
    rotate_left
    · intro w'
      go_simp
      with_reducible rfl
    rotate_left
    · simp only [Act.put, List.setIfInBounds_toArray, List.set_cons_zero, List.set_cons_succ, i64_w, i32_w, IntKind.wrap_u32, IntKind.wrap_u8, IntKind.wrap_u16]
      rfl
    refine take_ (i := 3) (N := some 78) (v := ?_) (a' := ?_) #[true, true, true, true, true, true, false, false, false] rfl rfl (by kernel_rfl) (fun _ _ _ h => h) (Or.inl ⟨by rfl, ?_⟩) hHeld ?_ ?_
    rotate_left
    · rintro w' ⟨s0, s1⟩
      go_simp
      with_reducible rfl
    rotate_left
    · simp only [Act.put, List.setIfInBounds_toArray, List.set_cons_zero, List.set_cons_succ, i64_w, i32_w, IntKind.wrap_u32, IntKind.wrap_u8, IntKind.wrap_u16]
      rfl
    refine pure_ (i := 6) (N := some 9) (v := ?_) (a' := ?_) #[true, true, true, true, true, true, true, false, false] rfl rfl (by kernel_rfl) (fun _ _ _ h => h) (Or.inl ⟨by rfl, ?_⟩) ?_ ?_
    rotate_left
    · intro w'
      go_simp
      with_reducible rfl
    rotate_left
    · simp only [Act.put, List.setIfInBounds_toArray, List.set_cons_zero, List.set_cons_succ, i64_w, i32_w, IntKind.wrap_u32, IntKind.wrap_u8, IntKind.wrap_u16]
      rfl
    refine pure_ (i := 7) (N := some 10) (v := ?_) (a' := ?_) #[true, true, true, true, true, true, true, true, false] rfl rfl (by kernel_rfl) (fun _ _ _ h => h) (Or.inl ⟨by rfl, ?_⟩) ?_ ?_
    rotate_left
    · intro w'
      go_simp
      with_reducible rfl
    rotate_left
    · simp only [Act.put, List.setIfInBounds_toArray, List.set_cons_zero, List.set_cons_succ, i64_w, i32_w, IntKind.wrap_u32, IntKind.wrap_u8, IntKind.wrap_u16]
      rfl
    refine pure_ (i := 8) (N := some 11) (v := ?_) (a' := ?_) #[true, true, true, true, true, true, true, true, true] rfl rfl (by kernel_rfl) (fun _ _ _ h => h) (Or.inl ⟨by rfl, ?_⟩) ?_ ?_
    rotate_left
    · intro w'
      go_simp
      with_reducible rfl
    rotate_left
    · simp only [Act.put, List.setIfInBounds_toArray, List.set_cons_zero, List.set_cons_succ, i64_w, i32_w, IntKind.wrap_u32, IntKind.wrap_u8, IntKind.wrap_u16]
      rfl
    refine done_ (by kernel_rfl) ?_
    go_wp2_with (fail)
    refine bodyPost_ret (results_list (rs := [.tmp 8, .tmp 9, .tmp 10, .tmp 11]) rfl (by simp) (.tmp (.tmp (.tmp (.tmp .nil))))) rfl ?_
    rw [HE.out.1, HE.out.2]
    exact ⟨rfl, win_close (m := m) { s with sx := DX, sy := DY, b := setB s.b 2 false } (sl_pick (sl_drew HO3.out) [0, 1, 4] (by decide) rfl)⟩
theorem req_21 (g : Nat) (s : WSt) (x0 y0 x1 y1 : Int) (hs : SL w0 w [winR g s, R]) : Calls Try.prog 12 #[.pointer (some ⟨g, 0, none⟩), .int .i64 2, .bool true, .agg #[.int .i64 x0, .int .i64 y0, .int .i64 x1, .int .i64 y1]] w fun e w' => e = .returned (rqV s 2 true x0 y0 x1 y1) ∧ SL w0 w' [winR g (rqS s 2 true x0 y0 x1 y1), R] := by
  have HS := Aside0.mk (sl_box hs #[.int .i64 x0, .int .i64 y0, .int .i64 x1, .int .i64 y1] 34)
  clear hs
  obtain ⟨M, hM⟩ : ∃ M, mskI s.b = M := ⟨_, rfl⟩
  obtain ⟨N1, hN1⟩ : ∃ N, mskI (setB s.b 2 false) = N := ⟨_, rfl⟩
  have h1 := an_2 s.b
  rw [hM, hN1] at h1
  obtain ⟨N, hN⟩ : ∃ N, mskI (setB s.b 2 true) = N := ⟨_, rfl⟩
  have h2 := or_2 s.b
  rw [hN1, hN] at h2
  have h5 := ad_21 s.b
  rw [hN] at h5
  have a3 := and3 (setB s.b 2 true)
  rw [hN] at a3
  obtain ⟨X3, h33⟩ : ∃ X, Go.bits .and .i64 N 3 = X := ⟨_, rfl⟩
  rw [h33] at a3
  have HN := Aside0.mk (show mskI (setB s.b 2 true) = N from hN)
  have HM := Aside0.mk hM
  clear hM hN1 hN
  obtain ⟨A, hA⟩ : ∃ A, limI s.lx s.mx s.fx = A := ⟨_, rfl⟩
  obtain ⟨B, hB⟩ : ∃ B, limI s.ly s.my s.fy = B := ⟨_, rfl⟩
  have HA := Aside0.mk (And.intro hA hB)
  clear hA hB
  have hk : (2 : Int) = 1 ∨ (2 : Int) = 2 ∨ (2 : Int) = 4 ∨ (2 : Int) = 8 := by decide
  by_cases hc : rqC s 2 true = true
  rotate_left
  · replace a3 : (X3 == 0) = true := a3.trans (by rw [show ((setB s.b 2 true).a || (setB s.b 2 true).b) = false from Bool.eq_false_iff.2 hc]; rfl)
    have a3' : (X3 != 0) = false := by unfold bne; rw [a3]; rfl
    have hE : rqE s 2 true (emptyB x0 y0 x1 y1) = 0 := by unfold rqE; rw [if_pos hk, Bool.eq_false_iff.2 hc]; rfl
    have HE := Aside0.mk (show rqV s 2 true x0 y0 x1 y1 = .tuple #[.int .i64 A, .int .i64 B, .int .i64 N, .int .i64 0] ∧ rqS s 2 true x0 y0 x1 y1 = { s with sx := A, sy := B, b := setB s.b 2 true } by
      unfold rqV rqS rqX rqY
      rw [if_pos hE, if_pos hE, if_neg hc, if_neg hc, HA.out.1, HA.out.2, HN.out]
      exact ⟨rfl, rfl⟩)
    clear hc hE hk
    go_enter Try.func12, Try.ntmps12
    go_wp2_with (first
    | (go_at_call 25; refine (usable_w (by repeat (with_reducible first | exact HS.out | apply sl_drewN | apply sl_drew)) 0 (by rfl)).mono ?_; rintro e wu ⟨rfl, hs⟩; (try simp only [World.size_alloc] at hs); replace HS := Aside0.mk hs; clear hs)
    | (go_at_call 26; refine (mask_w (by repeat (with_reducible first | exact HS.out | apply sl_drewN | apply sl_drew)) 0 HM.out (by rfl)).mono ?_; rintro e wm ⟨rfl, hs⟩; (try simp only [World.size_alloc] at hs); replace HS := Aside0.mk hs; clear hs; obtain ⟨mb, ho⟩ := sl_open HS.out 0 rfl; have hm8 := c_at ho 0 rfl 8 rfl; have hm9 := c_at ho 0 rfl 9 rfl; clear ho)
    | (go_at_call 28; refine (limited_w (by repeat (with_reducible first | exact HS.out | apply sl_drewN | apply sl_drew)) 0 s.fx s.fy HA.out.1 HA.out.2 (by rfl)).mono ?_; rintro e wl ⟨rfl, hs⟩; (try simp only [World.size_alloc] at hs); replace HS := Aside0.mk hs; clear hs; clear hm8 hm9; have bx0 := c_at HS.out 2 rfl 0 rfl; have bx1 := c_at HS.out 2 rfl 1 rfl; have bx2 := c_at HS.out 2 rfl 2 rfl; have bx3 := c_at HS.out 2 rfl 3 rfl; have bl := blk_lt (sl_blk HS.out 2 rfl))
    | (go_at_call 29; refine (empty_c (sl_box HS.out #[.int .i64 A, .int .i64 B] 23) x0 y0 x1 y1 HX.out).mono ?_; rintro e we ⟨rfl, hs⟩; (try simp only [World.size_alloc] at hs); replace HS := Aside0.mk hs; clear hs; clear bx0 bx1 bx2 bx3 bl; have bl := blk_lt (sl_blk HS.out 2 rfl); have bx0 := c_at HS.out 2 rfl 0 rfl; have bx1 := c_at HS.out 2 rfl 1 rfl; have bx2 := c_at HS.out 2 rfl 2 rfl; have bx3 := c_at HS.out 2 rfl 3 rfl; have wx0 := c_at HS.out 3 rfl 0 rfl; have wx1 := c_at HS.out 3 rfl 1 rfl; have wf0 := f_at HS.out 3 rfl 0; have wf1 := f_at HS.out 3 rfl 1; have wl1 := blk_lt (sl_blk HS.out 3 rfl)))
    have HS2 := sl_box HS.out #[.int .i64 A, .int .i64 B] 23
    obtain ⟨m, ho⟩ := sl_open HS2 0 rfl
    have HO := Aside0.mk ho
    clear ho HS2
    refine start_ (n := 11) (S := fun w' => w'.cell? ⟨g, 1, none⟩ = some (.map (some m))) (ds := [10]) #[false, false, false, false, false, false, false, false, false, false, false] (by kernel_rfl) rfl rfl ((c_at (sl_drew HO.out) 0 rfl 1 rfl)) (fun hHeld => ?_)
    refine pure_ (i := 0) (N := some 61) (v := ?_) (a' := ?_) #[true, false, false, false, false, false, false, false, false, false, false] rfl rfl (by kernel_rfl) (fun _ _ _ h => h) (Or.inl ⟨by rfl, ?_⟩) ?_ ?_
    rotate_left
    · intro w'
      go_simp
      with_reducible rfl
    rotate_left
    · simp only [Act.put, List.setIfInBounds_toArray, List.set_cons_zero, List.set_cons_succ, i64_w, i32_w, IntKind.wrap_u32, IntKind.wrap_u8, IntKind.wrap_u16]
      rfl
    refine pure_ (i := 1) (N := some 62) (v := ?_) (a' := ?_) #[true, true, false, false, false, false, false, false, false, false, false] rfl rfl (by kernel_rfl) (fun _ _ _ h => h) (Or.inl ⟨by rfl, ?_⟩) ?_ ?_
    rotate_left
    · intro w'
      go_simp
      with_reducible rfl
    rotate_left
    · simp only [Act.put, List.setIfInBounds_toArray, List.set_cons_zero, List.set_cons_succ, i64_w, i32_w, IntKind.wrap_u32, IntKind.wrap_u8, IntKind.wrap_u16]
      rfl
    refine pure_ (i := 2) (N := some 63) (v := ?_) (a' := ?_) #[true, true, true, false, false, false, false, false, false, false, false] rfl rfl (by kernel_rfl) (fun _ _ _ h => h) (Or.inl ⟨by rfl, ?_⟩) ?_ ?_
    rotate_left
    · intro w'
      go_simp
      with_reducible rfl
    rotate_left
    · simp only [Act.put, List.setIfInBounds_toArray, List.set_cons_zero, List.set_cons_succ, i64_w, i32_w, IntKind.wrap_u32, IntKind.wrap_u8, IntKind.wrap_u16]
      rfl
    refine pure_ (i := 4) (N := some 65) (v := ?_) (a' := ?_) #[true, true, true, false, true, false, false, false, false, false, false] rfl rfl (by kernel_rfl) (fun _ _ _ h => h) (Or.inl ⟨by rfl, ?_⟩) ?_ ?_
    rotate_left
    · intro w'
      go_simp
      with_reducible rfl
    rotate_left
    · simp only [Act.put, List.setIfInBounds_toArray, List.set_cons_zero, List.set_cons_succ, i64_w, i32_w, IntKind.wrap_u32, IntKind.wrap_u8, IntKind.wrap_u16]
      rfl
    refine pure_ (i := 5) (N := some 66) (v := ?_) (a' := ?_) #[true, true, true, false, true, true, false, false, false, false, false] rfl rfl (by kernel_rfl) (fun _ _ _ h => h) (Or.inl ⟨by rfl, ?_⟩) ?_ ?_
    rotate_left
    · intro w'
      go_simp
      with_reducible rfl
    rotate_left
    · simp only [Act.put, List.setIfInBounds_toArray, List.set_cons_zero, List.set_cons_succ, i64_w, i32_w, IntKind.wrap_u32, IntKind.wrap_u8, IntKind.wrap_u16]
      rfl
    refine pure_ (i := 6) (N := some 67) (v := ?_) (a' := ?_) #[true, true, true, false, true, true, true, false, false, false, false] rfl rfl (by kernel_rfl) (fun _ _ _ h => h) (Or.inl ⟨by rfl, ?_⟩) ?_ ?_
    rotate_left
    · intro w'
      go_simp
      with_reducible rfl
    rotate_left
    · simp only [Act.put, List.setIfInBounds_toArray, List.set_cons_zero, List.set_cons_succ, i64_w, i32_w, IntKind.wrap_u32, IntKind.wrap_u8, IntKind.wrap_u16]
      rfl
    refine pure_ (i := 7) (N := some 68) (v := ?_) (a' := ?_) #[true, true, true, false, true, true, true, true, false, false, false] rfl rfl (by kernel_rfl) (fun _ _ _ h => h) (Or.inl ⟨by rfl, ?_⟩) ?_ ?_
    rotate_left
    · intro w'
      go_simp
      with_reducible rfl
    rotate_left
    · simp only [Act.put, List.setIfInBounds_toArray, List.set_cons_zero, List.set_cons_succ, i64_w, i32_w, IntKind.wrap_u32, IntKind.wrap_u8, IntKind.wrap_u16]
      rfl
    refine pure_ (i := 8) (N := some 69) (v := ?_) (a' := ?_) #[true, true, true, false, true, true, true, true, true, false, false] rfl rfl (by kernel_rfl) (fun _ _ _ h => h) (Or.inl ⟨by rfl, ?_⟩) ?_ ?_
    rotate_left
    · intro w'
      go_simp
      with_reducible rfl
    rotate_left
    · simp only [Act.put, List.setIfInBounds_toArray, List.set_cons_zero, List.set_cons_succ, i64_w, i32_w, IntKind.wrap_u32, IntKind.wrap_u8, IntKind.wrap_u16]
      rfl
    refine pure_ (i := 9) (N := some 70) (v := ?_) (a' := ?_) #[true, true, true, false, true, true, true, true, true, true, false] rfl rfl (by kernel_rfl) (fun _ _ _ h => h) (Or.inl ⟨by rfl, ?_⟩) ?_ ?_
    rotate_left
    · intro w'
      go_simp
      with_reducible rfl
    rotate_left
    · simp only [Act.put, List.setIfInBounds_toArray, List.set_cons_zero, List.set_cons_succ, i64_w, i32_w, IntKind.wrap_u32, IntKind.wrap_u8, IntKind.wrap_u16]
      rfl
    refine take_ (i := 3) (N := some 64) (v := ?_) (a' := ?_) #[true, true, true, true, true, true, true, true, true, true, false] rfl rfl (by kernel_rfl) (fun _ _ _ h => h) (Or.inl ⟨by rfl, ?_⟩) hHeld ?_ ?_
    rotate_left
    · intro w' s0
      go_simp
      with_reducible rfl
    rotate_left
    · simp only [Act.put, List.setIfInBounds_toArray, List.set_cons_zero, List.set_cons_succ, i64_w, i32_w, IntKind.wrap_u32, IntKind.wrap_u8, IntKind.wrap_u16]
      rfl
    refine last_ (i := 10) (N := none) #[true, true, true, true, true, true, true, true, true, true, true] rfl rfl (by kernel_rfl) (by decide) (fun K hK => ?_)
    refine sl_bput_step (by rfl) rfl (sl_drew HO.out) 4 rfl _ _ _ rfl rfl 2 (by decide) rfl true (congrArg (Value.int .i64) (show wrap64 1 = bi true by unfold wrap64 bi; decide)) ?_
    intro w5 hs5
    have p0 := c_at hs5 3 rfl 0 rfl
    have p1 := c_at hs5 3 rfl 1 rfl
    have q0 := c_at hs5 0 rfl 10 rfl
    have q1 := c_at hs5 0 rfl 11 rfl
    have f0 := f_at hs5 0 rfl 10
    have f1 := f_at hs5 0 rfl 11
    have hl1 := blk_lt (sl_blk hs5 0 rfl)
    refine hK.out _ _ ?_
    clear hK K
    refine done_ (by kernel_rfl) ?_
    go_wp2_with (fail)
    have HO3 := Aside0.mk (sl_put (sl_put hs5 0 rfl 10 (.int .i64 A)) 0 rfl 11 (.int .i64 B))
    refine start_ (n := 9) (S := fun w' => w'.cell? ⟨wl.heap.size, 0, none⟩ = some (.int .i64 A) ∧ w'.cell? ⟨wl.heap.size, 1, none⟩ = some (.int .i64 B)) (ds := []) #[false, false, false, false, false, false, false, false, false] (by kernel_rfl) rfl rfl ⟨(c_at (sl_drew HO3.out) 3 rfl 0 rfl), (c_at (sl_drew HO3.out) 3 rfl 1 rfl)⟩ (fun hHeld => ?_)
    refine pure_ (i := 0) (N := some 75) (v := ?_) (a' := ?_) #[true, false, false, false, false, false, false, false, false] rfl rfl (by kernel_rfl) (fun _ _ _ h => h) (Or.inl ⟨by rfl, ?_⟩) ?_ ?_
    rotate_left
    · intro w'
      go_simp
      with_reducible rfl
    rotate_left
    · simp only [Act.put, List.setIfInBounds_toArray, List.set_cons_zero, List.set_cons_succ, i64_w, i32_w, IntKind.wrap_u32, IntKind.wrap_u8, IntKind.wrap_u16]
      rfl
    refine pure_ (i := 2) (N := some 77) (v := ?_) (a' := ?_) #[true, false, true, false, false, false, false, false, false] rfl rfl (by kernel_rfl) (fun _ _ _ h => h) (Or.inl ⟨by rfl, ?_⟩) ?_ ?_
    rotate_left
    · intro w'
      go_simp
      with_reducible rfl
    rotate_left
    · simp only [Act.put, List.setIfInBounds_toArray, List.set_cons_zero, List.set_cons_succ, i64_w, i32_w, IntKind.wrap_u32, IntKind.wrap_u8, IntKind.wrap_u16]
      rfl
    refine pure_ (i := 4) (N := some 79) (v := ?_) (a' := ?_) #[true, false, true, false, true, false, false, false, false] rfl rfl (by kernel_rfl) (fun _ _ _ h => h) (Or.inl ⟨by rfl, ?_⟩) ?_ ?_
    rotate_left
    · intro w'
      go_simp
      with_reducible rfl
    rotate_left
    · simp only [Act.put, List.setIfInBounds_toArray, List.set_cons_zero, List.set_cons_succ, i64_w, i32_w, IntKind.wrap_u32, IntKind.wrap_u8, IntKind.wrap_u16]
      rfl
    refine take_ (i := 1) (N := some 76) (v := ?_) (a' := ?_) #[true, true, true, false, true, false, false, false, false] rfl rfl (by kernel_rfl) (fun _ _ _ h => h) (Or.inl ⟨by rfl, ?_⟩) hHeld ?_ ?_
    rotate_left
    · rintro w' ⟨s0, s1⟩
      go_simp
      with_reducible rfl
    rotate_left
    · simp only [Act.put, List.setIfInBounds_toArray, List.set_cons_zero, List.set_cons_succ, i64_w, i32_w, IntKind.wrap_u32, IntKind.wrap_u8, IntKind.wrap_u16]
      rfl
    refine pure_ (i := 5) (N := some 8) (v := ?_) (a' := ?_) #[true, true, true, false, true, true, false, false, false] rfl rfl (by kernel_rfl) (fun _ _ _ h => h) (Or.inl ⟨by rfl, ?_⟩) ?_ ?_
    rotate_left
    · intro w'
      go_simp
      with_reducible rfl
    rotate_left
    · simp only [Act.put, List.setIfInBounds_toArray, List.set_cons_zero, List.set_cons_succ, i64_w, i32_w, IntKind.wrap_u32, IntKind.wrap_u8, IntKind.wrap_u16]
      rfl
    refine take_ (i := 3) (N := some 78) (v := ?_) (a' := ?_) #[true, true, true, true, true, true, false, false, false] rfl rfl (by kernel_rfl) (fun _ _ _ h => h) (Or.inl ⟨by rfl, ?_⟩) hHeld ?_ ?_
    rotate_left
    · rintro w' ⟨s0, s1⟩
      go_simp
      with_reducible rfl
    rotate_left
    · simp only [Act.put, List.setIfInBounds_toArray, List.set_cons_zero, List.set_cons_succ, i64_w, i32_w, IntKind.wrap_u32, IntKind.wrap_u8, IntKind.wrap_u16]
      rfl
    refine pure_ (i := 6) (N := some 9) (v := ?_) (a' := ?_) #[true, true, true, true, true, true, true, false, false] rfl rfl (by kernel_rfl) (fun _ _ _ h => h) (Or.inl ⟨by rfl, ?_⟩) ?_ ?_
    rotate_left
    · intro w'
      go_simp
      with_reducible rfl
    rotate_left
    · simp only [Act.put, List.setIfInBounds_toArray, List.set_cons_zero, List.set_cons_succ, i64_w, i32_w, IntKind.wrap_u32, IntKind.wrap_u8, IntKind.wrap_u16]
      rfl
    refine pure_ (i := 7) (N := some 10) (v := ?_) (a' := ?_) #[true, true, true, true, true, true, true, true, false] rfl rfl (by kernel_rfl) (fun _ _ _ h => h) (Or.inl ⟨by rfl, ?_⟩) ?_ ?_
    rotate_left
    · intro w'
      go_simp
      with_reducible rfl
    rotate_left
    · simp only [Act.put, List.setIfInBounds_toArray, List.set_cons_zero, List.set_cons_succ, i64_w, i32_w, IntKind.wrap_u32, IntKind.wrap_u8, IntKind.wrap_u16]
      rfl
    refine pure_ (i := 8) (N := some 11) (v := ?_) (a' := ?_) #[true, true, true, true, true, true, true, true, true] rfl rfl (by kernel_rfl) (fun _ _ _ h => h) (Or.inl ⟨by rfl, ?_⟩) ?_ ?_
    rotate_left
    · intro w'
      go_simp
      with_reducible rfl
    rotate_left
    · simp only [Act.put, List.setIfInBounds_toArray, List.set_cons_zero, List.set_cons_succ, i64_w, i32_w, IntKind.wrap_u32, IntKind.wrap_u8, IntKind.wrap_u16]
      rfl
    refine done_ (by kernel_rfl) ?_
    go_wp2_with (fail)
    refine bodyPost_ret (results_list (rs := [.tmp 8, .tmp 9, .tmp 10, .tmp 11]) rfl (by simp) (.tmp (.tmp (.tmp (.tmp .nil))))) rfl ?_
    rw [HE.out.1, HE.out.2]
    exact ⟨rfl, win_close (m := m) { s with sx := A, sy := B, b := setB s.b 2 true } (sl_pick (sl_drew HO3.out) [0, 1, 4] (by decide) rfl)⟩
  · replace a3 : (X3 == 0) = false := a3.trans (by rw [show ((setB s.b 2 true).a || (setB s.b 2 true).b) = true from hc]; rfl)
    have a3' : (X3 != 0) = true := by unfold bne; rw [a3]; rfl
    obtain ⟨em, hem⟩ : ∃ em, emptyB x0 y0 x1 y1 = em := ⟨_, rfl⟩
    have HX := Aside0.mk hem
    cases em
    rotate_left
    · have hE : rqE s 2 true (emptyB x0 y0 x1 y1) = 6 := by unfold rqE; rw [if_pos hk, hc, hem]; rfl
      have HE := Aside0.mk (show rqV s 2 true x0 y0 x1 y1 = .tuple #[.int .i64 0, .int .i64 0, .int .i64 0, .int .i64 6] ∧ rqS s 2 true x0 y0 x1 y1 = s by
        unfold rqV rqS
        rw [hE]
        exact ⟨rfl, rfl⟩)
      clear hc hE hk hem
      go_enter Try.func12, Try.ntmps12
      go_wp2_with (first
    | (go_at_call 25; refine (usable_w (by repeat (with_reducible first | exact HS.out | apply sl_drewN | apply sl_drew)) 0 (by rfl)).mono ?_; rintro e wu ⟨rfl, hs⟩; (try simp only [World.size_alloc] at hs); replace HS := Aside0.mk hs; clear hs)
    | (go_at_call 26; refine (mask_w (by repeat (with_reducible first | exact HS.out | apply sl_drewN | apply sl_drew)) 0 HM.out (by rfl)).mono ?_; rintro e wm ⟨rfl, hs⟩; (try simp only [World.size_alloc] at hs); replace HS := Aside0.mk hs; clear hs; obtain ⟨mb, ho⟩ := sl_open HS.out 0 rfl; have hm8 := c_at ho 0 rfl 8 rfl; have hm9 := c_at ho 0 rfl 9 rfl; clear ho)
    | (go_at_call 28; refine (limited_w (by repeat (with_reducible first | exact HS.out | apply sl_drewN | apply sl_drew)) 0 s.fx s.fy HA.out.1 HA.out.2 (by rfl)).mono ?_; rintro e wl ⟨rfl, hs⟩; (try simp only [World.size_alloc] at hs); replace HS := Aside0.mk hs; clear hs; clear hm8 hm9; have bx0 := c_at HS.out 2 rfl 0 rfl; have bx1 := c_at HS.out 2 rfl 1 rfl; have bx2 := c_at HS.out 2 rfl 2 rfl; have bx3 := c_at HS.out 2 rfl 3 rfl; have bl := blk_lt (sl_blk HS.out 2 rfl))
    | (go_at_call 29; refine (empty_c (sl_box HS.out #[.int .i64 A, .int .i64 B] 23) x0 y0 x1 y1 HX.out).mono ?_; rintro e we ⟨rfl, hs⟩; (try simp only [World.size_alloc] at hs); replace HS := Aside0.mk hs; clear hs; clear bx0 bx1 bx2 bx3 bl; have bl := blk_lt (sl_blk HS.out 2 rfl); have bx0 := c_at HS.out 2 rfl 0 rfl; have bx1 := c_at HS.out 2 rfl 1 rfl; have bx2 := c_at HS.out 2 rfl 2 rfl; have bx3 := c_at HS.out 2 rfl 3 rfl; have wx0 := c_at HS.out 3 rfl 0 rfl; have wx1 := c_at HS.out 3 rfl 1 rfl; have wf0 := f_at HS.out 3 rfl 0; have wf1 := f_at HS.out 3 rfl 1; have wl1 := blk_lt (sl_blk HS.out 3 rfl)))
      refine bodyPost_ret (results_list (rs := [.tmp 8, .tmp 9, .tmp 10, .tmp 11]) rfl (by simp) (.tmp (.tmp (.tmp (.tmp .nil))))) rfl ?_
      rw [HE.out.1, HE.out.2]
      exact ⟨rfl, sl_take HS.out 2⟩
    obtain ⟨DX, hDX⟩ : ∃ D, x1 - x0 = D := ⟨_, rfl⟩
    obtain ⟨DY, hDY⟩ : ∃ D, y1 - y0 = D := ⟨_, rfl⟩
    have hr := emp_rng hem
    have hd1 : wrap64 (x1 - x0) = DX := by rw [← hDX]; unfold wrap64; omega
    have hd2 : wrap64 (y1 - y0) = DY := by rw [← hDY]; unfold wrap64; omega
    have hE : rqE s 2 true (emptyB x0 y0 x1 y1) = 0 := by unfold rqE; rw [if_pos hk, hc, hem]; rfl
    have HE := Aside0.mk (show rqV s 2 true x0 y0 x1 y1 = .tuple #[.int .i64 DX, .int .i64 DY, .int .i64 N, .int .i64 0] ∧ rqS s 2 true x0 y0 x1 y1 = { s with sx := DX, sy := DY, b := setB s.b 2 true } by
      unfold rqV rqS rqX rqY
      rw [if_pos hE, if_pos hE, if_pos hc, if_pos hc, hDX, hDY, HN.out]
      exact ⟨rfl, rfl⟩)
    clear hc hE hk hem hr hDX hDY
    go_enter Try.func12, Try.ntmps12
    go_wp2_with (first
    | (go_at_call 25; refine (usable_w (by repeat (with_reducible first | exact HS.out | apply sl_drewN | apply sl_drew)) 0 (by rfl)).mono ?_; rintro e wu ⟨rfl, hs⟩; (try simp only [World.size_alloc] at hs); replace HS := Aside0.mk hs; clear hs)
    | (go_at_call 26; refine (mask_w (by repeat (with_reducible first | exact HS.out | apply sl_drewN | apply sl_drew)) 0 HM.out (by rfl)).mono ?_; rintro e wm ⟨rfl, hs⟩; (try simp only [World.size_alloc] at hs); replace HS := Aside0.mk hs; clear hs; obtain ⟨mb, ho⟩ := sl_open HS.out 0 rfl; have hm8 := c_at ho 0 rfl 8 rfl; have hm9 := c_at ho 0 rfl 9 rfl; clear ho)
    | (go_at_call 28; refine (limited_w (by repeat (with_reducible first | exact HS.out | apply sl_drewN | apply sl_drew)) 0 s.fx s.fy HA.out.1 HA.out.2 (by rfl)).mono ?_; rintro e wl ⟨rfl, hs⟩; (try simp only [World.size_alloc] at hs); replace HS := Aside0.mk hs; clear hs; clear hm8 hm9; have bx0 := c_at HS.out 2 rfl 0 rfl; have bx1 := c_at HS.out 2 rfl 1 rfl; have bx2 := c_at HS.out 2 rfl 2 rfl; have bx3 := c_at HS.out 2 rfl 3 rfl; have bl := blk_lt (sl_blk HS.out 2 rfl))
    | (go_at_call 29; refine (empty_c (sl_box HS.out #[.int .i64 A, .int .i64 B] 23) x0 y0 x1 y1 HX.out).mono ?_; rintro e we ⟨rfl, hs⟩; (try simp only [World.size_alloc] at hs); replace HS := Aside0.mk hs; clear hs; clear bx0 bx1 bx2 bx3 bl; have bl := blk_lt (sl_blk HS.out 2 rfl); have bx0 := c_at HS.out 2 rfl 0 rfl; have bx1 := c_at HS.out 2 rfl 1 rfl; have bx2 := c_at HS.out 2 rfl 2 rfl; have bx3 := c_at HS.out 2 rfl 3 rfl; have wx0 := c_at HS.out 3 rfl 0 rfl; have wx1 := c_at HS.out 3 rfl 1 rfl; have wf0 := f_at HS.out 3 rfl 0; have wf1 := f_at HS.out 3 rfl 1; have wl1 := blk_lt (sl_blk HS.out 3 rfl)))
    have HS2 := sl_put (sl_put HS.out 3 rfl 0 (.int .i64 DX)) 3 rfl 1 (.int .i64 DY)
    obtain ⟨m, ho⟩ := sl_open HS2 0 rfl
    have HO := Aside0.mk ho
    clear ho HS2
    refine start_ (n := 11) (S := fun w' => w'.cell? ⟨g, 1, none⟩ = some (.map (some m))) (ds := [10]) #[false, false, false, false, false, false, false, false, false, false, false] (by kernel_rfl) rfl rfl ((c_at (sl_drew HO.out) 0 rfl 1 rfl)) (fun hHeld => ?_)
    refine pure_ (i := 0) (N := some 61) (v := ?_) (a' := ?_) #[true, false, false, false, false, false, false, false, false, false, false] rfl rfl (by kernel_rfl) (fun _ _ _ h => h) (Or.inl ⟨by rfl, ?_⟩) ?_ ?_
    rotate_left
    · intro w'
      go_simp
      with_reducible rfl
    rotate_left
    · simp only [Act.put, List.setIfInBounds_toArray, List.set_cons_zero, List.set_cons_succ, i64_w, i32_w, IntKind.wrap_u32, IntKind.wrap_u8, IntKind.wrap_u16]
      rfl
    refine pure_ (i := 1) (N := some 62) (v := ?_) (a' := ?_) #[true, true, false, false, false, false, false, false, false, false, false] rfl rfl (by kernel_rfl) (fun _ _ _ h => h) (Or.inl ⟨by rfl, ?_⟩) ?_ ?_
    rotate_left
    · intro w'
      go_simp
      with_reducible rfl
    rotate_left
    · simp only [Act.put, List.setIfInBounds_toArray, List.set_cons_zero, List.set_cons_succ, i64_w, i32_w, IntKind.wrap_u32, IntKind.wrap_u8, IntKind.wrap_u16]
      rfl
    refine pure_ (i := 2) (N := some 63) (v := ?_) (a' := ?_) #[true, true, true, false, false, false, false, false, false, false, false] rfl rfl (by kernel_rfl) (fun _ _ _ h => h) (Or.inl ⟨by rfl, ?_⟩) ?_ ?_
    rotate_left
    · intro w'
      go_simp
      with_reducible rfl
    rotate_left
    · simp only [Act.put, List.setIfInBounds_toArray, List.set_cons_zero, List.set_cons_succ, i64_w, i32_w, IntKind.wrap_u32, IntKind.wrap_u8, IntKind.wrap_u16]
      rfl
    refine pure_ (i := 4) (N := some 65) (v := ?_) (a' := ?_) #[true, true, true, false, true, false, false, false, false, false, false] rfl rfl (by kernel_rfl) (fun _ _ _ h => h) (Or.inl ⟨by rfl, ?_⟩) ?_ ?_
    rotate_left
    · intro w'
      go_simp
      with_reducible rfl
    rotate_left
    · simp only [Act.put, List.setIfInBounds_toArray, List.set_cons_zero, List.set_cons_succ, i64_w, i32_w, IntKind.wrap_u32, IntKind.wrap_u8, IntKind.wrap_u16]
      rfl
    refine pure_ (i := 5) (N := some 66) (v := ?_) (a' := ?_) #[true, true, true, false, true, true, false, false, false, false, false] rfl rfl (by kernel_rfl) (fun _ _ _ h => h) (Or.inl ⟨by rfl, ?_⟩) ?_ ?_
    rotate_left
    · intro w'
      go_simp
      with_reducible rfl
    rotate_left
    · simp only [Act.put, List.setIfInBounds_toArray, List.set_cons_zero, List.set_cons_succ, i64_w, i32_w, IntKind.wrap_u32, IntKind.wrap_u8, IntKind.wrap_u16]
      rfl
    refine pure_ (i := 6) (N := some 67) (v := ?_) (a' := ?_) #[true, true, true, false, true, true, true, false, false, false, false] rfl rfl (by kernel_rfl) (fun _ _ _ h => h) (Or.inl ⟨by rfl, ?_⟩) ?_ ?_
    rotate_left
    · intro w'
      go_simp
      with_reducible rfl
    rotate_left
    · simp only [Act.put, List.setIfInBounds_toArray, List.set_cons_zero, List.set_cons_succ, i64_w, i32_w, IntKind.wrap_u32, IntKind.wrap_u8, IntKind.wrap_u16]
      rfl
    refine pure_ (i := 7) (N := some 68) (v := ?_) (a' := ?_) #[true, true, true, false, true, true, true, true, false, false, false] rfl rfl (by kernel_rfl) (fun _ _ _ h => h) (Or.inl ⟨by rfl, ?_⟩) ?_ ?_
    rotate_left
    · intro w'
      go_simp
      with_reducible rfl
    rotate_left
    · simp only [Act.put, List.setIfInBounds_toArray, List.set_cons_zero, List.set_cons_succ, i64_w, i32_w, IntKind.wrap_u32, IntKind.wrap_u8, IntKind.wrap_u16]
      rfl
    refine pure_ (i := 8) (N := some 69) (v := ?_) (a' := ?_) #[true, true, true, false, true, true, true, true, true, false, false] rfl rfl (by kernel_rfl) (fun _ _ _ h => h) (Or.inl ⟨by rfl, ?_⟩) ?_ ?_
    rotate_left
    · intro w'
      go_simp
      with_reducible rfl
    rotate_left
    · simp only [Act.put, List.setIfInBounds_toArray, List.set_cons_zero, List.set_cons_succ, i64_w, i32_w, IntKind.wrap_u32, IntKind.wrap_u8, IntKind.wrap_u16]
      rfl
    refine pure_ (i := 9) (N := some 70) (v := ?_) (a' := ?_) #[true, true, true, false, true, true, true, true, true, true, false] rfl rfl (by kernel_rfl) (fun _ _ _ h => h) (Or.inl ⟨by rfl, ?_⟩) ?_ ?_
    rotate_left
    · intro w'
      go_simp
      with_reducible rfl
    rotate_left
    · simp only [Act.put, List.setIfInBounds_toArray, List.set_cons_zero, List.set_cons_succ, i64_w, i32_w, IntKind.wrap_u32, IntKind.wrap_u8, IntKind.wrap_u16]
      rfl
    refine take_ (i := 3) (N := some 64) (v := ?_) (a' := ?_) #[true, true, true, true, true, true, true, true, true, true, false] rfl rfl (by kernel_rfl) (fun _ _ _ h => h) (Or.inl ⟨by rfl, ?_⟩) hHeld ?_ ?_
    rotate_left
    · intro w' s0
      go_simp
      with_reducible rfl
    rotate_left
    · simp only [Act.put, List.setIfInBounds_toArray, List.set_cons_zero, List.set_cons_succ, i64_w, i32_w, IntKind.wrap_u32, IntKind.wrap_u8, IntKind.wrap_u16]
      rfl
    refine last_ (i := 10) (N := none) #[true, true, true, true, true, true, true, true, true, true, true] rfl rfl (by kernel_rfl) (by decide) (fun K hK => ?_)
    refine sl_bput_step (by rfl) rfl (sl_drew HO.out) 4 rfl _ _ _ rfl rfl 2 (by decide) rfl true (congrArg (Value.int .i64) (show wrap64 1 = bi true by unfold wrap64 bi; decide)) ?_
    intro w5 hs5
    have p0 := c_at hs5 3 rfl 0 rfl
    have p1 := c_at hs5 3 rfl 1 rfl
    have q0 := c_at hs5 0 rfl 10 rfl
    have q1 := c_at hs5 0 rfl 11 rfl
    have f0 := f_at hs5 0 rfl 10
    have f1 := f_at hs5 0 rfl 11
    have hl1 := blk_lt (sl_blk hs5 0 rfl)
    refine hK.out _ _ ?_
    clear hK K
    refine done_ (by kernel_rfl) ?_
    go_wp2_with (fail)
    have HO3 := Aside0.mk (sl_put (sl_put hs5 0 rfl 10 (.int .i64 DX)) 0 rfl 11 (.int .i64 DY))
    refine start_ (n := 9) (S := fun w' => w'.cell? ⟨wl.heap.size, 0, none⟩ = some (.int .i64 DX) ∧ w'.cell? ⟨wl.heap.size, 1, none⟩ = some (.int .i64 DY)) (ds := []) #[false, false, false, false, false, false, false, false, false] (by kernel_rfl) rfl rfl ⟨(c_at (sl_drew HO3.out) 3 rfl 0 rfl), (c_at (sl_drew HO3.out) 3 rfl 1 rfl)⟩ (fun hHeld => ?_)
    refine pure_ (i := 0) (N := some 75) (v := ?_) (a' := ?_) #[true, false, false, false, false, false, false, false, false] rfl rfl (by kernel_rfl) (fun _ _ _ h => h) (Or.inl ⟨by rfl, ?_⟩) ?_ ?_
    rotate_left
    · intro w'
      go_simp
      with_reducible rfl
    rotate_left
    · simp only [Act.put, List.setIfInBounds_toArray, List.set_cons_zero, List.set_cons_succ, i64_w, i32_w, IntKind.wrap_u32, IntKind.wrap_u8, IntKind.wrap_u16]
      rfl
    refine pure_ (i := 2) (N := some 77) (v := ?_) (a' := ?_) #[true, false, true, false, false, false, false, false, false] rfl rfl (by kernel_rfl) (fun _ _ _ h => h) (Or.inl ⟨by rfl, ?_⟩) ?_ ?_
    rotate_left
    · intro w'
      go_simp
      with_reducible rfl
    rotate_left
    · simp only [Act.put, List.setIfInBounds_toArray, List.set_cons_zero, List.set_cons_succ, i64_w, i32_w, IntKind.wrap_u32, IntKind.wrap_u8, IntKind.wrap_u16]
      rfl
    refine pure_ (i := 4) (N := some 79) (v := ?_) (a' := ?_) #[true, false, true, false, true, false, false, false, false] rfl rfl (by kernel_rfl) (fun _ _ _ h => h) (Or.inl ⟨by rfl, ?_⟩) ?_ ?_
    rotate_left
    · intro w'
      go_simp
      with_reducible rfl
    rotate_left
    · simp only [Act.put, List.setIfInBounds_toArray, List.set_cons_zero, List.set_cons_succ, i64_w, i32_w, IntKind.wrap_u32, IntKind.wrap_u8, IntKind.wrap_u16]
      rfl
    refine take_ (i := 1) (N := some 76) (v := ?_) (a' := ?_) #[true, true, true, false, true, false, false, false, false] rfl rfl (by kernel_rfl) (fun _ _ _ h => h) (Or.inl ⟨by rfl, ?_⟩) hHeld ?_ ?_
    rotate_left
    · rintro w' ⟨s0, s1⟩
      go_simp
      with_reducible rfl
    rotate_left
    · simp only [Act.put, List.setIfInBounds_toArray, List.set_cons_zero, List.set_cons_succ, i64_w, i32_w, IntKind.wrap_u32, IntKind.wrap_u8, IntKind.wrap_u16]
      rfl
    refine pure_ (i := 5) (N := some 8) (v := ?_) (a' := ?_) #[true, true, true, false, true, true, false, false, false] rfl rfl (by kernel_rfl) (fun _ _ _ h => h) (Or.inl ⟨by rfl, ?_⟩) ?_ ?_
    rotate_left
    · intro w'
      go_simp
      with_reducible rfl
    rotate_left
    · simp only [Act.put, List.setIfInBounds_toArray, List.set_cons_zero, List.set_cons_succ, i64_w, i32_w, IntKind.wrap_u32, IntKind.wrap_u8, IntKind.wrap_u16]
      rfl
    refine take_ (i := 3) (N := some 78) (v := ?_) (a' := ?_) #[true, true, true, true, true, true, false, false, false] rfl rfl (by kernel_rfl) (fun _ _ _ h => h) (Or.inl ⟨by rfl, ?_⟩) hHeld ?_ ?_
    rotate_left
    · rintro w' ⟨s0, s1⟩
      go_simp
      with_reducible rfl
    rotate_left
    · simp only [Act.put, List.setIfInBounds_toArray, List.set_cons_zero, List.set_cons_succ, i64_w, i32_w, IntKind.wrap_u32, IntKind.wrap_u8, IntKind.wrap_u16]
      rfl
    refine pure_ (i := 6) (N := some 9) (v := ?_) (a' := ?_) #[true, true, true, true, true, true, true, false, false] rfl rfl (by kernel_rfl) (fun _ _ _ h => h) (Or.inl ⟨by rfl, ?_⟩) ?_ ?_
    rotate_left
    · intro w'
      go_simp
      with_reducible rfl
    rotate_left
    · simp only [Act.put, List.setIfInBounds_toArray, List.set_cons_zero, List.set_cons_succ, i64_w, i32_w, IntKind.wrap_u32, IntKind.wrap_u8, IntKind.wrap_u16]
      rfl
    refine pure_ (i := 7) (N := some 10) (v := ?_) (a' := ?_) #[true, true, true, true, true, true, true, true, false] rfl rfl (by kernel_rfl) (fun _ _ _ h => h) (Or.inl ⟨by rfl, ?_⟩) ?_ ?_
    rotate_left
    · intro w'
      go_simp
      with_reducible rfl
    rotate_left
    · simp only [Act.put, List.setIfInBounds_toArray, List.set_cons_zero, List.set_cons_succ, i64_w, i32_w, IntKind.wrap_u32, IntKind.wrap_u8, IntKind.wrap_u16]
      rfl
    refine pure_ (i := 8) (N := some 11) (v := ?_) (a' := ?_) #[true, true, true, true, true, true, true, true, true] rfl rfl (by kernel_rfl) (fun _ _ _ h => h) (Or.inl ⟨by rfl, ?_⟩) ?_ ?_
    rotate_left
    · intro w'
      go_simp
      with_reducible rfl
    rotate_left
    · simp only [Act.put, List.setIfInBounds_toArray, List.set_cons_zero, List.set_cons_succ, i64_w, i32_w, IntKind.wrap_u32, IntKind.wrap_u8, IntKind.wrap_u16]
      rfl
    refine done_ (by kernel_rfl) ?_
    go_wp2_with (fail)
    refine bodyPost_ret (results_list (rs := [.tmp 8, .tmp 9, .tmp 10, .tmp 11]) rfl (by simp) (.tmp (.tmp (.tmp (.tmp .nil))))) rfl ?_
    rw [HE.out.1, HE.out.2]
    exact ⟨rfl, win_close (m := m) { s with sx := DX, sy := DY, b := setB s.b 2 true } (sl_pick (sl_drew HO3.out) [0, 1, 4] (by decide) rfl)⟩
theorem req_40 (g : Nat) (s : WSt) (x0 y0 x1 y1 : Int) (hs : SL w0 w [winR g s, R]) : Calls Try.prog 12 #[.pointer (some ⟨g, 0, none⟩), .int .i64 4, .bool false, .agg #[.int .i64 x0, .int .i64 y0, .int .i64 x1, .int .i64 y1]] w fun e w' => e = .returned (rqV s 4 false x0 y0 x1 y1) ∧ SL w0 w' [winR g (rqS s 4 false x0 y0 x1 y1), R] := by
  have HS := Aside0.mk (sl_box hs #[.int .i64 x0, .int .i64 y0, .int .i64 x1, .int .i64 y1] 34)
  clear hs
  obtain ⟨M, hM⟩ : ∃ M, mskI s.b = M := ⟨_, rfl⟩
  obtain ⟨N1, hN1⟩ : ∃ N, mskI (setB s.b 4 false) = N := ⟨_, rfl⟩
  have h1 := an_4 s.b
  rw [hM, hN1] at h1
  have h5 := ad_40 s.b
  rw [hN1] at h5
  have a3 := and3 (setB s.b 4 false)
  rw [hN1] at a3
  obtain ⟨X3, h33⟩ : ∃ X, Go.bits .and .i64 N1 3 = X := ⟨_, rfl⟩
  rw [h33] at a3
  have HN := Aside0.mk (show mskI (setB s.b 4 false) = N1 from hN1)
  have HM := Aside0.mk hM
  clear hM hN1
  obtain ⟨A, hA⟩ : ∃ A, limI s.lx s.mx s.fx = A := ⟨_, rfl⟩
  obtain ⟨B, hB⟩ : ∃ B, limI s.ly s.my s.fy = B := ⟨_, rfl⟩
  have HA := Aside0.mk (And.intro hA hB)
  clear hA hB
  have hk : (4 : Int) = 1 ∨ (4 : Int) = 2 ∨ (4 : Int) = 4 ∨ (4 : Int) = 8 := by decide
  by_cases hc : rqC s 4 false = true
  rotate_left
  · replace a3 : (X3 == 0) = true := a3.trans (by rw [show ((setB s.b 4 false).a || (setB s.b 4 false).b) = false from Bool.eq_false_iff.2 hc]; rfl)
    have a3' : (X3 != 0) = false := by unfold bne; rw [a3]; rfl
    have hE : rqE s 4 false (emptyB x0 y0 x1 y1) = 0 := by unfold rqE; rw [if_pos hk, Bool.eq_false_iff.2 hc]; rfl
    have HE := Aside0.mk (show rqV s 4 false x0 y0 x1 y1 = .tuple #[.int .i64 A, .int .i64 B, .int .i64 N1, .int .i64 0] ∧ rqS s 4 false x0 y0 x1 y1 = { s with sx := A, sy := B, b := setB s.b 4 false } by
      unfold rqV rqS rqX rqY
      rw [if_pos hE, if_pos hE, if_neg hc, if_neg hc, HA.out.1, HA.out.2, HN.out]
      exact ⟨rfl, rfl⟩)
    clear hc hE hk
    go_enter Try.func12, Try.ntmps12
    go_wp2_with (first
    | (go_at_call 25; refine (usable_w (by repeat (with_reducible first | exact HS.out | apply sl_drewN | apply sl_drew)) 0 (by rfl)).mono ?_; rintro e wu ⟨rfl, hs⟩; (try simp only [World.size_alloc] at hs); replace HS := Aside0.mk hs; clear hs)
    | (go_at_call 26; refine (mask_w (by repeat (with_reducible first | exact HS.out | apply sl_drewN | apply sl_drew)) 0 HM.out (by rfl)).mono ?_; rintro e wm ⟨rfl, hs⟩; (try simp only [World.size_alloc] at hs); replace HS := Aside0.mk hs; clear hs; obtain ⟨mb, ho⟩ := sl_open HS.out 0 rfl; have hm8 := c_at ho 0 rfl 8 rfl; have hm9 := c_at ho 0 rfl 9 rfl; clear ho)
    | (go_at_call 28; refine (limited_w (by repeat (with_reducible first | exact HS.out | apply sl_drewN | apply sl_drew)) 0 s.fx s.fy HA.out.1 HA.out.2 (by rfl)).mono ?_; rintro e wl ⟨rfl, hs⟩; (try simp only [World.size_alloc] at hs); replace HS := Aside0.mk hs; clear hs; clear hm8 hm9; have bx0 := c_at HS.out 2 rfl 0 rfl; have bx1 := c_at HS.out 2 rfl 1 rfl; have bx2 := c_at HS.out 2 rfl 2 rfl; have bx3 := c_at HS.out 2 rfl 3 rfl; have bl := blk_lt (sl_blk HS.out 2 rfl))
    | (go_at_call 29; refine (empty_c (sl_box HS.out #[.int .i64 A, .int .i64 B] 23) x0 y0 x1 y1 HX.out).mono ?_; rintro e we ⟨rfl, hs⟩; (try simp only [World.size_alloc] at hs); replace HS := Aside0.mk hs; clear hs; clear bx0 bx1 bx2 bx3 bl; have bl := blk_lt (sl_blk HS.out 2 rfl); have bx0 := c_at HS.out 2 rfl 0 rfl; have bx1 := c_at HS.out 2 rfl 1 rfl; have bx2 := c_at HS.out 2 rfl 2 rfl; have bx3 := c_at HS.out 2 rfl 3 rfl; have wx0 := c_at HS.out 3 rfl 0 rfl; have wx1 := c_at HS.out 3 rfl 1 rfl; have wf0 := f_at HS.out 3 rfl 0; have wf1 := f_at HS.out 3 rfl 1; have wl1 := blk_lt (sl_blk HS.out 3 rfl)))
    have HS2 := sl_box HS.out #[.int .i64 A, .int .i64 B] 23
    obtain ⟨m, ho⟩ := sl_open HS2 0 rfl
    have HO := Aside0.mk ho
    clear ho HS2
    refine start_ (n := 11) (S := fun w' => w'.cell? ⟨g, 1, none⟩ = some (.map (some m))) (ds := [10]) #[false, false, false, false, false, false, false, false, false, false, false] (by kernel_rfl) rfl rfl ((c_at (sl_drew HO.out) 0 rfl 1 rfl)) (fun hHeld => ?_)
    refine pure_ (i := 0) (N := some 61) (v := ?_) (a' := ?_) #[true, false, false, false, false, false, false, false, false, false, false] rfl rfl (by kernel_rfl) (fun _ _ _ h => h) (Or.inl ⟨by rfl, ?_⟩) ?_ ?_
    rotate_left
    · intro w'
      go_simp
      with_reducible rfl
    rotate_left
    · simp only [Act.put, List.setIfInBounds_toArray, List.set_cons_zero, List.set_cons_succ, i64_w, i32_w, IntKind.wrap_u32, IntKind.wrap_u8, IntKind.wrap_u16]
      rfl
    refine pure_ (i := 1) (N := some 62) (v := ?_) (a' := ?_) #[true, true, false, false, false, false, false, false, false, false, false] rfl rfl (by kernel_rfl) (fun _ _ _ h => h) (Or.inl ⟨by rfl, ?_⟩) ?_ ?_
    rotate_left
    · intro w'
      go_simp
      with_reducible rfl
    rotate_left
    · simp only [Act.put, List.setIfInBounds_toArray, List.set_cons_zero, List.set_cons_succ, i64_w, i32_w, IntKind.wrap_u32, IntKind.wrap_u8, IntKind.wrap_u16]
      rfl
    refine pure_ (i := 2) (N := some 63) (v := ?_) (a' := ?_) #[true, true, true, false, false, false, false, false, false, false, false] rfl rfl (by kernel_rfl) (fun _ _ _ h => h) (Or.inl ⟨by rfl, ?_⟩) ?_ ?_
    rotate_left
    · intro w'
      go_simp
      with_reducible rfl
    rotate_left
    · simp only [Act.put, List.setIfInBounds_toArray, List.set_cons_zero, List.set_cons_succ, i64_w, i32_w, IntKind.wrap_u32, IntKind.wrap_u8, IntKind.wrap_u16]
      rfl
    refine pure_ (i := 4) (N := some 65) (v := ?_) (a' := ?_) #[true, true, true, false, true, false, false, false, false, false, false] rfl rfl (by kernel_rfl) (fun _ _ _ h => h) (Or.inl ⟨by rfl, ?_⟩) ?_ ?_
    rotate_left
    · intro w'
      go_simp
      with_reducible rfl
    rotate_left
    · simp only [Act.put, List.setIfInBounds_toArray, List.set_cons_zero, List.set_cons_succ, i64_w, i32_w, IntKind.wrap_u32, IntKind.wrap_u8, IntKind.wrap_u16]
      rfl
    refine pure_ (i := 5) (N := some 66) (v := ?_) (a' := ?_) #[true, true, true, false, true, true, false, false, false, false, false] rfl rfl (by kernel_rfl) (fun _ _ _ h => h) (Or.inl ⟨by rfl, ?_⟩) ?_ ?_
    rotate_left
    · intro w'
      go_simp
      with_reducible rfl
    rotate_left
    · simp only [Act.put, List.setIfInBounds_toArray, List.set_cons_zero, List.set_cons_succ, i64_w, i32_w, IntKind.wrap_u32, IntKind.wrap_u8, IntKind.wrap_u16]
      rfl
    refine pure_ (i := 6) (N := some 67) (v := ?_) (a' := ?_) #[true, true, true, false, true, true, true, false, false, false, false] rfl rfl (by kernel_rfl) (fun _ _ _ h => h) (Or.inl ⟨by rfl, ?_⟩) ?_ ?_
    rotate_left
    · intro w'
      go_simp
      with_reducible rfl
    rotate_left
    · simp only [Act.put, List.setIfInBounds_toArray, List.set_cons_zero, List.set_cons_succ, i64_w, i32_w, IntKind.wrap_u32, IntKind.wrap_u8, IntKind.wrap_u16]
      rfl
    refine pure_ (i := 7) (N := some 68) (v := ?_) (a' := ?_) #[true, true, true, false, true, true, true, true, false, false, false] rfl rfl (by kernel_rfl) (fun _ _ _ h => h) (Or.inl ⟨by rfl, ?_⟩) ?_ ?_
    rotate_left
    · intro w'
      go_simp
      with_reducible rfl
    rotate_left
    · simp only [Act.put, List.setIfInBounds_toArray, List.set_cons_zero, List.set_cons_succ, i64_w, i32_w, IntKind.wrap_u32, IntKind.wrap_u8, IntKind.wrap_u16]
      rfl
    refine pure_ (i := 8) (N := some 69) (v := ?_) (a' := ?_) #[true, true, true, false, true, true, true, true, true, false, false] rfl rfl (by kernel_rfl) (fun _ _ _ h => h) (Or.inl ⟨by rfl, ?_⟩) ?_ ?_
    rotate_left
    · intro w'
      go_simp
      with_reducible rfl
    rotate_left
    · simp only [Act.put, List.setIfInBounds_toArray, List.set_cons_zero, List.set_cons_succ, i64_w, i32_w, IntKind.wrap_u32, IntKind.wrap_u8, IntKind.wrap_u16]
      rfl
    refine pure_ (i := 9) (N := some 70) (v := ?_) (a' := ?_) #[true, true, true, false, true, true, true, true, true, true, false] rfl rfl (by kernel_rfl) (fun _ _ _ h => h) (Or.inl ⟨by rfl, ?_⟩) ?_ ?_
    rotate_left
    · intro w'
      go_simp
      with_reducible rfl
    rotate_left
    · simp only [Act.put, List.setIfInBounds_toArray, List.set_cons_zero, List.set_cons_succ, i64_w, i32_w, IntKind.wrap_u32, IntKind.wrap_u8, IntKind.wrap_u16]
      rfl
    refine take_ (i := 3) (N := some 64) (v := ?_) (a' := ?_) #[true, true, true, true, true, true, true, true, true, true, false] rfl rfl (by kernel_rfl) (fun _ _ _ h => h) (Or.inl ⟨by rfl, ?_⟩) hHeld ?_ ?_
    rotate_left
    · intro w' s0
      go_simp
      with_reducible rfl
    rotate_left
    · simp only [Act.put, List.setIfInBounds_toArray, List.set_cons_zero, List.set_cons_succ, i64_w, i32_w, IntKind.wrap_u32, IntKind.wrap_u8, IntKind.wrap_u16]
      rfl
    refine last_ (i := 10) (N := none) #[true, true, true, true, true, true, true, true, true, true, true] rfl rfl (by kernel_rfl) (by decide) (fun K hK => ?_)
    refine sl_bput_step (by rfl) rfl (sl_drew HO.out) 4 rfl _ _ _ rfl rfl 4 (by decide) rfl false (congrArg (Value.int .i64) (show wrap64 0 = bi false by unfold wrap64 bi; decide)) ?_
    intro w5 hs5
    have p0 := c_at hs5 3 rfl 0 rfl
    have p1 := c_at hs5 3 rfl 1 rfl
    have q0 := c_at hs5 0 rfl 10 rfl
    have q1 := c_at hs5 0 rfl 11 rfl
    have f0 := f_at hs5 0 rfl 10
    have f1 := f_at hs5 0 rfl 11
    have hl1 := blk_lt (sl_blk hs5 0 rfl)
    refine hK.out _ _ ?_
    clear hK K
    refine done_ (by kernel_rfl) ?_
    go_wp2_with (fail)
    have HO3 := Aside0.mk (sl_put (sl_put hs5 0 rfl 10 (.int .i64 A)) 0 rfl 11 (.int .i64 B))
    refine start_ (n := 9) (S := fun w' => w'.cell? ⟨wl.heap.size, 0, none⟩ = some (.int .i64 A) ∧ w'.cell? ⟨wl.heap.size, 1, none⟩ = some (.int .i64 B)) (ds := []) #[false, false, false, false, false, false, false, false, false] (by kernel_rfl) rfl rfl ⟨(c_at (sl_drew HO3.out) 3 rfl 0 rfl), (c_at (sl_drew HO3.out) 3 rfl 1 rfl)⟩ (fun hHeld => ?_)
    refine pure_ (i := 0) (N := some 75) (v := ?_) (a' := ?_) #[true, false, false, false, false, false, false, false, false] rfl rfl (by kernel_rfl) (fun _ _ _ h => h) (Or.inl ⟨by rfl, ?_⟩) ?_ ?_
    rotate_left
    · intro w'
      go_simp
      with_reducible rfl
    rotate_left
    · simp only [Act.put, List.setIfInBounds_toArray, List.set_cons_zero, List.set_cons_succ, i64_w, i32_w, IntKind.wrap_u32, IntKind.wrap_u8, IntKind.wrap_u16]
      rfl
    refine pure_ (i := 2) (N := some 77) (v := ?_) (a' := ?_) #[true, false, true, false, false, false, false, false, false] rfl rfl (by kernel_rfl) (fun _ _ _ h => h) (Or.inl ⟨by rfl, ?_⟩) ?_ ?_
    rotate_left
    · intro w'
      go_simp
      with_reducible rfl
    rotate_left
    · simp only [Act.put, List.setIfInBounds_toArray, List.set_cons_zero, List.set_cons_succ, i64_w, i32_w, IntKind.wrap_u32, IntKind.wrap_u8, IntKind.wrap_u16]
      rfl
    refine pure_ (i := 4) (N := some 79) (v := ?_) (a' := ?_) #[true, false, true, false, true, false, false, false, false] rfl rfl (by kernel_rfl) (fun _ _ _ h => h) (Or.inl ⟨by rfl, ?_⟩) ?_ ?_
    rotate_left
    · intro w'
      go_simp
      with_reducible rfl
    rotate_left
    · simp only [Act.put, List.setIfInBounds_toArray, List.set_cons_zero, List.set_cons_succ, i64_w, i32_w, IntKind.wrap_u32, IntKind.wrap_u8, IntKind.wrap_u16]
      rfl
    refine take_ (i := 1) (N := some 76) (v := ?_) (a' := ?_) #[true, true, true, false, true, false, false, false, false] rfl rfl (by kernel_rfl) (fun _ _ _ h => h) (Or.inl ⟨by rfl, ?_⟩) hHeld ?_ ?_
    rotate_left
    · rintro w' ⟨s0, s1⟩
      go_simp
      with_reducible rfl
    rotate_left
    · simp only [Act.put, List.setIfInBounds_toArray, List.set_cons_zero, List.set_cons_succ, i64_w, i32_w, IntKind.wrap_u32, IntKind.wrap_u8, IntKind.wrap_u16]
      rfl
    refine pure_ (i := 5) (N := some 8) (v := ?_) (a' := ?_) #[true, true, true, false, true, true, false, false, false] rfl rfl (by kernel_rfl) (fun _ _ _ h => h) (Or.inl ⟨by rfl, ?_⟩) ?_ ?_
    rotate_left
    · intro w'
      go_simp
      with_reducible rfl
    rotate_left
    · simp only [Act.put, List.setIfInBounds_toArray, List.set_cons_zero, List.set_cons_succ, i64_w, i32_w, IntKind.wrap_u32, IntKind.wrap_u8, IntKind.wrap_u16]
      rfl
    refine take_ (i := 3) (N := some 78) (v := ?_) (a' := ?_) #[true, true, true, true, true, true, false, false, false] rfl rfl (by kernel_rfl) (fun _ _ _ h => h) (Or.inl ⟨by rfl, ?_⟩) hHeld ?_ ?_
    rotate_left
    · rintro w' ⟨s0, s1⟩
      go_simp
      with_reducible rfl
    rotate_left
    · simp only [Act.put, List.setIfInBounds_toArray, List.set_cons_zero, List.set_cons_succ, i64_w, i32_w, IntKind.wrap_u32, IntKind.wrap_u8, IntKind.wrap_u16]
      rfl
    refine pure_ (i := 6) (N := some 9) (v := ?_) (a' := ?_) #[true, true, true, true, true, true, true, false, false] rfl rfl (by kernel_rfl) (fun _ _ _ h => h) (Or.inl ⟨by rfl, ?_⟩) ?_ ?_
    rotate_left
    · intro w'
      go_simp
      with_reducible rfl
    rotate_left
    · simp only [Act.put, List.setIfInBounds_toArray, List.set_cons_zero, List.set_cons_succ, i64_w, i32_w, IntKind.wrap_u32, IntKind.wrap_u8, IntKind.wrap_u16]
      rfl
    refine pure_ (i := 7) (N := some 10) (v := ?_) (a' := ?_) #[true, true, true, true, true, true, true, true, false] rfl rfl (by kernel_rfl) (fun _ _ _ h => h) (Or.inl ⟨by rfl, ?_⟩) ?_ ?_
    rotate_left
    · intro w'
      go_simp
      with_reducible rfl
    rotate_left
    · simp only [Act.put, List.setIfInBounds_toArray, List.set_cons_zero, List.set_cons_succ, i64_w, i32_w, IntKind.wrap_u32, IntKind.wrap_u8, IntKind.wrap_u16]
      rfl
    refine pure_ (i := 8) (N := some 11) (v := ?_) (a' := ?_) #[true, true, true, true, true, true, true, true, true] rfl rfl (by kernel_rfl) (fun _ _ _ h => h) (Or.inl ⟨by rfl, ?_⟩) ?_ ?_
    rotate_left
    · intro w'
      go_simp
      with_reducible rfl
    rotate_left
    · simp only [Act.put, List.setIfInBounds_toArray, List.set_cons_zero, List.set_cons_succ, i64_w, i32_w, IntKind.wrap_u32, IntKind.wrap_u8, IntKind.wrap_u16]
      rfl
    refine done_ (by kernel_rfl) ?_
    go_wp2_with (fail)
    refine bodyPost_ret (results_list (rs := [.tmp 8, .tmp 9, .tmp 10, .tmp 11]) rfl (by simp) (.tmp (.tmp (.tmp (.tmp .nil))))) rfl ?_
    rw [HE.out.1, HE.out.2]
    exact ⟨rfl, win_close (m := m) { s with sx := A, sy := B, b := setB s.b 4 false } (sl_pick (sl_drew HO3.out) [0, 1, 4] (by decide) rfl)⟩
  · replace a3 : (X3 == 0) = false := a3.trans (by rw [show ((setB s.b 4 false).a || (setB s.b 4 false).b) = true from hc]; rfl)
    have a3' : (X3 != 0) = true := by unfold bne; rw [a3]; rfl
    obtain ⟨em, hem⟩ : ∃ em, emptyB x0 y0 x1 y1 = em := ⟨_, rfl⟩
    have HX := Aside0.mk hem
    cases em
    rotate_left
    · have hE : rqE s 4 false (emptyB x0 y0 x1 y1) = 6 := by unfold rqE; rw [if_pos hk, hc, hem]; rfl
      have HE := Aside0.mk (show rqV s 4 false x0 y0 x1 y1 = .tuple #[.int .i64 0, .int .i64 0, .int .i64 0, .int .i64 6] ∧ rqS s 4 false x0 y0 x1 y1 = s by
        unfold rqV rqS
        rw [hE]
        exact ⟨rfl, rfl⟩)
      clear hc hE hk hem
      go_enter Try.func12, Try.ntmps12
      go_wp2_with (first
    | (go_at_call 25; refine (usable_w (by repeat (with_reducible first | exact HS.out | apply sl_drewN | apply sl_drew)) 0 (by rfl)).mono ?_; rintro e wu ⟨rfl, hs⟩; (try simp only [World.size_alloc] at hs); replace HS := Aside0.mk hs; clear hs)
    | (go_at_call 26; refine (mask_w (by repeat (with_reducible first | exact HS.out | apply sl_drewN | apply sl_drew)) 0 HM.out (by rfl)).mono ?_; rintro e wm ⟨rfl, hs⟩; (try simp only [World.size_alloc] at hs); replace HS := Aside0.mk hs; clear hs; obtain ⟨mb, ho⟩ := sl_open HS.out 0 rfl; have hm8 := c_at ho 0 rfl 8 rfl; have hm9 := c_at ho 0 rfl 9 rfl; clear ho)
    | (go_at_call 28; refine (limited_w (by repeat (with_reducible first | exact HS.out | apply sl_drewN | apply sl_drew)) 0 s.fx s.fy HA.out.1 HA.out.2 (by rfl)).mono ?_; rintro e wl ⟨rfl, hs⟩; (try simp only [World.size_alloc] at hs); replace HS := Aside0.mk hs; clear hs; clear hm8 hm9; have bx0 := c_at HS.out 2 rfl 0 rfl; have bx1 := c_at HS.out 2 rfl 1 rfl; have bx2 := c_at HS.out 2 rfl 2 rfl; have bx3 := c_at HS.out 2 rfl 3 rfl; have bl := blk_lt (sl_blk HS.out 2 rfl))
    | (go_at_call 29; refine (empty_c (sl_box HS.out #[.int .i64 A, .int .i64 B] 23) x0 y0 x1 y1 HX.out).mono ?_; rintro e we ⟨rfl, hs⟩; (try simp only [World.size_alloc] at hs); replace HS := Aside0.mk hs; clear hs; clear bx0 bx1 bx2 bx3 bl; have bl := blk_lt (sl_blk HS.out 2 rfl); have bx0 := c_at HS.out 2 rfl 0 rfl; have bx1 := c_at HS.out 2 rfl 1 rfl; have bx2 := c_at HS.out 2 rfl 2 rfl; have bx3 := c_at HS.out 2 rfl 3 rfl; have wx0 := c_at HS.out 3 rfl 0 rfl; have wx1 := c_at HS.out 3 rfl 1 rfl; have wf0 := f_at HS.out 3 rfl 0; have wf1 := f_at HS.out 3 rfl 1; have wl1 := blk_lt (sl_blk HS.out 3 rfl)))
      refine bodyPost_ret (results_list (rs := [.tmp 8, .tmp 9, .tmp 10, .tmp 11]) rfl (by simp) (.tmp (.tmp (.tmp (.tmp .nil))))) rfl ?_
      rw [HE.out.1, HE.out.2]
      exact ⟨rfl, sl_take HS.out 2⟩
    obtain ⟨DX, hDX⟩ : ∃ D, x1 - x0 = D := ⟨_, rfl⟩
    obtain ⟨DY, hDY⟩ : ∃ D, y1 - y0 = D := ⟨_, rfl⟩
    have hr := emp_rng hem
    have hd1 : wrap64 (x1 - x0) = DX := by rw [← hDX]; unfold wrap64; omega
    have hd2 : wrap64 (y1 - y0) = DY := by rw [← hDY]; unfold wrap64; omega
    have hE : rqE s 4 false (emptyB x0 y0 x1 y1) = 0 := by unfold rqE; rw [if_pos hk, hc, hem]; rfl
    have HE := Aside0.mk (show rqV s 4 false x0 y0 x1 y1 = .tuple #[.int .i64 DX, .int .i64 DY, .int .i64 N1, .int .i64 0] ∧ rqS s 4 false x0 y0 x1 y1 = { s with sx := DX, sy := DY, b := setB s.b 4 false } by
      unfold rqV rqS rqX rqY
      rw [if_pos hE, if_pos hE, if_pos hc, if_pos hc, hDX, hDY, HN.out]
      exact ⟨rfl, rfl⟩)
    clear hc hE hk hem hr hDX hDY
    go_enter Try.func12, Try.ntmps12
    go_wp2_with (first
    | (go_at_call 25; refine (usable_w (by repeat (with_reducible first | exact HS.out | apply sl_drewN | apply sl_drew)) 0 (by rfl)).mono ?_; rintro e wu ⟨rfl, hs⟩; (try simp only [World.size_alloc] at hs); replace HS := Aside0.mk hs; clear hs)
    | (go_at_call 26; refine (mask_w (by repeat (with_reducible first | exact HS.out | apply sl_drewN | apply sl_drew)) 0 HM.out (by rfl)).mono ?_; rintro e wm ⟨rfl, hs⟩; (try simp only [World.size_alloc] at hs); replace HS := Aside0.mk hs; clear hs; obtain ⟨mb, ho⟩ := sl_open HS.out 0 rfl; have hm8 := c_at ho 0 rfl 8 rfl; have hm9 := c_at ho 0 rfl 9 rfl; clear ho)
    | (go_at_call 28; refine (limited_w (by repeat (with_reducible first | exact HS.out | apply sl_drewN | apply sl_drew)) 0 s.fx s.fy HA.out.1 HA.out.2 (by rfl)).mono ?_; rintro e wl ⟨rfl, hs⟩; (try simp only [World.size_alloc] at hs); replace HS := Aside0.mk hs; clear hs; clear hm8 hm9; have bx0 := c_at HS.out 2 rfl 0 rfl; have bx1 := c_at HS.out 2 rfl 1 rfl; have bx2 := c_at HS.out 2 rfl 2 rfl; have bx3 := c_at HS.out 2 rfl 3 rfl; have bl := blk_lt (sl_blk HS.out 2 rfl))
    | (go_at_call 29; refine (empty_c (sl_box HS.out #[.int .i64 A, .int .i64 B] 23) x0 y0 x1 y1 HX.out).mono ?_; rintro e we ⟨rfl, hs⟩; (try simp only [World.size_alloc] at hs); replace HS := Aside0.mk hs; clear hs; clear bx0 bx1 bx2 bx3 bl; have bl := blk_lt (sl_blk HS.out 2 rfl); have bx0 := c_at HS.out 2 rfl 0 rfl; have bx1 := c_at HS.out 2 rfl 1 rfl; have bx2 := c_at HS.out 2 rfl 2 rfl; have bx3 := c_at HS.out 2 rfl 3 rfl; have wx0 := c_at HS.out 3 rfl 0 rfl; have wx1 := c_at HS.out 3 rfl 1 rfl; have wf0 := f_at HS.out 3 rfl 0; have wf1 := f_at HS.out 3 rfl 1; have wl1 := blk_lt (sl_blk HS.out 3 rfl)))
    have HS2 := sl_put (sl_put HS.out 3 rfl 0 (.int .i64 DX)) 3 rfl 1 (.int .i64 DY)
    obtain ⟨m, ho⟩ := sl_open HS2 0 rfl
    have HO := Aside0.mk ho
    clear ho HS2
    refine start_ (n := 11) (S := fun w' => w'.cell? ⟨g, 1, none⟩ = some (.map (some m))) (ds := [10]) #[false, false, false, false, false, false, false, false, false, false, false] (by kernel_rfl) rfl rfl ((c_at (sl_drew HO.out) 0 rfl 1 rfl)) (fun hHeld => ?_)
    refine pure_ (i := 0) (N := some 61) (v := ?_) (a' := ?_) #[true, false, false, false, false, false, false, false, false, false, false] rfl rfl (by kernel_rfl) (fun _ _ _ h => h) (Or.inl ⟨by rfl, ?_⟩) ?_ ?_
    rotate_left
    · intro w'
      go_simp
      with_reducible rfl
    rotate_left
    · simp only [Act.put, List.setIfInBounds_toArray, List.set_cons_zero, List.set_cons_succ, i64_w, i32_w, IntKind.wrap_u32, IntKind.wrap_u8, IntKind.wrap_u16]
      rfl
    refine pure_ (i := 1) (N := some 62) (v := ?_) (a' := ?_) #[true, true, false, false, false, false, false, false, false, false, false] rfl rfl (by kernel_rfl) (fun _ _ _ h => h) (Or.inl ⟨by rfl, ?_⟩) ?_ ?_
    rotate_left
    · intro w'
      go_simp
      with_reducible rfl
    rotate_left
    · simp only [Act.put, List.setIfInBounds_toArray, List.set_cons_zero, List.set_cons_succ, i64_w, i32_w, IntKind.wrap_u32, IntKind.wrap_u8, IntKind.wrap_u16]
      rfl
    refine pure_ (i := 2) (N := some 63) (v := ?_) (a' := ?_) #[true, true, true, false, false, false, false, false, false, false, false] rfl rfl (by kernel_rfl) (fun _ _ _ h => h) (Or.inl ⟨by rfl, ?_⟩) ?_ ?_
    rotate_left
    · intro w'
      go_simp
      with_reducible rfl
    rotate_left
    · simp only [Act.put, List.setIfInBounds_toArray, List.set_cons_zero, List.set_cons_succ, i64_w, i32_w, IntKind.wrap_u32, IntKind.wrap_u8, IntKind.wrap_u16]
      rfl
    refine pure_ (i := 4) (N := some 65) (v := ?_) (a' := ?_) #[true, true, true, false, true, false, false, false, false, false, false] rfl rfl (by kernel_rfl) (fun _ _ _ h => h) (Or.inl ⟨by rfl, ?_⟩) ?_ ?_
    rotate_left
    · intro w'
      go_simp
      with_reducible rfl
    rotate_left
    · simp only [Act.put, List.setIfInBounds_toArray, List.set_cons_zero, List.set_cons_succ, i64_w, i32_w, IntKind.wrap_u32, IntKind.wrap_u8, IntKind.wrap_u16]
      rfl
    refine pure_ (i := 5) (N := some 66) (v := ?_) (a' := ?_) #[true, true, true, false, true, true, false, false, false, false, false] rfl rfl (by kernel_rfl) (fun _ _ _ h => h) (Or.inl ⟨by rfl, ?_⟩) ?_ ?_
    rotate_left
    · intro w'
      go_simp
      with_reducible rfl
    rotate_left
    · simp only [Act.put, List.setIfInBounds_toArray, List.set_cons_zero, List.set_cons_succ, i64_w, i32_w, IntKind.wrap_u32, IntKind.wrap_u8, IntKind.wrap_u16]
      rfl
    refine pure_ (i := 6) (N := some 67) (v := ?_) (a' := ?_) #[true, true, true, false, true, true, true, false, false, false, false] rfl rfl (by kernel_rfl) (fun _ _ _ h => h) (Or.inl ⟨by rfl, ?_⟩) ?_ ?_
    rotate_left
    · intro w'
      go_simp
      with_reducible rfl
    rotate_left
    · simp only [Act.put, List.setIfInBounds_toArray, List.set_cons_zero, List.set_cons_succ, i64_w, i32_w, IntKind.wrap_u32, IntKind.wrap_u8, IntKind.wrap_u16]
      rfl
    refine pure_ (i := 7) (N := some 68) (v := ?_) (a' := ?_) #[true, true, true, false, true, true, true, true, false, false, false] rfl rfl (by kernel_rfl) (fun _ _ _ h => h) (Or.inl ⟨by rfl, ?_⟩) ?_ ?_
    rotate_left
    · intro w'
      go_simp
      with_reducible rfl
    rotate_left
    · simp only [Act.put, List.setIfInBounds_toArray, List.set_cons_zero, List.set_cons_succ, i64_w, i32_w, IntKind.wrap_u32, IntKind.wrap_u8, IntKind.wrap_u16]
      rfl
    refine pure_ (i := 8) (N := some 69) (v := ?_) (a' := ?_) #[true, true, true, false, true, true, true, true, true, false, false] rfl rfl (by kernel_rfl) (fun _ _ _ h => h) (Or.inl ⟨by rfl, ?_⟩) ?_ ?_
    rotate_left
    · intro w'
      go_simp
      with_reducible rfl
    rotate_left
    · simp only [Act.put, List.setIfInBounds_toArray, List.set_cons_zero, List.set_cons_succ, i64_w, i32_w, IntKind.wrap_u32, IntKind.wrap_u8, IntKind.wrap_u16]
      rfl
    refine pure_ (i := 9) (N := some 70) (v := ?_) (a' := ?_) #[true, true, true, false, true, true, true, true, true, true, false] rfl rfl (by kernel_rfl) (fun _ _ _ h => h) (Or.inl ⟨by rfl, ?_⟩) ?_ ?_
    rotate_left
    · intro w'
      go_simp
      with_reducible rfl
    rotate_left
    · simp only [Act.put, List.setIfInBounds_toArray, List.set_cons_zero, List.set_cons_succ, i64_w, i32_w, IntKind.wrap_u32, IntKind.wrap_u8, IntKind.wrap_u16]
      rfl
    refine take_ (i := 3) (N := some 64) (v := ?_) (a' := ?_) #[true, true, true, true, true, true, true, true, true, true, false] rfl rfl (by kernel_rfl) (fun _ _ _ h => h) (Or.inl ⟨by rfl, ?_⟩) hHeld ?_ ?_
    rotate_left
    · intro w' s0
      go_simp
      with_reducible rfl
    rotate_left
    · simp only [Act.put, List.setIfInBounds_toArray, List.set_cons_zero, List.set_cons_succ, i64_w, i32_w, IntKind.wrap_u32, IntKind.wrap_u8, IntKind.wrap_u16]
      rfl
    refine last_ (i := 10) (N := none) #[true, true, true, true, true, true, true, true, true, true, true] rfl rfl (by kernel_rfl) (by decide) (fun K hK => ?_)
    refine sl_bput_step (by rfl) rfl (sl_drew HO.out) 4 rfl _ _ _ rfl rfl 4 (by decide) rfl false (congrArg (Value.int .i64) (show wrap64 0 = bi false by unfold wrap64 bi; decide)) ?_
    intro w5 hs5
    have p0 := c_at hs5 3 rfl 0 rfl
    have p1 := c_at hs5 3 rfl 1 rfl
    have q0 := c_at hs5 0 rfl 10 rfl
    have q1 := c_at hs5 0 rfl 11 rfl
    have f0 := f_at hs5 0 rfl 10
    have f1 := f_at hs5 0 rfl 11
    have hl1 := blk_lt (sl_blk hs5 0 rfl)
    refine hK.out _ _ ?_
    clear hK K
    refine done_ (by kernel_rfl) ?_
    go_wp2_with (fail)
    have HO3 := Aside0.mk (sl_put (sl_put hs5 0 rfl 10 (.int .i64 DX)) 0 rfl 11 (.int .i64 DY))
    refine start_ (n := 9) (S := fun w' => w'.cell? ⟨wl.heap.size, 0, none⟩ = some (.int .i64 DX) ∧ w'.cell? ⟨wl.heap.size, 1, none⟩ = some (.int .i64 DY)) (ds := []) #[false, false, false, false, false, false, false, false, false] (by kernel_rfl) rfl rfl ⟨(c_at (sl_drew HO3.out) 3 rfl 0 rfl), (c_at (sl_drew HO3.out) 3 rfl 1 rfl)⟩ (fun hHeld => ?_)
    refine pure_ (i := 0) (N := some 75) (v := ?_) (a' := ?_) #[true, false, false, false, false, false, false, false, false] rfl rfl (by kernel_rfl) (fun _ _ _ h => h) (Or.inl ⟨by rfl, ?_⟩) ?_ ?_
    rotate_left
    · intro w'
      go_simp
      with_reducible rfl
    rotate_left
    · simp only [Act.put, List.setIfInBounds_toArray, List.set_cons_zero, List.set_cons_succ, i64_w, i32_w, IntKind.wrap_u32, IntKind.wrap_u8, IntKind.wrap_u16]
      rfl
    refine pure_ (i := 2) (N := some 77) (v := ?_) (a' := ?_) #[true, false, true, false, false, false, false, false, false] rfl rfl (by kernel_rfl) (fun _ _ _ h => h) (Or.inl ⟨by rfl, ?_⟩) ?_ ?_
    rotate_left
    · intro w'
      go_simp
      with_reducible rfl
    rotate_left
    · simp only [Act.put, List.setIfInBounds_toArray, List.set_cons_zero, List.set_cons_succ, i64_w, i32_w, IntKind.wrap_u32, IntKind.wrap_u8, IntKind.wrap_u16]
      rfl
    refine pure_ (i := 4) (N := some 79) (v := ?_) (a' := ?_) #[true, false, true, false, true, false, false, false, false] rfl rfl (by kernel_rfl) (fun _ _ _ h => h) (Or.inl ⟨by rfl, ?_⟩) ?_ ?_
    rotate_left
    · intro w'
      go_simp
      with_reducible rfl
    rotate_left
    · simp only [Act.put, List.setIfInBounds_toArray, List.set_cons_zero, List.set_cons_succ, i64_w, i32_w, IntKind.wrap_u32, IntKind.wrap_u8, IntKind.wrap_u16]
      rfl
    refine take_ (i := 1) (N := some 76) (v := ?_) (a' := ?_) #[true, true, true, false, true, false, false, false, false] rfl rfl (by kernel_rfl) (fun _ _ _ h => h) (Or.inl ⟨by rfl, ?_⟩) hHeld ?_ ?_
    rotate_left
    · rintro w' ⟨s0, s1⟩
      go_simp
      with_reducible rfl
    rotate_left
    · simp only [Act.put, List.setIfInBounds_toArray, List.set_cons_zero, List.set_cons_succ, i64_w, i32_w, IntKind.wrap_u32, IntKind.wrap_u8, IntKind.wrap_u16]
      rfl
    refine pure_ (i := 5) (N := some 8) (v := ?_) (a' := ?_) #[true, true, true, false, true, true, false, false, false] rfl rfl (by kernel_rfl) (fun _ _ _ h => h) (Or.inl ⟨by rfl, ?_⟩) ?_ ?_
    rotate_left
    · intro w'
      go_simp
      with_reducible rfl
    rotate_left
    · simp only [Act.put, List.setIfInBounds_toArray, List.set_cons_zero, List.set_cons_succ, i64_w, i32_w, IntKind.wrap_u32, IntKind.wrap_u8, IntKind.wrap_u16]
      rfl
    refine take_ (i := 3) (N := some 78) (v := ?_) (a' := ?_) #[true, true, true, true, true, true, false, false, false] rfl rfl (by kernel_rfl) (fun _ _ _ h => h) (Or.inl ⟨by rfl, ?_⟩) hHeld ?_ ?_
    rotate_left
    · rintro w' ⟨s0, s1⟩
      go_simp
      with_reducible rfl
    rotate_left
    · simp only [Act.put, List.setIfInBounds_toArray, List.set_cons_zero, List.set_cons_succ, i64_w, i32_w, IntKind.wrap_u32, IntKind.wrap_u8, IntKind.wrap_u16]
      rfl
    refine pure_ (i := 6) (N := some 9) (v := ?_) (a' := ?_) #[true, true, true, true, true, true, true, false, false] rfl rfl (by kernel_rfl) (fun _ _ _ h => h) (Or.inl ⟨by rfl, ?_⟩) ?_ ?_
    rotate_left
    · intro w'
      go_simp
      with_reducible rfl
    rotate_left
    · simp only [Act.put, List.setIfInBounds_toArray, List.set_cons_zero, List.set_cons_succ, i64_w, i32_w, IntKind.wrap_u32, IntKind.wrap_u8, IntKind.wrap_u16]
      rfl
    refine pure_ (i := 7) (N := some 10) (v := ?_) (a' := ?_) #[true, true, true, true, true, true, true, true, false] rfl rfl (by kernel_rfl) (fun _ _ _ h => h) (Or.inl ⟨by rfl, ?_⟩) ?_ ?_
    rotate_left
    · intro w'
      go_simp
      with_reducible rfl
    rotate_left
    · simp only [Act.put, List.setIfInBounds_toArray, List.set_cons_zero, List.set_cons_succ, i64_w, i32_w, IntKind.wrap_u32, IntKind.wrap_u8, IntKind.wrap_u16]
      rfl
    refine pure_ (i := 8) (N := some 11) (v := ?_) (a' := ?_) #[true, true, true, true, true, true, true, true, true] rfl rfl (by kernel_rfl) (fun _ _ _ h => h) (Or.inl ⟨by rfl, ?_⟩) ?_ ?_
    rotate_left
    · intro w'
      go_simp
      with_reducible rfl
    rotate_left
    · simp only [Act.put, List.setIfInBounds_toArray, List.set_cons_zero, List.set_cons_succ, i64_w, i32_w, IntKind.wrap_u32, IntKind.wrap_u8, IntKind.wrap_u16]
      rfl
    refine done_ (by kernel_rfl) ?_
    go_wp2_with (fail)
    refine bodyPost_ret (results_list (rs := [.tmp 8, .tmp 9, .tmp 10, .tmp 11]) rfl (by simp) (.tmp (.tmp (.tmp (.tmp .nil))))) rfl ?_
    rw [HE.out.1, HE.out.2]
    exact ⟨rfl, win_close (m := m) { s with sx := DX, sy := DY, b := setB s.b 4 false } (sl_pick (sl_drew HO3.out) [0, 1, 4] (by decide) rfl)⟩
theorem req_41 (g : Nat) (s : WSt) (x0 y0 x1 y1 : Int) (hs : SL w0 w [winR g s, R]) : Calls Try.prog 12 #[.pointer (some ⟨g, 0, none⟩), .int .i64 4, .bool true, .agg #[.int .i64 x0, .int .i64 y0, .int .i64 x1, .int .i64 y1]] w fun e w' => e = .returned (rqV s 4 true x0 y0 x1 y1) ∧ SL w0 w' [winR g (rqS s 4 true x0 y0 x1 y1), R] := by
  have HS := Aside0.mk (sl_box hs #[.int .i64 x0, .int .i64 y0, .int .i64 x1, .int .i64 y1] 34)
  clear hs
  obtain ⟨M, hM⟩ : ∃ M, mskI s.b = M := ⟨_, rfl⟩
  obtain ⟨N1, hN1⟩ : ∃ N, mskI (setB s.b 4 false) = N := ⟨_, rfl⟩
  have h1 := an_4 s.b
  rw [hM, hN1] at h1
  obtain ⟨N, hN⟩ : ∃ N, mskI (setB s.b 4 true) = N := ⟨_, rfl⟩
  have h2 := or_4 s.b
  rw [hN1, hN] at h2
  have h5 := ad_41 s.b
  rw [hN] at h5
  have a3 := and3 (setB s.b 4 true)
  rw [hN] at a3
  obtain ⟨X3, h33⟩ : ∃ X, Go.bits .and .i64 N 3 = X := ⟨_, rfl⟩
  rw [h33] at a3
  have HN := Aside0.mk (show mskI (setB s.b 4 true) = N from hN)
  have HM := Aside0.mk hM
  clear hM hN1 hN
  obtain ⟨A, hA⟩ : ∃ A, limI s.lx s.mx s.fx = A := ⟨_, rfl⟩
  obtain ⟨B, hB⟩ : ∃ B, limI s.ly s.my s.fy = B := ⟨_, rfl⟩
  have HA := Aside0.mk (And.intro hA hB)
  clear hA hB
  have hk : (4 : Int) = 1 ∨ (4 : Int) = 2 ∨ (4 : Int) = 4 ∨ (4 : Int) = 8 := by decide
  by_cases hc : rqC s 4 true = true
  rotate_left
  · replace a3 : (X3 == 0) = true := a3.trans (by rw [show ((setB s.b 4 true).a || (setB s.b 4 true).b) = false from Bool.eq_false_iff.2 hc]; rfl)
    have a3' : (X3 != 0) = false := by unfold bne; rw [a3]; rfl
    have hE : rqE s 4 true (emptyB x0 y0 x1 y1) = 0 := by unfold rqE; rw [if_pos hk, Bool.eq_false_iff.2 hc]; rfl
    have HE := Aside0.mk (show rqV s 4 true x0 y0 x1 y1 = .tuple #[.int .i64 A, .int .i64 B, .int .i64 N, .int .i64 0] ∧ rqS s 4 true x0 y0 x1 y1 = { s with sx := A, sy := B, b := setB s.b 4 true } by
      unfold rqV rqS rqX rqY
      rw [if_pos hE, if_pos hE, if_neg hc, if_neg hc, HA.out.1, HA.out.2, HN.out]
      exact ⟨rfl, rfl⟩)
    clear hc hE hk
    go_enter Try.func12, Try.ntmps12
    go_wp2_with (first
    | (go_at_call 25; refine (usable_w (by repeat (with_reducible first | exact HS.out | apply sl_drewN | apply sl_drew)) 0 (by rfl)).mono ?_; rintro e wu ⟨rfl, hs⟩; (try simp only [World.size_alloc] at hs); replace HS := Aside0.mk hs; clear hs)
    | (go_at_call 26; refine (mask_w (by repeat (with_reducible first | exact HS.out | apply sl_drewN | apply sl_drew)) 0 HM.out (by rfl)).mono ?_; rintro e wm ⟨rfl, hs⟩; (try simp only [World.size_alloc] at hs); replace HS := Aside0.mk hs; clear hs; obtain ⟨mb, ho⟩ := sl_open HS.out 0 rfl; have hm8 := c_at ho 0 rfl 8 rfl; have hm9 := c_at ho 0 rfl 9 rfl; clear ho)
    | (go_at_call 28; refine (limited_w (by repeat (with_reducible first | exact HS.out | apply sl_drewN | apply sl_drew)) 0 s.fx s.fy HA.out.1 HA.out.2 (by rfl)).mono ?_; rintro e wl ⟨rfl, hs⟩; (try simp only [World.size_alloc] at hs); replace HS := Aside0.mk hs; clear hs; clear hm8 hm9; have bx0 := c_at HS.out 2 rfl 0 rfl; have bx1 := c_at HS.out 2 rfl 1 rfl; have bx2 := c_at HS.out 2 rfl 2 rfl; have bx3 := c_at HS.out 2 rfl 3 rfl; have bl := blk_lt (sl_blk HS.out 2 rfl))
    | (go_at_call 29; refine (empty_c (sl_box HS.out #[.int .i64 A, .int .i64 B] 23) x0 y0 x1 y1 HX.out).mono ?_; rintro e we ⟨rfl, hs⟩; (try simp only [World.size_alloc] at hs); replace HS := Aside0.mk hs; clear hs; clear bx0 bx1 bx2 bx3 bl; have bl := blk_lt (sl_blk HS.out 2 rfl); have bx0 := c_at HS.out 2 rfl 0 rfl; have bx1 := c_at HS.out 2 rfl 1 rfl; have bx2 := c_at HS.out 2 rfl 2 rfl; have bx3 := c_at HS.out 2 rfl 3 rfl; have wx0 := c_at HS.out 3 rfl 0 rfl; have wx1 := c_at HS.out 3 rfl 1 rfl; have wf0 := f_at HS.out 3 rfl 0; have wf1 := f_at HS.out 3 rfl 1; have wl1 := blk_lt (sl_blk HS.out 3 rfl)))
    have HS2 := sl_box HS.out #[.int .i64 A, .int .i64 B] 23
    obtain ⟨m, ho⟩ := sl_open HS2 0 rfl
    have HO := Aside0.mk ho
    clear ho HS2
    refine start_ (n := 11) (S := fun w' => w'.cell? ⟨g, 1, none⟩ = some (.map (some m))) (ds := [10]) #[false, false, false, false, false, false, false, false, false, false, false] (by kernel_rfl) rfl rfl ((c_at (sl_drew HO.out) 0 rfl 1 rfl)) (fun hHeld => ?_)
    refine pure_ (i := 0) (N := some 61) (v := ?_) (a' := ?_) #[true, false, false, false, false, false, false, false, false, false, false] rfl rfl (by kernel_rfl) (fun _ _ _ h => h) (Or.inl ⟨by rfl, ?_⟩) ?_ ?_
    rotate_left
    · intro w'
      go_simp
      with_reducible rfl
    rotate_left
    · simp only [Act.put, List.setIfInBounds_toArray, List.set_cons_zero, List.set_cons_succ, i64_w, i32_w, IntKind.wrap_u32, IntKind.wrap_u8, IntKind.wrap_u16]
      rfl
    refine pure_ (i := 1) (N := some 62) (v := ?_) (a' := ?_) #[true, true, false, false, false, false, false, false, false, false, false] rfl rfl (by kernel_rfl) (fun _ _ _ h => h) (Or.inl ⟨by rfl, ?_⟩) ?_ ?_
    rotate_left
    · intro w'
      go_simp
      with_reducible rfl
    rotate_left
    · simp only [Act.put, List.setIfInBounds_toArray, List.set_cons_zero, List.set_cons_succ, i64_w, i32_w, IntKind.wrap_u32, IntKind.wrap_u8, IntKind.wrap_u16]
      rfl
    refine pure_ (i := 2) (N := some 63) (v := ?_) (a' := ?_) #[true, true, true, false, false, false, false, false, false, false, false] rfl rfl (by kernel_rfl) (fun _ _ _ h => h) (Or.inl ⟨by rfl, ?_⟩) ?_ ?_
    rotate_left
    · intro w'
      go_simp
      with_reducible rfl
    rotate_left
    · simp only [Act.put, List.setIfInBounds_toArray, List.set_cons_zero, List.set_cons_succ, i64_w, i32_w, IntKind.wrap_u32, IntKind.wrap_u8, IntKind.wrap_u16]
      rfl
    refine pure_ (i := 4) (N := some 65) (v := ?_) (a' := ?_) #[true, true, true, false, true, false, false, false, false, false, false] rfl rfl (by kernel_rfl) (fun _ _ _ h => h) (Or.inl ⟨by rfl, ?_⟩) ?_ ?_
    rotate_left
    · intro w'
      go_simp
      with_reducible rfl
    rotate_left
    · simp only [Act.put, List.setIfInBounds_toArray, List.set_cons_zero, List.set_cons_succ, i64_w, i32_w, IntKind.wrap_u32, IntKind.wrap_u8, IntKind.wrap_u16]
      rfl
    refine pure_ (i := 5) (N := some 66) (v := ?_) (a' := ?_) #[true, true, true, false, true, true, false, false, false, false, false] rfl rfl (by kernel_rfl) (fun _ _ _ h => h) (Or.inl ⟨by rfl, ?_⟩) ?_ ?_
    rotate_left
    · intro w'
      go_simp
      with_reducible rfl
    rotate_left
    · simp only [Act.put, List.setIfInBounds_toArray, List.set_cons_zero, List.set_cons_succ, i64_w, i32_w, IntKind.wrap_u32, IntKind.wrap_u8, IntKind.wrap_u16]
      rfl
    refine pure_ (i := 6) (N := some 67) (v := ?_) (a' := ?_) #[true, true, true, false, true, true, true, false, false, false, false] rfl rfl (by kernel_rfl) (fun _ _ _ h => h) (Or.inl ⟨by rfl, ?_⟩) ?_ ?_
    rotate_left
    · intro w'
      go_simp
      with_reducible rfl
    rotate_left
    · simp only [Act.put, List.setIfInBounds_toArray, List.set_cons_zero, List.set_cons_succ, i64_w, i32_w, IntKind.wrap_u32, IntKind.wrap_u8, IntKind.wrap_u16]
      rfl
    refine pure_ (i := 7) (N := some 68) (v := ?_) (a' := ?_) #[true, true, true, false, true, true, true, true, false, false, false] rfl rfl (by kernel_rfl) (fun _ _ _ h => h) (Or.inl ⟨by rfl, ?_⟩) ?_ ?_
    rotate_left
    · intro w'
      go_simp
      with_reducible rfl
    rotate_left
    · simp only [Act.put, List.setIfInBounds_toArray, List.set_cons_zero, List.set_cons_succ, i64_w, i32_w, IntKind.wrap_u32, IntKind.wrap_u8, IntKind.wrap_u16]
      rfl
    refine pure_ (i := 8) (N := some 69) (v := ?_) (a' := ?_) #[true, true, true, false, true, true, true, true, true, false, false] rfl rfl (by kernel_rfl) (fun _ _ _ h => h) (Or.inl ⟨by rfl, ?_⟩) ?_ ?_
    rotate_left
    · intro w'
      go_simp
      with_reducible rfl
    rotate_left
    · simp only [Act.put, List.setIfInBounds_toArray, List.set_cons_zero, List.set_cons_succ, i64_w, i32_w, IntKind.wrap_u32, IntKind.wrap_u8, IntKind.wrap_u16]
      rfl
    refine pure_ (i := 9) (N := some 70) (v := ?_) (a' := ?_) #[true, true, true, false, true, true, true, true, true, true, false] rfl rfl (by kernel_rfl) (fun _ _ _ h => h) (Or.inl ⟨by rfl, ?_⟩) ?_ ?_
    rotate_left
    · intro w'
      go_simp
      with_reducible rfl
    rotate_left
    · simp only [Act.put, List.setIfInBounds_toArray, List.set_cons_zero, List.set_cons_succ, i64_w, i32_w, IntKind.wrap_u32, IntKind.wrap_u8, IntKind.wrap_u16]
      rfl
    refine take_ (i := 3) (N := some 64) (v := ?_) (a' := ?_) #[true, true, true, true, true, true, true, true, true, true, false] rfl rfl (by kernel_rfl) (fun _ _ _ h => h) (Or.inl ⟨by rfl, ?_⟩) hHeld ?_ ?_
    rotate_left
    · intro w' s0
      go_simp
      with_reducible rfl
    rotate_left
    · simp only [Act.put, List.setIfInBounds_toArray, List.set_cons_zero, List.set_cons_succ, i64_w, i32_w, IntKind.wrap_u32, IntKind.wrap_u8, IntKind.wrap_u16]
      rfl
    refine last_ (i := 10) (N := none) #[true, true, true, true, true, true, true, true, true, true, true] rfl rfl (by kernel_rfl) (by decide) (fun K hK => ?_)
    refine sl_bput_step (by rfl) rfl (sl_drew HO.out) 4 rfl _ _ _ rfl rfl 4 (by decide) rfl true (congrArg (Value.int .i64) (show wrap64 1 = bi true by unfold wrap64 bi; decide)) ?_
    intro w5 hs5
    have p0 := c_at hs5 3 rfl 0 rfl
    have p1 := c_at hs5 3 rfl 1 rfl
    have q0 := c_at hs5 0 rfl 10 rfl
    have q1 := c_at hs5 0 rfl 11 rfl
    have f0 := f_at hs5 0 rfl 10
    have f1 := f_at hs5 0 rfl 11
    have hl1 := blk_lt (sl_blk hs5 0 rfl)
    refine hK.out _ _ ?_
    clear hK K
    refine done_ (by kernel_rfl) ?_
    go_wp2_with (fail)
    have HO3 := Aside0.mk (sl_put (sl_put hs5 0 rfl 10 (.int .i64 A)) 0 rfl 11 (.int .i64 B))
    refine start_ (n := 9) (S := fun w' => w'.cell? ⟨wl.heap.size, 0, none⟩ = some (.int .i64 A) ∧ w'.cell? ⟨wl.heap.size, 1, none⟩ = some (.int .i64 B)) (ds := []) #[false, false, false, false, false, false, false, false, false] (by kernel_rfl) rfl rfl ⟨(c_at (sl_drew HO3.out) 3 rfl 0 rfl), (c_at (sl_drew HO3.out) 3 rfl 1 rfl)⟩ (fun hHeld => ?_)
    refine pure_ (i := 0) (N := some 75) (v := ?_) (a' := ?_) #[true, false, false, false, false, false, false, false, false] rfl rfl (by kernel_rfl) (fun _ _ _ h => h) (Or.inl ⟨by rfl, ?_⟩) ?_ ?_
    rotate_left
    · intro w'
      go_simp
      with_reducible rfl
    rotate_left
    · simp only [Act.put, List.setIfInBounds_toArray, List.set_cons_zero, List.set_cons_succ, i64_w, i32_w, IntKind.wrap_u32, IntKind.wrap_u8, IntKind.wrap_u16]
      rfl
    refine pure_ (i := 2) (N := some 77) (v := ?_) (a' := ?_) #[true, false, true, false, false, false, false, false, false] rfl rfl (by kernel_rfl) (fun _ _ _ h => h) (Or.inl ⟨by rfl, ?_⟩) ?_ ?_
    rotate_left
    · intro w'
      go_simp
      with_reducible rfl
    rotate_left
    · simp only [Act.put, List.setIfInBounds_toArray, List.set_cons_zero, List.set_cons_succ, i64_w, i32_w, IntKind.wrap_u32, IntKind.wrap_u8, IntKind.wrap_u16]
      rfl
    refine pure_ (i := 4) (N := some 79) (v := ?_) (a' := ?_) #[true, false, true, false, true, false, false, false, false] rfl rfl (by kernel_rfl) (fun _ _ _ h => h) (Or.inl ⟨by rfl, ?_⟩) ?_ ?_
    rotate_left
    · intro w'
      go_simp
      with_reducible rfl
    rotate_left
    · simp only [Act.put, List.setIfInBounds_toArray, List.set_cons_zero, List.set_cons_succ, i64_w, i32_w, IntKind.wrap_u32, IntKind.wrap_u8, IntKind.wrap_u16]
      rfl
    refine take_ (i := 1) (N := some 76) (v := ?_) (a' := ?_) #[true, true, true, false, true, false, false, false, false] rfl rfl (by kernel_rfl) (fun _ _ _ h => h) (Or.inl ⟨by rfl, ?_⟩) hHeld ?_ ?_
    rotate_left
    · rintro w' ⟨s0, s1⟩
      go_simp
      with_reducible rfl
    rotate_left
    · simp only [Act.put, List.setIfInBounds_toArray, List.set_cons_zero, List.set_cons_succ, i64_w, i32_w, IntKind.wrap_u32, IntKind.wrap_u8, IntKind.wrap_u16]
      rfl
    refine pure_ (i := 5) (N := some 8) (v := ?_) (a' := ?_) #[true, true, true, false, true, true, false, false, false] rfl rfl (by kernel_rfl) (fun _ _ _ h => h) (Or.inl ⟨by rfl, ?_⟩) ?_ ?_
    rotate_left
    · intro w'
      go_simp
      with_reducible rfl
    rotate_left
    · simp only [Act.put, List.setIfInBounds_toArray, List.set_cons_zero, List.set_cons_succ, i64_w, i32_w, IntKind.wrap_u32, IntKind.wrap_u8, IntKind.wrap_u16]
      rfl
    refine take_ (i := 3) (N := some 78) (v := ?_) (a' := ?_) #[true, true, true, true, true, true, false, false, false] rfl rfl (by kernel_rfl) (fun _ _ _ h => h) (Or.inl ⟨by rfl, ?_⟩) hHeld ?_ ?_
    rotate_left
    · rintro w' ⟨s0, s1⟩
      go_simp
      with_reducible rfl
    rotate_left
    · simp only [Act.put, List.setIfInBounds_toArray, List.set_cons_zero, List.set_cons_succ, i64_w, i32_w, IntKind.wrap_u32, IntKind.wrap_u8, IntKind.wrap_u16]
      rfl
    refine pure_ (i := 6) (N := some 9) (v := ?_) (a' := ?_) #[true, true, true, true, true, true, true, false, false] rfl rfl (by kernel_rfl) (fun _ _ _ h => h) (Or.inl ⟨by rfl, ?_⟩) ?_ ?_
    rotate_left
    · intro w'
      go_simp
      with_reducible rfl
    rotate_left
    · simp only [Act.put, List.setIfInBounds_toArray, List.set_cons_zero, List.set_cons_succ, i64_w, i32_w, IntKind.wrap_u32, IntKind.wrap_u8, IntKind.wrap_u16]
      rfl
    refine pure_ (i := 7) (N := some 10) (v := ?_) (a' := ?_) #[true, true, true, true, true, true, true, true, false] rfl rfl (by kernel_rfl) (fun _ _ _ h => h) (Or.inl ⟨by rfl, ?_⟩) ?_ ?_
    rotate_left
    · intro w'
      go_simp
      with_reducible rfl
    rotate_left
    · simp only [Act.put, List.setIfInBounds_toArray, List.set_cons_zero, List.set_cons_succ, i64_w, i32_w, IntKind.wrap_u32, IntKind.wrap_u8, IntKind.wrap_u16]
      rfl
    refine pure_ (i := 8) (N := some 11) (v := ?_) (a' := ?_) #[true, true, true, true, true, true, true, true, true] rfl rfl (by kernel_rfl) (fun _ _ _ h => h) (Or.inl ⟨by rfl, ?_⟩) ?_ ?_
    rotate_left
    · intro w'
      go_simp
      with_reducible rfl
    rotate_left
    · simp only [Act.put, List.setIfInBounds_toArray, List.set_cons_zero, List.set_cons_succ, i64_w, i32_w, IntKind.wrap_u32, IntKind.wrap_u8, IntKind.wrap_u16]
      rfl
    refine done_ (by kernel_rfl) ?_
    go_wp2_with (fail)
    refine bodyPost_ret (results_list (rs := [.tmp 8, .tmp 9, .tmp 10, .tmp 11]) rfl (by simp) (.tmp (.tmp (.tmp (.tmp .nil))))) rfl ?_
    rw [HE.out.1, HE.out.2]
    exact ⟨rfl, win_close (m := m) { s with sx := A, sy := B, b := setB s.b 4 true } (sl_pick (sl_drew HO3.out) [0, 1, 4] (by decide) rfl)⟩
  · replace a3 : (X3 == 0) = false := a3.trans (by rw [show ((setB s.b 4 true).a || (setB s.b 4 true).b) = true from hc]; rfl)
    have a3' : (X3 != 0) = true := by unfold bne; rw [a3]; rfl
    obtain ⟨em, hem⟩ : ∃ em, emptyB x0 y0 x1 y1 = em := ⟨_, rfl⟩
    have HX := Aside0.mk hem
    cases em
    rotate_left
    · have hE : rqE s 4 true (emptyB x0 y0 x1 y1) = 6 := by unfold rqE; rw [if_pos hk, hc, hem]; rfl
      have HE := Aside0.mk (show rqV s 4 true x0 y0 x1 y1 = .tuple #[.int .i64 0, .int .i64 0, .int .i64 0, .int .i64 6] ∧ rqS s 4 true x0 y0 x1 y1 = s by
        unfold rqV rqS
        rw [hE]
        exact ⟨rfl, rfl⟩)
      clear hc hE hk hem
      go_enter Try.func12, Try.ntmps12
      go_wp2_with (first
    | (go_at_call 25; refine (usable_w (by repeat (with_reducible first | exact HS.out | apply sl_drewN | apply sl_drew)) 0 (by rfl)).mono ?_; rintro e wu ⟨rfl, hs⟩; (try simp only [World.size_alloc] at hs); replace HS := Aside0.mk hs; clear hs)
    | (go_at_call 26; refine (mask_w (by repeat (with_reducible first | exact HS.out | apply sl_drewN | apply sl_drew)) 0 HM.out (by rfl)).mono ?_; rintro e wm ⟨rfl, hs⟩; (try simp only [World.size_alloc] at hs); replace HS := Aside0.mk hs; clear hs; obtain ⟨mb, ho⟩ := sl_open HS.out 0 rfl; have hm8 := c_at ho 0 rfl 8 rfl; have hm9 := c_at ho 0 rfl 9 rfl; clear ho)
    | (go_at_call 28; refine (limited_w (by repeat (with_reducible first | exact HS.out | apply sl_drewN | apply sl_drew)) 0 s.fx s.fy HA.out.1 HA.out.2 (by rfl)).mono ?_; rintro e wl ⟨rfl, hs⟩; (try simp only [World.size_alloc] at hs); replace HS := Aside0.mk hs; clear hs; clear hm8 hm9; have bx0 := c_at HS.out 2 rfl 0 rfl; have bx1 := c_at HS.out 2 rfl 1 rfl; have bx2 := c_at HS.out 2 rfl 2 rfl; have bx3 := c_at HS.out 2 rfl 3 rfl; have bl := blk_lt (sl_blk HS.out 2 rfl))
    | (go_at_call 29; refine (empty_c (sl_box HS.out #[.int .i64 A, .int .i64 B] 23) x0 y0 x1 y1 HX.out).mono ?_; rintro e we ⟨rfl, hs⟩; (try simp only [World.size_alloc] at hs); replace HS := Aside0.mk hs; clear hs; clear bx0 bx1 bx2 bx3 bl; have bl := blk_lt (sl_blk HS.out 2 rfl); have bx0 := c_at HS.out 2 rfl 0 rfl; have bx1 := c_at HS.out 2 rfl 1 rfl; have bx2 := c_at HS.out 2 rfl 2 rfl; have bx3 := c_at HS.out 2 rfl 3 rfl; have wx0 := c_at HS.out 3 rfl 0 rfl; have wx1 := c_at HS.out 3 rfl 1 rfl; have wf0 := f_at HS.out 3 rfl 0; have wf1 := f_at HS.out 3 rfl 1; have wl1 := blk_lt (sl_blk HS.out 3 rfl)))
      refine bodyPost_ret (results_list (rs := [.tmp 8, .tmp 9, .tmp 10, .tmp 11]) rfl (by simp) (.tmp (.tmp (.tmp (.tmp .nil))))) rfl ?_
      rw [HE.out.1, HE.out.2]
      exact ⟨rfl, sl_take HS.out 2⟩
    obtain ⟨DX, hDX⟩ : ∃ D, x1 - x0 = D := ⟨_, rfl⟩
    obtain ⟨DY, hDY⟩ : ∃ D, y1 - y0 = D := ⟨_, rfl⟩
    have hr := emp_rng hem
    have hd1 : wrap64 (x1 - x0) = DX := by rw [← hDX]; unfold wrap64; omega
    have hd2 : wrap64 (y1 - y0) = DY := by rw [← hDY]; unfold wrap64; omega
    have hE : rqE s 4 true (emptyB x0 y0 x1 y1) = 0 := by unfold rqE; rw [if_pos hk, hc, hem]; rfl
    have HE := Aside0.mk (show rqV s 4 true x0 y0 x1 y1 = .tuple #[.int .i64 DX, .int .i64 DY, .int .i64 N, .int .i64 0] ∧ rqS s 4 true x0 y0 x1 y1 = { s with sx := DX, sy := DY, b := setB s.b 4 true } by
      unfold rqV rqS rqX rqY
      rw [if_pos hE, if_pos hE, if_pos hc, if_pos hc, hDX, hDY, HN.out]
      exact ⟨rfl, rfl⟩)
    clear hc hE hk hem hr hDX hDY
    go_enter Try.func12, Try.ntmps12
    go_wp2_with (first
    | (go_at_call 25; refine (usable_w (by repeat (with_reducible first | exact HS.out | apply sl_drewN | apply sl_drew)) 0 (by rfl)).mono ?_; rintro e wu ⟨rfl, hs⟩; (try simp only [World.size_alloc] at hs); replace HS := Aside0.mk hs; clear hs)
    | (go_at_call 26; refine (mask_w (by repeat (with_reducible first | exact HS.out | apply sl_drewN | apply sl_drew)) 0 HM.out (by rfl)).mono ?_; rintro e wm ⟨rfl, hs⟩; (try simp only [World.size_alloc] at hs); replace HS := Aside0.mk hs; clear hs; obtain ⟨mb, ho⟩ := sl_open HS.out 0 rfl; have hm8 := c_at ho 0 rfl 8 rfl; have hm9 := c_at ho 0 rfl 9 rfl; clear ho)
    | (go_at_call 28; refine (limited_w (by repeat (with_reducible first | exact HS.out | apply sl_drewN | apply sl_drew)) 0 s.fx s.fy HA.out.1 HA.out.2 (by rfl)).mono ?_; rintro e wl ⟨rfl, hs⟩; (try simp only [World.size_alloc] at hs); replace HS := Aside0.mk hs; clear hs; clear hm8 hm9; have bx0 := c_at HS.out 2 rfl 0 rfl; have bx1 := c_at HS.out 2 rfl 1 rfl; have bx2 := c_at HS.out 2 rfl 2 rfl; have bx3 := c_at HS.out 2 rfl 3 rfl; have bl := blk_lt (sl_blk HS.out 2 rfl))
    | (go_at_call 29; refine (empty_c (sl_box HS.out #[.int .i64 A, .int .i64 B] 23) x0 y0 x1 y1 HX.out).mono ?_; rintro e we ⟨rfl, hs⟩; (try simp only [World.size_alloc] at hs); replace HS := Aside0.mk hs; clear hs; clear bx0 bx1 bx2 bx3 bl; have bl := blk_lt (sl_blk HS.out 2 rfl); have bx0 := c_at HS.out 2 rfl 0 rfl; have bx1 := c_at HS.out 2 rfl 1 rfl; have bx2 := c_at HS.out 2 rfl 2 rfl; have bx3 := c_at HS.out 2 rfl 3 rfl; have wx0 := c_at HS.out 3 rfl 0 rfl; have wx1 := c_at HS.out 3 rfl 1 rfl; have wf0 := f_at HS.out 3 rfl 0; have wf1 := f_at HS.out 3 rfl 1; have wl1 := blk_lt (sl_blk HS.out 3 rfl)))
    have HS2 := sl_put (sl_put HS.out 3 rfl 0 (.int .i64 DX)) 3 rfl 1 (.int .i64 DY)
    obtain ⟨m, ho⟩ := sl_open HS2 0 rfl
    have HO := Aside0.mk ho
    clear ho HS2
    refine start_ (n := 11) (S := fun w' => w'.cell? ⟨g, 1, none⟩ = some (.map (some m))) (ds := [10]) #[false, false, false, false, false, false, false, false, false, false, false] (by kernel_rfl) rfl rfl ((c_at (sl_drew HO.out) 0 rfl 1 rfl)) (fun hHeld => ?_)
    refine pure_ (i := 0) (N := some 61) (v := ?_) (a' := ?_) #[true, false, false, false, false, false, false, false, false, false, false] rfl rfl (by kernel_rfl) (fun _ _ _ h => h) (Or.inl ⟨by rfl, ?_⟩) ?_ ?_
    rotate_left
    · intro w'
      go_simp
      with_reducible rfl
    rotate_left
    · simp only [Act.put, List.setIfInBounds_toArray, List.set_cons_zero, List.set_cons_succ, i64_w, i32_w, IntKind.wrap_u32, IntKind.wrap_u8, IntKind.wrap_u16]
      rfl
    refine pure_ (i := 1) (N := some 62) (v := ?_) (a' := ?_) #[true, true, false, false, false, false, false, false, false, false, false] rfl rfl (by kernel_rfl) (fun _ _ _ h => h) (Or.inl ⟨by rfl, ?_⟩) ?_ ?_
    rotate_left
    · intro w'
      go_simp
      with_reducible rfl
    rotate_left
    · simp only [Act.put, List.setIfInBounds_toArray, List.set_cons_zero, List.set_cons_succ, i64_w, i32_w, IntKind.wrap_u32, IntKind.wrap_u8, IntKind.wrap_u16]
      rfl
    refine pure_ (i := 2) (N := some 63) (v := ?_) (a' := ?_) #[true, true, true, false, false, false, false, false, false, false, false] rfl rfl (by kernel_rfl) (fun _ _ _ h => h) (Or.inl ⟨by rfl, ?_⟩) ?_ ?_
    rotate_left
    · intro w'
      go_simp
      with_reducible rfl
    rotate_left
    · simp only [Act.put, List.setIfInBounds_toArray, List.set_cons_zero, List.set_cons_succ, i64_w, i32_w, IntKind.wrap_u32, IntKind.wrap_u8, IntKind.wrap_u16]
      rfl
    refine pure_ (i := 4) (N := some 65) (v := ?_) (a' := ?_) #[true, true, true, false, true, false, false, false, false, false, false] rfl rfl (by kernel_rfl) (fun _ _ _ h => h) (Or.inl ⟨by rfl, ?_⟩) ?_ ?_
    rotate_left
    · intro w'
      go_simp
      with_reducible rfl
    rotate_left
    · simp only [Act.put, List.setIfInBounds_toArray, List.set_cons_zero, List.set_cons_succ, i64_w, i32_w, IntKind.wrap_u32, IntKind.wrap_u8, IntKind.wrap_u16]
      rfl
    refine pure_ (i := 5) (N := some 66) (v := ?_) (a' := ?_) #[true, true, true, false, true, true, false, false, false, false, false] rfl rfl (by kernel_rfl) (fun _ _ _ h => h) (Or.inl ⟨by rfl, ?_⟩) ?_ ?_
    rotate_left
    · intro w'
      go_simp
      with_reducible rfl
    rotate_left
    · simp only [Act.put, List.setIfInBounds_toArray, List.set_cons_zero, List.set_cons_succ, i64_w, i32_w, IntKind.wrap_u32, IntKind.wrap_u8, IntKind.wrap_u16]
      rfl
    refine pure_ (i := 6) (N := some 67) (v := ?_) (a' := ?_) #[true, true, true, false, true, true, true, false, false, false, false] rfl rfl (by kernel_rfl) (fun _ _ _ h => h) (Or.inl ⟨by rfl, ?_⟩) ?_ ?_
    rotate_left
    · intro w'
      go_simp
      with_reducible rfl
    rotate_left
    · simp only [Act.put, List.setIfInBounds_toArray, List.set_cons_zero, List.set_cons_succ, i64_w, i32_w, IntKind.wrap_u32, IntKind.wrap_u8, IntKind.wrap_u16]
      rfl
    refine pure_ (i := 7) (N := some 68) (v := ?_) (a' := ?_) #[true, true, true, false, true, true, true, true, false, false, false] rfl rfl (by kernel_rfl) (fun _ _ _ h => h) (Or.inl ⟨by rfl, ?_⟩) ?_ ?_
    rotate_left
    · intro w'
      go_simp
      with_reducible rfl
    rotate_left
    · simp only [Act.put, List.setIfInBounds_toArray, List.set_cons_zero, List.set_cons_succ, i64_w, i32_w, IntKind.wrap_u32, IntKind.wrap_u8, IntKind.wrap_u16]
      rfl
    refine pure_ (i := 8) (N := some 69) (v := ?_) (a' := ?_) #[true, true, true, false, true, true, true, true, true, false, false] rfl rfl (by kernel_rfl) (fun _ _ _ h => h) (Or.inl ⟨by rfl, ?_⟩) ?_ ?_
    rotate_left
    · intro w'
      go_simp
      with_reducible rfl
    rotate_left
    · simp only [Act.put, List.setIfInBounds_toArray, List.set_cons_zero, List.set_cons_succ, i64_w, i32_w, IntKind.wrap_u32, IntKind.wrap_u8, IntKind.wrap_u16]
      rfl
    refine pure_ (i := 9) (N := some 70) (v := ?_) (a' := ?_) #[true, true, true, false, true, true, true, true, true, true, false] rfl rfl (by kernel_rfl) (fun _ _ _ h => h) (Or.inl ⟨by rfl, ?_⟩) ?_ ?_
    rotate_left
    · intro w'
      go_simp
      with_reducible rfl
    rotate_left
    · simp only [Act.put, List.setIfInBounds_toArray, List.set_cons_zero, List.set_cons_succ, i64_w, i32_w, IntKind.wrap_u32, IntKind.wrap_u8, IntKind.wrap_u16]
      rfl
    refine take_ (i := 3) (N := some 64) (v := ?_) (a' := ?_) #[true, true, true, true, true, true, true, true, true, true, false] rfl rfl (by kernel_rfl) (fun _ _ _ h => h) (Or.inl ⟨by rfl, ?_⟩) hHeld ?_ ?_
    rotate_left
    · intro w' s0
      go_simp
      with_reducible rfl
    rotate_left
    · simp only [Act.put, List.setIfInBounds_toArray, List.set_cons_zero, List.set_cons_succ, i64_w, i32_w, IntKind.wrap_u32, IntKind.wrap_u8, IntKind.wrap_u16]
      rfl
    refine last_ (i := 10) (N := none) #[true, true, true, true, true, true, true, true, true, true, true] rfl rfl (by kernel_rfl) (by decide) (fun K hK => ?_)
    refine sl_bput_step (by rfl) rfl (sl_drew HO.out) 4 rfl _ _ _ rfl rfl 4 (by decide) rfl true (congrArg (Value.int .i64) (show wrap64 1 = bi true by unfold wrap64 bi; decide)) ?_
    intro w5 hs5
    have p0 := c_at hs5 3 rfl 0 rfl
    have p1 := c_at hs5 3 rfl 1 rfl
    have q0 := c_at hs5 0 rfl 10 rfl
    have q1 := c_at hs5 0 rfl 11 rfl
    have f0 := f_at hs5 0 rfl 10
    have f1 := f_at hs5 0 rfl 11
    have hl1 := blk_lt (sl_blk hs5 0 rfl)
    refine hK.out _ _ ?_
    clear hK K
    refine done_ (by kernel_rfl) ?_
    go_wp2_with (fail)
    have HO3 := Aside0.mk (sl_put (sl_put hs5 0 rfl 10 (.int .i64 DX)) 0 rfl 11 (.int .i64 DY))
    refine start_ (n := 9) (S := fun w' => w'.cell? ⟨wl.heap.size, 0, none⟩ = some (.int .i64 DX) ∧ w'.cell? ⟨wl.heap.size, 1, none⟩ = some (.int .i64 DY)) (ds := []) #[false, false, false, false, false, false, false, false, false] (by kernel_rfl) rfl rfl ⟨(c_at (sl_drew HO3.out) 3 rfl 0 rfl), (c_at (sl_drew HO3.out) 3 rfl 1 rfl)⟩ (fun hHeld => ?_)
    refine pure_ (i := 0) (N := some 75) (v := ?_) (a' := ?_) #[true, false, false, false, false, false, false, false, false] rfl rfl (by kernel_rfl) (fun _ _ _ h => h) (Or.inl ⟨by rfl, ?_⟩) ?_ ?_
    rotate_left
    · intro w'
      go_simp
      with_reducible rfl
    rotate_left
    · simp only [Act.put, List.setIfInBounds_toArray, List.set_cons_zero, List.set_cons_succ, i64_w, i32_w, IntKind.wrap_u32, IntKind.wrap_u8, IntKind.wrap_u16]
      rfl
    refine pure_ (i := 2) (N := some 77) (v := ?_) (a' := ?_) #[true, false, true, false, false, false, false, false, false] rfl rfl (by kernel_rfl) (fun _ _ _ h => h) (Or.inl ⟨by rfl, ?_⟩) ?_ ?_
    rotate_left
    · intro w'
      go_simp
      with_reducible rfl
    rotate_left
    · simp only [Act.put, List.setIfInBounds_toArray, List.set_cons_zero, List.set_cons_succ, i64_w, i32_w, IntKind.wrap_u32, IntKind.wrap_u8, IntKind.wrap_u16]
      rfl
    refine pure_ (i := 4) (N := some 79) (v := ?_) (a' := ?_) #[true, false, true, false, true, false, false, false, false] rfl rfl (by kernel_rfl) (fun _ _ _ h => h) (Or.inl ⟨by rfl, ?_⟩) ?_ ?_
    rotate_left
    · intro w'
      go_simp
      with_reducible rfl
    rotate_left
    · simp only [Act.put, List.setIfInBounds_toArray, List.set_cons_zero, List.set_cons_succ, i64_w, i32_w, IntKind.wrap_u32, IntKind.wrap_u8, IntKind.wrap_u16]
      rfl
    refine take_ (i := 1) (N := some 76) (v := ?_) (a' := ?_) #[true, true, true, false, true, false, false, false, false] rfl rfl (by kernel_rfl) (fun _ _ _ h => h) (Or.inl ⟨by rfl, ?_⟩) hHeld ?_ ?_
    rotate_left
    · rintro w' ⟨s0, s1⟩
      go_simp
      with_reducible rfl
    rotate_left
    · simp only [Act.put, List.setIfInBounds_toArray, List.set_cons_zero, List.set_cons_succ, i64_w, i32_w, IntKind.wrap_u32, IntKind.wrap_u8, IntKind.wrap_u16]
      rfl
    refine pure_ (i := 5) (N := some 8) (v := ?_) (a' := ?_) #[true, true, true, false, true, true, false, false, false] rfl rfl (by kernel_rfl) (fun _ _ _ h => h) (Or.inl ⟨by rfl, ?_⟩) ?_ ?_
    rotate_left
    · intro w'
      go_simp
      with_reducible rfl
    rotate_left
    · simp only [Act.put, List.setIfInBounds_toArray, List.set_cons_zero, List.set_cons_succ, i64_w, i32_w, IntKind.wrap_u32, IntKind.wrap_u8, IntKind.wrap_u16]
      rfl
    refine take_ (i := 3) (N := some 78) (v := ?_) (a' := ?_) #[true, true, true, true, true, true, false, false, false] rfl rfl (by kernel_rfl) (fun _ _ _ h => h) (Or.inl ⟨by rfl, ?_⟩) hHeld ?_ ?_
    rotate_left
    · rintro w' ⟨s0, s1⟩
      go_simp
      with_reducible rfl
    rotate_left
    · simp only [Act.put, List.setIfInBounds_toArray, List.set_cons_zero, List.set_cons_succ, i64_w, i32_w, IntKind.wrap_u32, IntKind.wrap_u8, IntKind.wrap_u16]
      rfl
    refine pure_ (i := 6) (N := some 9) (v := ?_) (a' := ?_) #[true, true, true, true, true, true, true, false, false] rfl rfl (by kernel_rfl) (fun _ _ _ h => h) (Or.inl ⟨by rfl, ?_⟩) ?_ ?_
    rotate_left
    · intro w'
      go_simp
      with_reducible rfl
    rotate_left
    · simp only [Act.put, List.setIfInBounds_toArray, List.set_cons_zero, List.set_cons_succ, i64_w, i32_w, IntKind.wrap_u32, IntKind.wrap_u8, IntKind.wrap_u16]
      rfl
    refine pure_ (i := 7) (N := some 10) (v := ?_) (a' := ?_) #[true, true, true, true, true, true, true, true, false] rfl rfl (by kernel_rfl) (fun _ _ _ h => h) (Or.inl ⟨by rfl, ?_⟩) ?_ ?_
    rotate_left
    · intro w'
      go_simp
      with_reducible rfl
    rotate_left
    · simp only [Act.put, List.setIfInBounds_toArray, List.set_cons_zero, List.set_cons_succ, i64_w, i32_w, IntKind.wrap_u32, IntKind.wrap_u8, IntKind.wrap_u16]
      rfl
    refine pure_ (i := 8) (N := some 11) (v := ?_) (a' := ?_) #[true, true, true, true, true, true, true, true, true] rfl rfl (by kernel_rfl) (fun _ _ _ h => h) (Or.inl ⟨by rfl, ?_⟩) ?_ ?_
    rotate_left
    · intro w'
      go_simp
      with_reducible rfl
    rotate_left
    · simp only [Act.put, List.setIfInBounds_toArray, List.set_cons_zero, List.set_cons_succ, i64_w, i32_w, IntKind.wrap_u32, IntKind.wrap_u8, IntKind.wrap_u16]
      rfl
    refine done_ (by kernel_rfl) ?_
    go_wp2_with (fail)
    refine bodyPost_ret (results_list (rs := [.tmp 8, .tmp 9, .tmp 10, .tmp 11]) rfl (by simp) (.tmp (.tmp (.tmp (.tmp .nil))))) rfl ?_
    rw [HE.out.1, HE.out.2]
    exact ⟨rfl, win_close (m := m) { s with sx := DX, sy := DY, b := setB s.b 4 true } (sl_pick (sl_drew HO3.out) [0, 1, 4] (by decide) rfl)⟩
theorem req_80 (g : Nat) (s : WSt) (x0 y0 x1 y1 : Int) (hs : SL w0 w [winR g s, R]) : Calls Try.prog 12 #[.pointer (some ⟨g, 0, none⟩), .int .i64 8, .bool false, .agg #[.int .i64 x0, .int .i64 y0, .int .i64 x1, .int .i64 y1]] w fun e w' => e = .returned (rqV s 8 false x0 y0 x1 y1) ∧ SL w0 w' [winR g (rqS s 8 false x0 y0 x1 y1), R] := by
  have HS := Aside0.mk (sl_box hs #[.int .i64 x0, .int .i64 y0, .int .i64 x1, .int .i64 y1] 34)
  clear hs
  obtain ⟨M, hM⟩ : ∃ M, mskI s.b = M := ⟨_, rfl⟩
  obtain ⟨N1, hN1⟩ : ∃ N, mskI (setB s.b 8 false) = N := ⟨_, rfl⟩
  have h1 := an_8 s.b
  rw [hM, hN1] at h1
  have h5 := ad_80 s.b
  rw [hN1] at h5
  have a3 := and3 (setB s.b 8 false)
  rw [hN1] at a3
  obtain ⟨X3, h33⟩ : ∃ X, Go.bits .and .i64 N1 3 = X := ⟨_, rfl⟩
  rw [h33] at a3
  have HN := Aside0.mk (show mskI (setB s.b 8 false) = N1 from hN1)
  have HM := Aside0.mk hM
  clear hM hN1
  obtain ⟨A, hA⟩ : ∃ A, limI s.lx s.mx s.fx = A := ⟨_, rfl⟩
  obtain ⟨B, hB⟩ : ∃ B, limI s.ly s.my s.fy = B := ⟨_, rfl⟩
  have HA := Aside0.mk (And.intro hA hB)
  clear hA hB
  have hk : (8 : Int) = 1 ∨ (8 : Int) = 2 ∨ (8 : Int) = 4 ∨ (8 : Int) = 8 := by decide
  by_cases hc : rqC s 8 false = true
  rotate_left
  · replace a3 : (X3 == 0) = true := a3.trans (by rw [show ((setB s.b 8 false).a || (setB s.b 8 false).b) = false from Bool.eq_false_iff.2 hc]; rfl)
    have a3' : (X3 != 0) = false := by unfold bne; rw [a3]; rfl
    have hE : rqE s 8 false (emptyB x0 y0 x1 y1) = 0 := by unfold rqE; rw [if_pos hk, Bool.eq_false_iff.2 hc]; rfl
    have HE := Aside0.mk (show rqV s 8 false x0 y0 x1 y1 = .tuple #[.int .i64 A, .int .i64 B, .int .i64 N1, .int .i64 0] ∧ rqS s 8 false x0 y0 x1 y1 = { s with sx := A, sy := B, b := setB s.b 8 false } by
      unfold rqV rqS rqX rqY
      rw [if_pos hE, if_pos hE, if_neg hc, if_neg hc, HA.out.1, HA.out.2, HN.out]
      exact ⟨rfl, rfl⟩)
    clear hc hE hk
    go_enter Try.func12, Try.ntmps12
    go_wp2_with (first
    | (go_at_call 25; refine (usable_w (by repeat (with_reducible first | exact HS.out | apply sl_drewN | apply sl_drew)) 0 (by rfl)).mono ?_; rintro e wu ⟨rfl, hs⟩; (try simp only [World.size_alloc] at hs); replace HS := Aside0.mk hs; clear hs)
    | (go_at_call 26; refine (mask_w (by repeat (with_reducible first | exact HS.out | apply sl_drewN | apply sl_drew)) 0 HM.out (by rfl)).mono ?_; rintro e wm ⟨rfl, hs⟩; (try simp only [World.size_alloc] at hs); replace HS := Aside0.mk hs; clear hs; obtain ⟨mb, ho⟩ := sl_open HS.out 0 rfl; have hm8 := c_at ho 0 rfl 8 rfl; have hm9 := c_at ho 0 rfl 9 rfl; clear ho)
    | (go_at_call 28; refine (limited_w (by repeat (with_reducible first | exact HS.out | apply sl_drewN | apply sl_drew)) 0 s.fx s.fy HA.out.1 HA.out.2 (by rfl)).mono ?_; rintro e wl ⟨rfl, hs⟩; (try simp only [World.size_alloc] at hs); replace HS := Aside0.mk hs; clear hs; clear hm8 hm9; have bx0 := c_at HS.out 2 rfl 0 rfl; have bx1 := c_at HS.out 2 rfl 1 rfl; have bx2 := c_at HS.out 2 rfl 2 rfl; have bx3 := c_at HS.out 2 rfl 3 rfl; have bl := blk_lt (sl_blk HS.out 2 rfl))
    | (go_at_call 29; refine (empty_c (sl_box HS.out #[.int .i64 A, .int .i64 B] 23) x0 y0 x1 y1 HX.out).mono ?_; rintro e we ⟨rfl, hs⟩; (try simp only [World.size_alloc] at hs); replace HS := Aside0.mk hs; clear hs; clear bx0 bx1 bx2 bx3 bl; have bl := blk_lt (sl_blk HS.out 2 rfl); have bx0 := c_at HS.out 2 rfl 0 rfl; have bx1 := c_at HS.out 2 rfl 1 rfl; have bx2 := c_at HS.out 2 rfl 2 rfl; have bx3 := c_at HS.out 2 rfl 3 rfl; have wx0 := c_at HS.out 3 rfl 0 rfl; have wx1 := c_at HS.out 3 rfl 1 rfl; have wf0 := f_at HS.out 3 rfl 0; have wf1 := f_at HS.out 3 rfl 1; have wl1 := blk_lt (sl_blk HS.out 3 rfl)))
    have HS2 := sl_box HS.out #[.int .i64 A, .int .i64 B] 23
    obtain ⟨m, ho⟩ := sl_open HS2 0 rfl
    have HO := Aside0.mk ho
    clear ho HS2
    refine start_ (n := 11) (S := fun w' => w'.cell? ⟨g, 1, none⟩ = some (.map (some m))) (ds := [10]) #[false, false, false, false, false, false, false, false, false, false, false] (by kernel_rfl) rfl rfl ((c_at (sl_drew HO.out) 0 rfl 1 rfl)) (fun hHeld => ?_)
    refine pure_ (i := 0) (N := some 61) (v := ?_) (a' := ?_) #[true, false, false, false, false, false, false, false, false, false, false] rfl rfl (by kernel_rfl) (fun _ _ _ h => h) (Or.inl ⟨by rfl, ?_⟩) ?_ ?_
    rotate_left
    · intro w'
      go_simp
      with_reducible rfl
    rotate_left
    · simp only [Act.put, List.setIfInBounds_toArray, List.set_cons_zero, List.set_cons_succ, i64_w, i32_w, IntKind.wrap_u32, IntKind.wrap_u8, IntKind.wrap_u16]
      rfl
    refine pure_ (i := 1) (N := some 62) (v := ?_) (a' := ?_) #[true, true, false, false, false, false, false, false, false, false, false] rfl rfl (by kernel_rfl) (fun _ _ _ h => h) (Or.inl ⟨by rfl, ?_⟩) ?_ ?_
    rotate_left
    · intro w'
      go_simp
      with_reducible rfl
    rotate_left
    · simp only [Act.put, List.setIfInBounds_toArray, List.set_cons_zero, List.set_cons_succ, i64_w, i32_w, IntKind.wrap_u32, IntKind.wrap_u8, IntKind.wrap_u16]
      rfl
    refine pure_ (i := 2) (N := some 63) (v := ?_) (a' := ?_) #[true, true, true, false, false, false, false, false, false, false, false] rfl rfl (by kernel_rfl) (fun _ _ _ h => h) (Or.inl ⟨by rfl, ?_⟩) ?_ ?_
    rotate_left
    · intro w'
      go_simp
      with_reducible rfl
    rotate_left
    · simp only [Act.put, List.setIfInBounds_toArray, List.set_cons_zero, List.set_cons_succ, i64_w, i32_w, IntKind.wrap_u32, IntKind.wrap_u8, IntKind.wrap_u16]
      rfl
    refine pure_ (i := 4) (N := some 65) (v := ?_) (a' := ?_) #[true, true, true, false, true, false, false, false, false, false, false] rfl rfl (by kernel_rfl) (fun _ _ _ h => h) (Or.inl ⟨by rfl, ?_⟩) ?_ ?_
    rotate_left
    · intro w'
      go_simp
      with_reducible rfl
    rotate_left
    · simp only [Act.put, List.setIfInBounds_toArray, List.set_cons_zero, List.set_cons_succ, i64_w, i32_w, IntKind.wrap_u32, IntKind.wrap_u8, IntKind.wrap_u16]
      rfl
    refine pure_ (i := 5) (N := some 66) (v := ?_) (a' := ?_) #[true, true, true, false, true, true, false, false, false, false, false] rfl rfl (by kernel_rfl) (fun _ _ _ h => h) (Or.inl ⟨by rfl, ?_⟩) ?_ ?_
    rotate_left
    · intro w'
      go_simp
      with_reducible rfl
    rotate_left
    · simp only [Act.put, List.setIfInBounds_toArray, List.set_cons_zero, List.set_cons_succ, i64_w, i32_w, IntKind.wrap_u32, IntKind.wrap_u8, IntKind.wrap_u16]
      rfl
    refine pure_ (i := 6) (N := some 67) (v := ?_) (a' := ?_) #[true, true, true, false, true, true, true, false, false, false, false] rfl rfl (by kernel_rfl) (fun _ _ _ h => h) (Or.inl ⟨by rfl, ?_⟩) ?_ ?_
    rotate_left
    · intro w'
      go_simp
      with_reducible rfl
    rotate_left
    · simp only [Act.put, List.setIfInBounds_toArray, List.set_cons_zero, List.set_cons_succ, i64_w, i32_w, IntKind.wrap_u32, IntKind.wrap_u8, IntKind.wrap_u16]
      rfl
    refine pure_ (i := 7) (N := some 68) (v := ?_) (a' := ?_) #[true, true, true, false, true, true, true, true, false, false, false] rfl rfl (by kernel_rfl) (fun _ _ _ h => h) (Or.inl ⟨by rfl, ?_⟩) ?_ ?_
    rotate_left
    · intro w'
      go_simp
      with_reducible rfl
    rotate_left
    · simp only [Act.put, List.setIfInBounds_toArray, List.set_cons_zero, List.set_cons_succ, i64_w, i32_w, IntKind.wrap_u32, IntKind.wrap_u8, IntKind.wrap_u16]
      rfl
    refine pure_ (i := 8) (N := some 69) (v := ?_) (a' := ?_) #[true, true, true, false, true, true, true, true, true, false, false] rfl rfl (by kernel_rfl) (fun _ _ _ h => h) (Or.inl ⟨by rfl, ?_⟩) ?_ ?_
    rotate_left
    · intro w'
      go_simp
      with_reducible rfl
    rotate_left
    · simp only [Act.put, List.setIfInBounds_toArray, List.set_cons_zero, List.set_cons_succ, i64_w, i32_w, IntKind.wrap_u32, IntKind.wrap_u8, IntKind.wrap_u16]
      rfl
    refine pure_ (i := 9) (N := some 70) (v := ?_) (a' := ?_) #[true, true, true, false, true, true, true, true, true, true, false] rfl rfl (by kernel_rfl) (fun _ _ _ h => h) (Or.inl ⟨by rfl, ?_⟩) ?_ ?_
    rotate_left
    · intro w'
      go_simp
      with_reducible rfl
    rotate_left
    · simp only [Act.put, List.setIfInBounds_toArray, List.set_cons_zero, List.set_cons_succ, i64_w, i32_w, IntKind.wrap_u32, IntKind.wrap_u8, IntKind.wrap_u16]
      rfl
    refine take_ (i := 3) (N := some 64) (v := ?_) (a' := ?_) #[true, true, true, true, true, true, true, true, true, true, false] rfl rfl (by kernel_rfl) (fun _ _ _ h => h) (Or.inl ⟨by rfl, ?_⟩) hHeld ?_ ?_
    rotate_left
    · intro w' s0
      go_simp
      with_reducible rfl
    rotate_left
    · simp only [Act.put, List.setIfInBounds_toArray, List.set_cons_zero, List.set_cons_succ, i64_w, i32_w, IntKind.wrap_u32, IntKind.wrap_u8, IntKind.wrap_u16]
      rfl
    refine last_ (i := 10) (N := none) #[true, true, true, true, true, true, true, true, true, true, true] rfl rfl (by kernel_rfl) (by decide) (fun K hK => ?_)
    refine sl_bput_step (by rfl) rfl (sl_drew HO.out) 4 rfl _ _ _ rfl rfl 8 (by decide) rfl false (congrArg (Value.int .i64) (show wrap64 0 = bi false by unfold wrap64 bi; decide)) ?_
    intro w5 hs5
    have p0 := c_at hs5 3 rfl 0 rfl
    have p1 := c_at hs5 3 rfl 1 rfl
    have q0 := c_at hs5 0 rfl 10 rfl
    have q1 := c_at hs5 0 rfl 11 rfl
    have f0 := f_at hs5 0 rfl 10
    have f1 := f_at hs5 0 rfl 11
    have hl1 := blk_lt (sl_blk hs5 0 rfl)
    refine hK.out _ _ ?_
    clear hK K
    refine done_ (by kernel_rfl) ?_
    go_wp2_with (fail)
    have HO3 := Aside0.mk (sl_put (sl_put hs5 0 rfl 10 (.int .i64 A)) 0 rfl 11 (.int .i64 B))
    refine start_ (n := 9) (S := fun w' => w'.cell? ⟨wl.heap.size, 0, none⟩ = some (.int .i64 A) ∧ w'.cell? ⟨wl.heap.size, 1, none⟩ = some (.int .i64 B)) (ds := []) #[false, false, false, false, false, false, false, false, false] (by kernel_rfl) rfl rfl ⟨(c_at (sl_drew HO3.out) 3 rfl 0 rfl), (c_at (sl_drew HO3.out) 3 rfl 1 rfl)⟩ (fun hHeld => ?_)
    refine pure_ (i := 0) (N := some 75) (v := ?_) (a' := ?_) #[true, false, false, false, false, false, false, false, false] rfl rfl (by kernel_rfl) (fun _ _ _ h => h) (Or.inl ⟨by rfl, ?_⟩) ?_ ?_
    rotate_left
    · intro w'
      go_simp
      with_reducible rfl
    rotate_left
    · simp only [Act.put, List.setIfInBounds_toArray, List.set_cons_zero, List.set_cons_succ, i64_w, i32_w, IntKind.wrap_u32, IntKind.wrap_u8, IntKind.wrap_u16]
      rfl
    refine pure_ (i := 2) (N := some 77) (v := ?_) (a' := ?_) #[true, false, true, false, false, false, false, false, false] rfl rfl (by kernel_rfl) (fun _ _ _ h => h) (Or.inl ⟨by rfl, ?_⟩) ?_ ?_
    rotate_left
    · intro w'
      go_simp
      with_reducible rfl
    rotate_left
    · simp only [Act.put, List.setIfInBounds_toArray, List.set_cons_zero, List.set_cons_succ, i64_w, i32_w, IntKind.wrap_u32, IntKind.wrap_u8, IntKind.wrap_u16]
      rfl
    refine pure_ (i := 4) (N := some 79) (v := ?_) (a' := ?_) #[true, false, true, false, true, false, false, false, false] rfl rfl (by kernel_rfl) (fun _ _ _ h => h) (Or.inl ⟨by rfl, ?_⟩) ?_ ?_
    rotate_left
    · intro w'
      go_simp
      with_reducible rfl
    rotate_left
    · simp only [Act.put, List.setIfInBounds_toArray, List.set_cons_zero, List.set_cons_succ, i64_w, i32_w, IntKind.wrap_u32, IntKind.wrap_u8, IntKind.wrap_u16]
      rfl
    refine take_ (i := 1) (N := some 76) (v := ?_) (a' := ?_) #[true, true, true, false, true, false, false, false, false] rfl rfl (by kernel_rfl) (fun _ _ _ h => h) (Or.inl ⟨by rfl, ?_⟩) hHeld ?_ ?_
    rotate_left
    · rintro w' ⟨s0, s1⟩
      go_simp
      with_reducible rfl
    rotate_left
    · simp only [Act.put, List.setIfInBounds_toArray, List.set_cons_zero, List.set_cons_succ, i64_w, i32_w, IntKind.wrap_u32, IntKind.wrap_u8, IntKind.wrap_u16]
      rfl
    refine pure_ (i := 5) (N := some 8) (v := ?_) (a' := ?_) #[true, true, true, false, true, true, false, false, false] rfl rfl (by kernel_rfl) (fun _ _ _ h => h) (Or.inl ⟨by rfl, ?_⟩) ?_ ?_
    rotate_left
    · intro w'
      go_simp
      with_reducible rfl
    rotate_left
    · simp only [Act.put, List.setIfInBounds_toArray, List.set_cons_zero, List.set_cons_succ, i64_w, i32_w, IntKind.wrap_u32, IntKind.wrap_u8, IntKind.wrap_u16]
      rfl
    refine take_ (i := 3) (N := some 78) (v := ?_) (a' := ?_) #[true, true, true, true, true, true, false, false, false] rfl rfl (by kernel_rfl) (fun _ _ _ h => h) (Or.inl ⟨by rfl, ?_⟩) hHeld ?_ ?_
    rotate_left
    · rintro w' ⟨s0, s1⟩
      go_simp
      with_reducible rfl
    rotate_left
    · simp only [Act.put, List.setIfInBounds_toArray, List.set_cons_zero, List.set_cons_succ, i64_w, i32_w, IntKind.wrap_u32, IntKind.wrap_u8, IntKind.wrap_u16]
      rfl
    refine pure_ (i := 6) (N := some 9) (v := ?_) (a' := ?_) #[true, true, true, true, true, true, true, false, false] rfl rfl (by kernel_rfl) (fun _ _ _ h => h) (Or.inl ⟨by rfl, ?_⟩) ?_ ?_
    rotate_left
    · intro w'
      go_simp
      with_reducible rfl
    rotate_left
    · simp only [Act.put, List.setIfInBounds_toArray, List.set_cons_zero, List.set_cons_succ, i64_w, i32_w, IntKind.wrap_u32, IntKind.wrap_u8, IntKind.wrap_u16]
      rfl
    refine pure_ (i := 7) (N := some 10) (v := ?_) (a' := ?_) #[true, true, true, true, true, true, true, true, false] rfl rfl (by kernel_rfl) (fun _ _ _ h => h) (Or.inl ⟨by rfl, ?_⟩) ?_ ?_
    rotate_left
    · intro w'
      go_simp
      with_reducible rfl
    rotate_left
    · simp only [Act.put, List.setIfInBounds_toArray, List.set_cons_zero, List.set_cons_succ, i64_w, i32_w, IntKind.wrap_u32, IntKind.wrap_u8, IntKind.wrap_u16]
      rfl
    refine pure_ (i := 8) (N := some 11) (v := ?_) (a' := ?_) #[true, true, true, true, true, true, true, true, true] rfl rfl (by kernel_rfl) (fun _ _ _ h => h) (Or.inl ⟨by rfl, ?_⟩) ?_ ?_
    rotate_left
    · intro w'
      go_simp
      with_reducible rfl
    rotate_left
    · simp only [Act.put, List.setIfInBounds_toArray, List.set_cons_zero, List.set_cons_succ, i64_w, i32_w, IntKind.wrap_u32, IntKind.wrap_u8, IntKind.wrap_u16]
      rfl
    refine done_ (by kernel_rfl) ?_
    go_wp2_with (fail)
    refine bodyPost_ret (results_list (rs := [.tmp 8, .tmp 9, .tmp 10, .tmp 11]) rfl (by simp) (.tmp (.tmp (.tmp (.tmp .nil))))) rfl ?_
    rw [HE.out.1, HE.out.2]
    exact ⟨rfl, win_close (m := m) { s with sx := A, sy := B, b := setB s.b 8 false } (sl_pick (sl_drew HO3.out) [0, 1, 4] (by decide) rfl)⟩
  · replace a3 : (X3 == 0) = false := a3.trans (by rw [show ((setB s.b 8 false).a || (setB s.b 8 false).b) = true from hc]; rfl)
    have a3' : (X3 != 0) = true := by unfold bne; rw [a3]; rfl
    obtain ⟨em, hem⟩ : ∃ em, emptyB x0 y0 x1 y1 = em := ⟨_, rfl⟩
    have HX := Aside0.mk hem
    cases em
    rotate_left
    · have hE : rqE s 8 false (emptyB x0 y0 x1 y1) = 6 := by unfold rqE; rw [if_pos hk, hc, hem]; rfl
      have HE := Aside0.mk (show rqV s 8 false x0 y0 x1 y1 = .tuple #[.int .i64 0, .int .i64 0, .int .i64 0, .int .i64 6] ∧ rqS s 8 false x0 y0 x1 y1 = s by
        unfold rqV rqS
        rw [hE]
        exact ⟨rfl, rfl⟩)
      clear hc hE hk hem
      go_enter Try.func12, Try.ntmps12
      go_wp2_with (first
    | (go_at_call 25; refine (usable_w (by repeat (with_reducible first | exact HS.out | apply sl_drewN | apply sl_drew)) 0 (by rfl)).mono ?_; rintro e wu ⟨rfl, hs⟩; (try simp only [World.size_alloc] at hs); replace HS := Aside0.mk hs; clear hs)
    | (go_at_call 26; refine (mask_w (by repeat (with_reducible first | exact HS.out | apply sl_drewN | apply sl_drew)) 0 HM.out (by rfl)).mono ?_; rintro e wm ⟨rfl, hs⟩; (try simp only [World.size_alloc] at hs); replace HS := Aside0.mk hs; clear hs; obtain ⟨mb, ho⟩ := sl_open HS.out 0 rfl; have hm8 := c_at ho 0 rfl 8 rfl; have hm9 := c_at ho 0 rfl 9 rfl; clear ho)
    | (go_at_call 28; refine (limited_w (by repeat (with_reducible first | exact HS.out | apply sl_drewN | apply sl_drew)) 0 s.fx s.fy HA.out.1 HA.out.2 (by rfl)).mono ?_; rintro e wl ⟨rfl, hs⟩; (try simp only [World.size_alloc] at hs); replace HS := Aside0.mk hs; clear hs; clear hm8 hm9; have bx0 := c_at HS.out 2 rfl 0 rfl; have bx1 := c_at HS.out 2 rfl 1 rfl; have bx2 := c_at HS.out 2 rfl 2 rfl; have bx3 := c_at HS.out 2 rfl 3 rfl; have bl := blk_lt (sl_blk HS.out 2 rfl))
    | (go_at_call 29; refine (empty_c (sl_box HS.out #[.int .i64 A, .int .i64 B] 23) x0 y0 x1 y1 HX.out).mono ?_; rintro e we ⟨rfl, hs⟩; (try simp only [World.size_alloc] at hs); replace HS := Aside0.mk hs; clear hs; clear bx0 bx1 bx2 bx3 bl; have bl := blk_lt (sl_blk HS.out 2 rfl); have bx0 := c_at HS.out 2 rfl 0 rfl; have bx1 := c_at HS.out 2 rfl 1 rfl; have bx2 := c_at HS.out 2 rfl 2 rfl; have bx3 := c_at HS.out 2 rfl 3 rfl; have wx0 := c_at HS.out 3 rfl 0 rfl; have wx1 := c_at HS.out 3 rfl 1 rfl; have wf0 := f_at HS.out 3 rfl 0; have wf1 := f_at HS.out 3 rfl 1; have wl1 := blk_lt (sl_blk HS.out 3 rfl)))
      refine bodyPost_ret (results_list (rs := [.tmp 8, .tmp 9, .tmp 10, .tmp 11]) rfl (by simp) (.tmp (.tmp (.tmp (.tmp .nil))))) rfl ?_
      rw [HE.out.1, HE.out.2]
      exact ⟨rfl, sl_take HS.out 2⟩
    obtain ⟨DX, hDX⟩ : ∃ D, x1 - x0 = D := ⟨_, rfl⟩
    obtain ⟨DY, hDY⟩ : ∃ D, y1 - y0 = D := ⟨_, rfl⟩
    have hr := emp_rng hem
    have hd1 : wrap64 (x1 - x0) = DX := by rw [← hDX]; unfold wrap64; omega
    have hd2 : wrap64 (y1 - y0) = DY := by rw [← hDY]; unfold wrap64; omega
    have hE : rqE s 8 false (emptyB x0 y0 x1 y1) = 0 := by unfold rqE; rw [if_pos hk, hc, hem]; rfl
    have HE := Aside0.mk (show rqV s 8 false x0 y0 x1 y1 = .tuple #[.int .i64 DX, .int .i64 DY, .int .i64 N1, .int .i64 0] ∧ rqS s 8 false x0 y0 x1 y1 = { s with sx := DX, sy := DY, b := setB s.b 8 false } by
      unfold rqV rqS rqX rqY
      rw [if_pos hE, if_pos hE, if_pos hc, if_pos hc, hDX, hDY, HN.out]
      exact ⟨rfl, rfl⟩)
    clear hc hE hk hem hr hDX hDY
    go_enter Try.func12, Try.ntmps12
    go_wp2_with (first
    | (go_at_call 25; refine (usable_w (by repeat (with_reducible first | exact HS.out | apply sl_drewN | apply sl_drew)) 0 (by rfl)).mono ?_; rintro e wu ⟨rfl, hs⟩; (try simp only [World.size_alloc] at hs); replace HS := Aside0.mk hs; clear hs)
    | (go_at_call 26; refine (mask_w (by repeat (with_reducible first | exact HS.out | apply sl_drewN | apply sl_drew)) 0 HM.out (by rfl)).mono ?_; rintro e wm ⟨rfl, hs⟩; (try simp only [World.size_alloc] at hs); replace HS := Aside0.mk hs; clear hs; obtain ⟨mb, ho⟩ := sl_open HS.out 0 rfl; have hm8 := c_at ho 0 rfl 8 rfl; have hm9 := c_at ho 0 rfl 9 rfl; clear ho)
    | (go_at_call 28; refine (limited_w (by repeat (with_reducible first | exact HS.out | apply sl_drewN | apply sl_drew)) 0 s.fx s.fy HA.out.1 HA.out.2 (by rfl)).mono ?_; rintro e wl ⟨rfl, hs⟩; (try simp only [World.size_alloc] at hs); replace HS := Aside0.mk hs; clear hs; clear hm8 hm9; have bx0 := c_at HS.out 2 rfl 0 rfl; have bx1 := c_at HS.out 2 rfl 1 rfl; have bx2 := c_at HS.out 2 rfl 2 rfl; have bx3 := c_at HS.out 2 rfl 3 rfl; have bl := blk_lt (sl_blk HS.out 2 rfl))
    | (go_at_call 29; refine (empty_c (sl_box HS.out #[.int .i64 A, .int .i64 B] 23) x0 y0 x1 y1 HX.out).mono ?_; rintro e we ⟨rfl, hs⟩; (try simp only [World.size_alloc] at hs); replace HS := Aside0.mk hs; clear hs; clear bx0 bx1 bx2 bx3 bl; have bl := blk_lt (sl_blk HS.out 2 rfl); have bx0 := c_at HS.out 2 rfl 0 rfl; have bx1 := c_at HS.out 2 rfl 1 rfl; have bx2 := c_at HS.out 2 rfl 2 rfl; have bx3 := c_at HS.out 2 rfl 3 rfl; have wx0 := c_at HS.out 3 rfl 0 rfl; have wx1 := c_at HS.out 3 rfl 1 rfl; have wf0 := f_at HS.out 3 rfl 0; have wf1 := f_at HS.out 3 rfl 1; have wl1 := blk_lt (sl_blk HS.out 3 rfl)))
    have HS2 := sl_put (sl_put HS.out 3 rfl 0 (.int .i64 DX)) 3 rfl 1 (.int .i64 DY)
    obtain ⟨m, ho⟩ := sl_open HS2 0 rfl
    have HO := Aside0.mk ho
    clear ho HS2
    refine start_ (n := 11) (S := fun w' => w'.cell? ⟨g, 1, none⟩ = some (.map (some m))) (ds := [10]) #[false, false, false, false, false, false, false, false, false, false, false] (by kernel_rfl) rfl rfl ((c_at (sl_drew HO.out) 0 rfl 1 rfl)) (fun hHeld => ?_)
    refine pure_ (i := 0) (N := some 61) (v := ?_) (a' := ?_) #[true, false, false, false, false, false, false, false, false, false, false] rfl rfl (by kernel_rfl) (fun _ _ _ h => h) (Or.inl ⟨by rfl, ?_⟩) ?_ ?_
    rotate_left
    · intro w'
      go_simp
      with_reducible rfl
    rotate_left
    · simp only [Act.put, List.setIfInBounds_toArray, List.set_cons_zero, List.set_cons_succ, i64_w, i32_w, IntKind.wrap_u32, IntKind.wrap_u8, IntKind.wrap_u16]
      rfl
    refine pure_ (i := 1) (N := some 62) (v := ?_) (a' := ?_) #[true, true, false, false, false, false, false, false, false, false, false] rfl rfl (by kernel_rfl) (fun _ _ _ h => h) (Or.inl ⟨by rfl, ?_⟩) ?_ ?_
    rotate_left
    · intro w'
      go_simp
      with_reducible rfl
    rotate_left
    · simp only [Act.put, List.setIfInBounds_toArray, List.set_cons_zero, List.set_cons_succ, i64_w, i32_w, IntKind.wrap_u32, IntKind.wrap_u8, IntKind.wrap_u16]
      rfl
    refine pure_ (i := 2) (N := some 63) (v := ?_) (a' := ?_) #[true, true, true, false, false, false, false, false, false, false, false] rfl rfl (by kernel_rfl) (fun _ _ _ h => h) (Or.inl ⟨by rfl, ?_⟩) ?_ ?_
    rotate_left
    · intro w'
      go_simp
      with_reducible rfl
    rotate_left
    · simp only [Act.put, List.setIfInBounds_toArray, List.set_cons_zero, List.set_cons_succ, i64_w, i32_w, IntKind.wrap_u32, IntKind.wrap_u8, IntKind.wrap_u16]
      rfl
    refine pure_ (i := 4) (N := some 65) (v := ?_) (a' := ?_) #[true, true, true, false, true, false, false, false, false, false, false] rfl rfl (by kernel_rfl) (fun _ _ _ h => h) (Or.inl ⟨by rfl, ?_⟩) ?_ ?_
    rotate_left
    · intro w'
      go_simp
      with_reducible rfl
    rotate_left
    · simp only [Act.put, List.setIfInBounds_toArray, List.set_cons_zero, List.set_cons_succ, i64_w, i32_w, IntKind.wrap_u32, IntKind.wrap_u8, IntKind.wrap_u16]
      rfl
    refine pure_ (i := 5) (N := some 66) (v := ?_) (a' := ?_) #[true, true, true, false, true, true, false, false, false, false, false] rfl rfl (by kernel_rfl) (fun _ _ _ h => h) (Or.inl ⟨by rfl, ?_⟩) ?_ ?_
    rotate_left
    · intro w'
      go_simp
      with_reducible rfl
    rotate_left
    · simp only [Act.put, List.setIfInBounds_toArray, List.set_cons_zero, List.set_cons_succ, i64_w, i32_w, IntKind.wrap_u32, IntKind.wrap_u8, IntKind.wrap_u16]
      rfl
    refine pure_ (i := 6) (N := some 67) (v := ?_) (a' := ?_) #[true, true, true, false, true, true, true, false, false, false, false] rfl rfl (by kernel_rfl) (fun _ _ _ h => h) (Or.inl ⟨by rfl, ?_⟩) ?_ ?_
    rotate_left
    · intro w'
      go_simp
      with_reducible rfl
    rotate_left
    · simp only [Act.put, List.setIfInBounds_toArray, List.set_cons_zero, List.set_cons_succ, i64_w, i32_w, IntKind.wrap_u32, IntKind.wrap_u8, IntKind.wrap_u16]
      rfl
    refine pure_ (i := 7) (N := some 68) (v := ?_) (a' := ?_) #[true, true, true, false, true, true, true, true, false, false, false] rfl rfl (by kernel_rfl) (fun _ _ _ h => h) (Or.inl ⟨by rfl, ?_⟩) ?_ ?_
    rotate_left
    · intro w'
      go_simp
      with_reducible rfl
    rotate_left
    · simp only [Act.put, List.setIfInBounds_toArray, List.set_cons_zero, List.set_cons_succ, i64_w, i32_w, IntKind.wrap_u32, IntKind.wrap_u8, IntKind.wrap_u16]
      rfl
    refine pure_ (i := 8) (N := some 69) (v := ?_) (a' := ?_) #[true, true, true, false, true, true, true, true, true, false, false] rfl rfl (by kernel_rfl) (fun _ _ _ h => h) (Or.inl ⟨by rfl, ?_⟩) ?_ ?_
    rotate_left
    · intro w'
      go_simp
      with_reducible rfl
    rotate_left
    · simp only [Act.put, List.setIfInBounds_toArray, List.set_cons_zero, List.set_cons_succ, i64_w, i32_w, IntKind.wrap_u32, IntKind.wrap_u8, IntKind.wrap_u16]
      rfl
    refine pure_ (i := 9) (N := some 70) (v := ?_) (a' := ?_) #[true, true, true, false, true, true, true, true, true, true, false] rfl rfl (by kernel_rfl) (fun _ _ _ h => h) (Or.inl ⟨by rfl, ?_⟩) ?_ ?_
    rotate_left
    · intro w'
      go_simp
      with_reducible rfl
    rotate_left
    · simp only [Act.put, List.setIfInBounds_toArray, List.set_cons_zero, List.set_cons_succ, i64_w, i32_w, IntKind.wrap_u32, IntKind.wrap_u8, IntKind.wrap_u16]
      rfl
    refine take_ (i := 3) (N := some 64) (v := ?_) (a' := ?_) #[true, true, true, true, true, true, true, true, true, true, false] rfl rfl (by kernel_rfl) (fun _ _ _ h => h) (Or.inl ⟨by rfl, ?_⟩) hHeld ?_ ?_
    rotate_left
    · intro w' s0
      go_simp
      with_reducible rfl
    rotate_left
    · simp only [Act.put, List.setIfInBounds_toArray, List.set_cons_zero, List.set_cons_succ, i64_w, i32_w, IntKind.wrap_u32, IntKind.wrap_u8, IntKind.wrap_u16]
      rfl
    refine last_ (i := 10) (N := none) #[true, true, true, true, true, true, true, true, true, true, true] rfl rfl (by kernel_rfl) (by decide) (fun K hK => ?_)
    refine sl_bput_step (by rfl) rfl (sl_drew HO.out) 4 rfl _ _ _ rfl rfl 8 (by decide) rfl false (congrArg (Value.int .i64) (show wrap64 0 = bi false by unfold wrap64 bi; decide)) ?_
    intro w5 hs5
    have p0 := c_at hs5 3 rfl 0 rfl
    have p1 := c_at hs5 3 rfl 1 rfl
    have q0 := c_at hs5 0 rfl 10 rfl
    have q1 := c_at hs5 0 rfl 11 rfl
    have f0 := f_at hs5 0 rfl 10
    have f1 := f_at hs5 0 rfl 11
    have hl1 := blk_lt (sl_blk hs5 0 rfl)
    refine hK.out _ _ ?_
    clear hK K
    refine done_ (by kernel_rfl) ?_
    go_wp2_with (fail)
    have HO3 := Aside0.mk (sl_put (sl_put hs5 0 rfl 10 (.int .i64 DX)) 0 rfl 11 (.int .i64 DY))
    refine start_ (n := 9) (S := fun w' => w'.cell? ⟨wl.heap.size, 0, none⟩ = some (.int .i64 DX) ∧ w'.cell? ⟨wl.heap.size, 1, none⟩ = some (.int .i64 DY)) (ds := []) #[false, false, false, false, false, false, false, false, false] (by kernel_rfl) rfl rfl ⟨(c_at (sl_drew HO3.out) 3 rfl 0 rfl), (c_at (sl_drew HO3.out) 3 rfl 1 rfl)⟩ (fun hHeld => ?_)
    refine pure_ (i := 0) (N := some 75) (v := ?_) (a' := ?_) #[true, false, false, false, false, false, false, false, false] rfl rfl (by kernel_rfl) (fun _ _ _ h => h) (Or.inl ⟨by rfl, ?_⟩) ?_ ?_
    rotate_left
    · intro w'
      go_simp
      with_reducible rfl
    rotate_left
    · simp only [Act.put, List.setIfInBounds_toArray, List.set_cons_zero, List.set_cons_succ, i64_w, i32_w, IntKind.wrap_u32, IntKind.wrap_u8, IntKind.wrap_u16]
      rfl
    refine pure_ (i := 2) (N := some 77) (v := ?_) (a' := ?_) #[true, false, true, false, false, false, false, false, false] rfl rfl (by kernel_rfl) (fun _ _ _ h => h) (Or.inl ⟨by rfl, ?_⟩) ?_ ?_
    rotate_left
    · intro w'
      go_simp
      with_reducible rfl
    rotate_left
    · simp only [Act.put, List.setIfInBounds_toArray, List.set_cons_zero, List.set_cons_succ, i64_w, i32_w, IntKind.wrap_u32, IntKind.wrap_u8, IntKind.wrap_u16]
      rfl
    refine pure_ (i := 4) (N := some 79) (v := ?_) (a' := ?_) #[true, false, true, false, true, false, false, false, false] rfl rfl (by kernel_rfl) (fun _ _ _ h => h) (Or.inl ⟨by rfl, ?_⟩) ?_ ?_
    rotate_left
    · intro w'
      go_simp
      with_reducible rfl
    rotate_left
    · simp only [Act.put, List.setIfInBounds_toArray, List.set_cons_zero, List.set_cons_succ, i64_w, i32_w, IntKind.wrap_u32, IntKind.wrap_u8, IntKind.wrap_u16]
      rfl
    refine take_ (i := 1) (N := some 76) (v := ?_) (a' := ?_) #[true, true, true, false, true, false, false, false, false] rfl rfl (by kernel_rfl) (fun _ _ _ h => h) (Or.inl ⟨by rfl, ?_⟩) hHeld ?_ ?_
    rotate_left
    · rintro w' ⟨s0, s1⟩
      go_simp
      with_reducible rfl
    rotate_left
    · simp only [Act.put, List.setIfInBounds_toArray, List.set_cons_zero, List.set_cons_succ, i64_w, i32_w, IntKind.wrap_u32, IntKind.wrap_u8, IntKind.wrap_u16]
      rfl
    refine pure_ (i := 5) (N := some 8) (v := ?_) (a' := ?_) #[true, true, true, false, true, true, false, false, false] rfl rfl (by kernel_rfl) (fun _ _ _ h => h) (Or.inl ⟨by rfl, ?_⟩) ?_ ?_
    rotate_left
    · intro w'
      go_simp
      with_reducible rfl
    rotate_left
    · simp only [Act.put, List.setIfInBounds_toArray, List.set_cons_zero, List.set_cons_succ, i64_w, i32_w, IntKind.wrap_u32, IntKind.wrap_u8, IntKind.wrap_u16]
      rfl
    refine take_ (i := 3) (N := some 78) (v := ?_) (a' := ?_) #[true, true, true, true, true, true, false, false, false] rfl rfl (by kernel_rfl) (fun _ _ _ h => h) (Or.inl ⟨by rfl, ?_⟩) hHeld ?_ ?_
    rotate_left
    · rintro w' ⟨s0, s1⟩
      go_simp
      with_reducible rfl
    rotate_left
    · simp only [Act.put, List.setIfInBounds_toArray, List.set_cons_zero, List.set_cons_succ, i64_w, i32_w, IntKind.wrap_u32, IntKind.wrap_u8, IntKind.wrap_u16]
      rfl
    refine pure_ (i := 6) (N := some 9) (v := ?_) (a' := ?_) #[true, true, true, true, true, true, true, false, false] rfl rfl (by kernel_rfl) (fun _ _ _ h => h) (Or.inl ⟨by rfl, ?_⟩) ?_ ?_
    rotate_left
    · intro w'
      go_simp
      with_reducible rfl
    rotate_left
    · simp only [Act.put, List.setIfInBounds_toArray, List.set_cons_zero, List.set_cons_succ, i64_w, i32_w, IntKind.wrap_u32, IntKind.wrap_u8, IntKind.wrap_u16]
      rfl
    refine pure_ (i := 7) (N := some 10) (v := ?_) (a' := ?_) #[true, true, true, true, true, true, true, true, false] rfl rfl (by kernel_rfl) (fun _ _ _ h => h) (Or.inl ⟨by rfl, ?_⟩) ?_ ?_
    rotate_left
    · intro w'
      go_simp
      with_reducible rfl
    rotate_left
    · simp only [Act.put, List.setIfInBounds_toArray, List.set_cons_zero, List.set_cons_succ, i64_w, i32_w, IntKind.wrap_u32, IntKind.wrap_u8, IntKind.wrap_u16]
      rfl
    refine pure_ (i := 8) (N := some 11) (v := ?_) (a' := ?_) #[true, true, true, true, true, true, true, true, true] rfl rfl (by kernel_rfl) (fun _ _ _ h => h) (Or.inl ⟨by rfl, ?_⟩) ?_ ?_
    rotate_left
    · intro w'
      go_simp
      with_reducible rfl
    rotate_left
    · simp only [Act.put, List.setIfInBounds_toArray, List.set_cons_zero, List.set_cons_succ, i64_w, i32_w, IntKind.wrap_u32, IntKind.wrap_u8, IntKind.wrap_u16]
      rfl
    refine done_ (by kernel_rfl) ?_
    go_wp2_with (fail)
    refine bodyPost_ret (results_list (rs := [.tmp 8, .tmp 9, .tmp 10, .tmp 11]) rfl (by simp) (.tmp (.tmp (.tmp (.tmp .nil))))) rfl ?_
    rw [HE.out.1, HE.out.2]
    exact ⟨rfl, win_close (m := m) { s with sx := DX, sy := DY, b := setB s.b 8 false } (sl_pick (sl_drew HO3.out) [0, 1, 4] (by decide) rfl)⟩
theorem req_81 (g : Nat) (s : WSt) (x0 y0 x1 y1 : Int) (hs : SL w0 w [winR g s, R]) : Calls Try.prog 12 #[.pointer (some ⟨g, 0, none⟩), .int .i64 8, .bool true, .agg #[.int .i64 x0, .int .i64 y0, .int .i64 x1, .int .i64 y1]] w fun e w' => e = .returned (rqV s 8 true x0 y0 x1 y1) ∧ SL w0 w' [winR g (rqS s 8 true x0 y0 x1 y1), R] := by
  have HS := Aside0.mk (sl_box hs #[.int .i64 x0, .int .i64 y0, .int .i64 x1, .int .i64 y1] 34)
  clear hs
  obtain ⟨M, hM⟩ : ∃ M, mskI s.b = M := ⟨_, rfl⟩
  obtain ⟨N1, hN1⟩ : ∃ N, mskI (setB s.b 8 false) = N := ⟨_, rfl⟩
  have h1 := an_8 s.b
  rw [hM, hN1] at h1
  obtain ⟨N, hN⟩ : ∃ N, mskI (setB s.b 8 true) = N := ⟨_, rfl⟩
  have h2 := or_8 s.b
  rw [hN1, hN] at h2
  have h5 := ad_81 s.b
  rw [hN] at h5
  have a3 := and3 (setB s.b 8 true)
  rw [hN] at a3
  obtain ⟨X3, h33⟩ : ∃ X, Go.bits .and .i64 N 3 = X := ⟨_, rfl⟩
  rw [h33] at a3
  have HN := Aside0.mk (show mskI (setB s.b 8 true) = N from hN)
  have HM := Aside0.mk hM
  clear hM hN1 hN
  obtain ⟨A, hA⟩ : ∃ A, limI s.lx s.mx s.fx = A := ⟨_, rfl⟩
  obtain ⟨B, hB⟩ : ∃ B, limI s.ly s.my s.fy = B := ⟨_, rfl⟩
  have HA := Aside0.mk (And.intro hA hB)
  clear hA hB
  have hk : (8 : Int) = 1 ∨ (8 : Int) = 2 ∨ (8 : Int) = 4 ∨ (8 : Int) = 8 := by decide
  by_cases hc : rqC s 8 true = true
  rotate_left
  · replace a3 : (X3 == 0) = true := a3.trans (by rw [show ((setB s.b 8 true).a || (setB s.b 8 true).b) = false from Bool.eq_false_iff.2 hc]; rfl)
    have a3' : (X3 != 0) = false := by unfold bne; rw [a3]; rfl
    have hE : rqE s 8 true (emptyB x0 y0 x1 y1) = 0 := by unfold rqE; rw [if_pos hk, Bool.eq_false_iff.2 hc]; rfl
    have HE := Aside0.mk (show rqV s 8 true x0 y0 x1 y1 = .tuple #[.int .i64 A, .int .i64 B, .int .i64 N, .int .i64 0] ∧ rqS s 8 true x0 y0 x1 y1 = { s with sx := A, sy := B, b := setB s.b 8 true } by
      unfold rqV rqS rqX rqY
      rw [if_pos hE, if_pos hE, if_neg hc, if_neg hc, HA.out.1, HA.out.2, HN.out]
      exact ⟨rfl, rfl⟩)
    clear hc hE hk
    go_enter Try.func12, Try.ntmps12
    go_wp2_with (first
    | (go_at_call 25; refine (usable_w (by repeat (with_reducible first | exact HS.out | apply sl_drewN | apply sl_drew)) 0 (by rfl)).mono ?_; rintro e wu ⟨rfl, hs⟩; (try simp only [World.size_alloc] at hs); replace HS := Aside0.mk hs; clear hs)
    | (go_at_call 26; refine (mask_w (by repeat (with_reducible first | exact HS.out | apply sl_drewN | apply sl_drew)) 0 HM.out (by rfl)).mono ?_; rintro e wm ⟨rfl, hs⟩; (try simp only [World.size_alloc] at hs); replace HS := Aside0.mk hs; clear hs; obtain ⟨mb, ho⟩ := sl_open HS.out 0 rfl; have hm8 := c_at ho 0 rfl 8 rfl; have hm9 := c_at ho 0 rfl 9 rfl; clear ho)
    | (go_at_call 28; refine (limited_w (by repeat (with_reducible first | exact HS.out | apply sl_drewN | apply sl_drew)) 0 s.fx s.fy HA.out.1 HA.out.2 (by rfl)).mono ?_; rintro e wl ⟨rfl, hs⟩; (try simp only [World.size_alloc] at hs); replace HS := Aside0.mk hs; clear hs; clear hm8 hm9; have bx0 := c_at HS.out 2 rfl 0 rfl; have bx1 := c_at HS.out 2 rfl 1 rfl; have bx2 := c_at HS.out 2 rfl 2 rfl; have bx3 := c_at HS.out 2 rfl 3 rfl; have bl := blk_lt (sl_blk HS.out 2 rfl))
    | (go_at_call 29; refine (empty_c (sl_box HS.out #[.int .i64 A, .int .i64 B] 23) x0 y0 x1 y1 HX.out).mono ?_; rintro e we ⟨rfl, hs⟩; (try simp only [World.size_alloc] at hs); replace HS := Aside0.mk hs; clear hs; clear bx0 bx1 bx2 bx3 bl; have bl := blk_lt (sl_blk HS.out 2 rfl); have bx0 := c_at HS.out 2 rfl 0 rfl; have bx1 := c_at HS.out 2 rfl 1 rfl; have bx2 := c_at HS.out 2 rfl 2 rfl; have bx3 := c_at HS.out 2 rfl 3 rfl; have wx0 := c_at HS.out 3 rfl 0 rfl; have wx1 := c_at HS.out 3 rfl 1 rfl; have wf0 := f_at HS.out 3 rfl 0; have wf1 := f_at HS.out 3 rfl 1; have wl1 := blk_lt (sl_blk HS.out 3 rfl)))
    have HS2 := sl_box HS.out #[.int .i64 A, .int .i64 B] 23
    obtain ⟨m, ho⟩ := sl_open HS2 0 rfl
    have HO := Aside0.mk ho
    clear ho HS2
    refine start_ (n := 11) (S := fun w' => w'.cell? ⟨g, 1, none⟩ = some (.map (some m))) (ds := [10]) #[false, false, false, false, false, false, false, false, false, false, false] (by kernel_rfl) rfl rfl ((c_at (sl_drew HO.out) 0 rfl 1 rfl)) (fun hHeld => ?_)
    refine pure_ (i := 0) (N := some 61) (v := ?_) (a' := ?_) #[true, false, false, false, false, false, false, false, false, false, false] rfl rfl (by kernel_rfl) (fun _ _ _ h => h) (Or.inl ⟨by rfl, ?_⟩) ?_ ?_
    rotate_left
    · intro w'
      go_simp
      with_reducible rfl
    rotate_left
    · simp only [Act.put, List.setIfInBounds_toArray, List.set_cons_zero, List.set_cons_succ, i64_w, i32_w, IntKind.wrap_u32, IntKind.wrap_u8, IntKind.wrap_u16]
      rfl
    refine pure_ (i := 1) (N := some 62) (v := ?_) (a' := ?_) #[true, true, false, false, false, false, false, false, false, false, false] rfl rfl (by kernel_rfl) (fun _ _ _ h => h) (Or.inl ⟨by rfl, ?_⟩) ?_ ?_
    rotate_left
    · intro w'
      go_simp
      with_reducible rfl
    rotate_left
    · simp only [Act.put, List.setIfInBounds_toArray, List.set_cons_zero, List.set_cons_succ, i64_w, i32_w, IntKind.wrap_u32, IntKind.wrap_u8, IntKind.wrap_u16]
      rfl
    refine pure_ (i := 2) (N := some 63) (v := ?_) (a' := ?_) #[true, true, true, false, false, false, false, false, false, false, false] rfl rfl (by kernel_rfl) (fun _ _ _ h => h) (Or.inl ⟨by rfl, ?_⟩) ?_ ?_
    rotate_left
    · intro w'
      go_simp
      with_reducible rfl
    rotate_left
    · simp only [Act.put, List.setIfInBounds_toArray, List.set_cons_zero, List.set_cons_succ, i64_w, i32_w, IntKind.wrap_u32, IntKind.wrap_u8, IntKind.wrap_u16]
      rfl
    refine pure_ (i := 4) (N := some 65) (v := ?_) (a' := ?_) #[true, true, true, false, true, false, false, false, false, false, false] rfl rfl (by kernel_rfl) (fun _ _ _ h => h) (Or.inl ⟨by rfl, ?_⟩) ?_ ?_
    rotate_left
    · intro w'
      go_simp
      with_reducible rfl
    rotate_left
    · simp only [Act.put, List.setIfInBounds_toArray, List.set_cons_zero, List.set_cons_succ, i64_w, i32_w, IntKind.wrap_u32, IntKind.wrap_u8, IntKind.wrap_u16]
      rfl
    refine pure_ (i := 5) (N := some 66) (v := ?_) (a' := ?_) #[true, true, true, false, true, true, false, false, false, false, false] rfl rfl (by kernel_rfl) (fun _ _ _ h => h) (Or.inl ⟨by rfl, ?_⟩) ?_ ?_
    rotate_left
    · intro w'
      go_simp
      with_reducible rfl
    rotate_left
    · simp only [Act.put, List.setIfInBounds_toArray, List.set_cons_zero, List.set_cons_succ, i64_w, i32_w, IntKind.wrap_u32, IntKind.wrap_u8, IntKind.wrap_u16]
      rfl
    refine pure_ (i := 6) (N := some 67) (v := ?_) (a' := ?_) #[true, true, true, false, true, true, true, false, false, false, false] rfl rfl (by kernel_rfl) (fun _ _ _ h => h) (Or.inl ⟨by rfl, ?_⟩) ?_ ?_
    rotate_left
    · intro w'
      go_simp
      with_reducible rfl
    rotate_left
    · simp only [Act.put, List.setIfInBounds_toArray, List.set_cons_zero, List.set_cons_succ, i64_w, i32_w, IntKind.wrap_u32, IntKind.wrap_u8, IntKind.wrap_u16]
      rfl
    refine pure_ (i := 7) (N := some 68) (v := ?_) (a' := ?_) #[true, true, true, false, true, true, true, true, false, false, false] rfl rfl (by kernel_rfl) (fun _ _ _ h => h) (Or.inl ⟨by rfl, ?_⟩) ?_ ?_
    rotate_left
    · intro w'
      go_simp
      with_reducible rfl
    rotate_left
    · simp only [Act.put, List.setIfInBounds_toArray, List.set_cons_zero, List.set_cons_succ, i64_w, i32_w, IntKind.wrap_u32, IntKind.wrap_u8, IntKind.wrap_u16]
      rfl
    refine pure_ (i := 8) (N := some 69) (v := ?_) (a' := ?_) #[true, true, true, false, true, true, true, true, true, false, false] rfl rfl (by kernel_rfl) (fun _ _ _ h => h) (Or.inl ⟨by rfl, ?_⟩) ?_ ?_
    rotate_left
    · intro w'
      go_simp
      with_reducible rfl
    rotate_left
    · simp only [Act.put, List.setIfInBounds_toArray, List.set_cons_zero, List.set_cons_succ, i64_w, i32_w, IntKind.wrap_u32, IntKind.wrap_u8, IntKind.wrap_u16]
      rfl
    refine pure_ (i := 9) (N := some 70) (v := ?_) (a' := ?_) #[true, true, true, false, true, true, true, true, true, true, false] rfl rfl (by kernel_rfl) (fun _ _ _ h => h) (Or.inl ⟨by rfl, ?_⟩) ?_ ?_
    rotate_left
    · intro w'
      go_simp
      with_reducible rfl
    rotate_left
    · simp only [Act.put, List.setIfInBounds_toArray, List.set_cons_zero, List.set_cons_succ, i64_w, i32_w, IntKind.wrap_u32, IntKind.wrap_u8, IntKind.wrap_u16]
      rfl
    refine take_ (i := 3) (N := some 64) (v := ?_) (a' := ?_) #[true, true, true, true, true, true, true, true, true, true, false] rfl rfl (by kernel_rfl) (fun _ _ _ h => h) (Or.inl ⟨by rfl, ?_⟩) hHeld ?_ ?_
    rotate_left
    · intro w' s0
      go_simp
      with_reducible rfl
    rotate_left
    · simp only [Act.put, List.setIfInBounds_toArray, List.set_cons_zero, List.set_cons_succ, i64_w, i32_w, IntKind.wrap_u32, IntKind.wrap_u8, IntKind.wrap_u16]
      rfl
    refine last_ (i := 10) (N := none) #[true, true, true, true, true, true, true, true, true, true, true] rfl rfl (by kernel_rfl) (by decide) (fun K hK => ?_)
    refine sl_bput_step (by rfl) rfl (sl_drew HO.out) 4 rfl _ _ _ rfl rfl 8 (by decide) rfl true (congrArg (Value.int .i64) (show wrap64 1 = bi true by unfold wrap64 bi; decide)) ?_
    intro w5 hs5
    have p0 := c_at hs5 3 rfl 0 rfl
    have p1 := c_at hs5 3 rfl 1 rfl
    have q0 := c_at hs5 0 rfl 10 rfl
    have q1 := c_at hs5 0 rfl 11 rfl
    have f0 := f_at hs5 0 rfl 10
    have f1 := f_at hs5 0 rfl 11
    have hl1 := blk_lt (sl_blk hs5 0 rfl)
    refine hK.out _ _ ?_
    clear hK K
    refine done_ (by kernel_rfl) ?_
    go_wp2_with (fail)
    have HO3 := Aside0.mk (sl_put (sl_put hs5 0 rfl 10 (.int .i64 A)) 0 rfl 11 (.int .i64 B))
    refine start_ (n := 9) (S := fun w' => w'.cell? ⟨wl.heap.size, 0, none⟩ = some (.int .i64 A) ∧ w'.cell? ⟨wl.heap.size, 1, none⟩ = some (.int .i64 B)) (ds := []) #[false, false, false, false, false, false, false, false, false] (by kernel_rfl) rfl rfl ⟨(c_at (sl_drew HO3.out) 3 rfl 0 rfl), (c_at (sl_drew HO3.out) 3 rfl 1 rfl)⟩ (fun hHeld => ?_)
    refine pure_ (i := 0) (N := some 75) (v := ?_) (a' := ?_) #[true, false, false, false, false, false, false, false, false] rfl rfl (by kernel_rfl) (fun _ _ _ h => h) (Or.inl ⟨by rfl, ?_⟩) ?_ ?_
    rotate_left
    · intro w'
      go_simp
      with_reducible rfl
    rotate_left
    · simp only [Act.put, List.setIfInBounds_toArray, List.set_cons_zero, List.set_cons_succ, i64_w, i32_w, IntKind.wrap_u32, IntKind.wrap_u8, IntKind.wrap_u16]
      rfl
    refine pure_ (i := 2) (N := some 77) (v := ?_) (a' := ?_) #[true, false, true, false, false, false, false, false, false] rfl rfl (by kernel_rfl) (fun _ _ _ h => h) (Or.inl ⟨by rfl, ?_⟩) ?_ ?_
    rotate_left
    · intro w'
      go_simp
      with_reducible rfl
    rotate_left
    · simp only [Act.put, List.setIfInBounds_toArray, List.set_cons_zero, List.set_cons_succ, i64_w, i32_w, IntKind.wrap_u32, IntKind.wrap_u8, IntKind.wrap_u16]
      rfl
    refine pure_ (i := 4) (N := some 79) (v := ?_) (a' := ?_) #[true, false, true, false, true, false, false, false, false] rfl rfl (by kernel_rfl) (fun _ _ _ h => h) (Or.inl ⟨by rfl, ?_⟩) ?_ ?_
    rotate_left
    · intro w'
      go_simp
      with_reducible rfl
    rotate_left
    · simp only [Act.put, List.setIfInBounds_toArray, List.set_cons_zero, List.set_cons_succ, i64_w, i32_w, IntKind.wrap_u32, IntKind.wrap_u8, IntKind.wrap_u16]
      rfl
    refine take_ (i := 1) (N := some 76) (v := ?_) (a' := ?_) #[true, true, true, false, true, false, false, false, false] rfl rfl (by kernel_rfl) (fun _ _ _ h => h) (Or.inl ⟨by rfl, ?_⟩) hHeld ?_ ?_
    rotate_left
    · rintro w' ⟨s0, s1⟩
      go_simp
      with_reducible rfl
    rotate_left
    · simp only [Act.put, List.setIfInBounds_toArray, List.set_cons_zero, List.set_cons_succ, i64_w, i32_w, IntKind.wrap_u32, IntKind.wrap_u8, IntKind.wrap_u16]
      rfl
    refine pure_ (i := 5) (N := some 8) (v := ?_) (a' := ?_) #[true, true, true, false, true, true, false, false, false] rfl rfl (by kernel_rfl) (fun _ _ _ h => h) (Or.inl ⟨by rfl, ?_⟩) ?_ ?_
    rotate_left
    · intro w'
      go_simp
      with_reducible rfl
    rotate_left
    · simp only [Act.put, List.setIfInBounds_toArray, List.set_cons_zero, List.set_cons_succ, i64_w, i32_w, IntKind.wrap_u32, IntKind.wrap_u8, IntKind.wrap_u16]
      rfl
    refine take_ (i := 3) (N := some 78) (v := ?_) (a' := ?_) #[true, true, true, true, true, true, false, false, false] rfl rfl (by kernel_rfl) (fun _ _ _ h => h) (Or.inl ⟨by rfl, ?_⟩) hHeld ?_ ?_
    rotate_left
    · rintro w' ⟨s0, s1⟩
      go_simp
      with_reducible rfl
    rotate_left
    · simp only [Act.put, List.setIfInBounds_toArray, List.set_cons_zero, List.set_cons_succ, i64_w, i32_w, IntKind.wrap_u32, IntKind.wrap_u8, IntKind.wrap_u16]
      rfl
    refine pure_ (i := 6) (N := some 9) (v := ?_) (a' := ?_) #[true, true, true, true, true, true, true, false, false] rfl rfl (by kernel_rfl) (fun _ _ _ h => h) (Or.inl ⟨by rfl, ?_⟩) ?_ ?_
    rotate_left
    · intro w'
      go_simp
      with_reducible rfl
    rotate_left
    · simp only [Act.put, List.setIfInBounds_toArray, List.set_cons_zero, List.set_cons_succ, i64_w, i32_w, IntKind.wrap_u32, IntKind.wrap_u8, IntKind.wrap_u16]
      rfl
    refine pure_ (i := 7) (N := some 10) (v := ?_) (a' := ?_) #[true, true, true, true, true, true, true, true, false] rfl rfl (by kernel_rfl) (fun _ _ _ h => h) (Or.inl ⟨by rfl, ?_⟩) ?_ ?_
    rotate_left
    · intro w'
      go_simp
      with_reducible rfl
    rotate_left
    · simp only [Act.put, List.setIfInBounds_toArray, List.set_cons_zero, List.set_cons_succ, i64_w, i32_w, IntKind.wrap_u32, IntKind.wrap_u8, IntKind.wrap_u16]
      rfl
    refine pure_ (i := 8) (N := some 11) (v := ?_) (a' := ?_) #[true, true, true, true, true, true, true, true, true] rfl rfl (by kernel_rfl) (fun _ _ _ h => h) (Or.inl ⟨by rfl, ?_⟩) ?_ ?_
    rotate_left
    · intro w'
      go_simp
      with_reducible rfl
    rotate_left
    · simp only [Act.put, List.setIfInBounds_toArray, List.set_cons_zero, List.set_cons_succ, i64_w, i32_w, IntKind.wrap_u32, IntKind.wrap_u8, IntKind.wrap_u16]
      rfl
    refine done_ (by kernel_rfl) ?_
    go_wp2_with (fail)
    refine bodyPost_ret (results_list (rs := [.tmp 8, .tmp 9, .tmp 10, .tmp 11]) rfl (by simp) (.tmp (.tmp (.tmp (.tmp .nil))))) rfl ?_
    rw [HE.out.1, HE.out.2]
    exact ⟨rfl, win_close (m := m) { s with sx := A, sy := B, b := setB s.b 8 true } (sl_pick (sl_drew HO3.out) [0, 1, 4] (by decide) rfl)⟩
  · replace a3 : (X3 == 0) = false := a3.trans (by rw [show ((setB s.b 8 true).a || (setB s.b 8 true).b) = true from hc]; rfl)
    have a3' : (X3 != 0) = true := by unfold bne; rw [a3]; rfl
    obtain ⟨em, hem⟩ : ∃ em, emptyB x0 y0 x1 y1 = em := ⟨_, rfl⟩
    have HX := Aside0.mk hem
    cases em
    rotate_left
    · have hE : rqE s 8 true (emptyB x0 y0 x1 y1) = 6 := by unfold rqE; rw [if_pos hk, hc, hem]; rfl
      have HE := Aside0.mk (show rqV s 8 true x0 y0 x1 y1 = .tuple #[.int .i64 0, .int .i64 0, .int .i64 0, .int .i64 6] ∧ rqS s 8 true x0 y0 x1 y1 = s by
        unfold rqV rqS
        rw [hE]
        exact ⟨rfl, rfl⟩)
      clear hc hE hk hem
      go_enter Try.func12, Try.ntmps12
      go_wp2_with (first
    | (go_at_call 25; refine (usable_w (by repeat (with_reducible first | exact HS.out | apply sl_drewN | apply sl_drew)) 0 (by rfl)).mono ?_; rintro e wu ⟨rfl, hs⟩; (try simp only [World.size_alloc] at hs); replace HS := Aside0.mk hs; clear hs)
    | (go_at_call 26; refine (mask_w (by repeat (with_reducible first | exact HS.out | apply sl_drewN | apply sl_drew)) 0 HM.out (by rfl)).mono ?_; rintro e wm ⟨rfl, hs⟩; (try simp only [World.size_alloc] at hs); replace HS := Aside0.mk hs; clear hs; obtain ⟨mb, ho⟩ := sl_open HS.out 0 rfl; have hm8 := c_at ho 0 rfl 8 rfl; have hm9 := c_at ho 0 rfl 9 rfl; clear ho)
    | (go_at_call 28; refine (limited_w (by repeat (with_reducible first | exact HS.out | apply sl_drewN | apply sl_drew)) 0 s.fx s.fy HA.out.1 HA.out.2 (by rfl)).mono ?_; rintro e wl ⟨rfl, hs⟩; (try simp only [World.size_alloc] at hs); replace HS := Aside0.mk hs; clear hs; clear hm8 hm9; have bx0 := c_at HS.out 2 rfl 0 rfl; have bx1 := c_at HS.out 2 rfl 1 rfl; have bx2 := c_at HS.out 2 rfl 2 rfl; have bx3 := c_at HS.out 2 rfl 3 rfl; have bl := blk_lt (sl_blk HS.out 2 rfl))
    | (go_at_call 29; refine (empty_c (sl_box HS.out #[.int .i64 A, .int .i64 B] 23) x0 y0 x1 y1 HX.out).mono ?_; rintro e we ⟨rfl, hs⟩; (try simp only [World.size_alloc] at hs); replace HS := Aside0.mk hs; clear hs; clear bx0 bx1 bx2 bx3 bl; have bl := blk_lt (sl_blk HS.out 2 rfl); have bx0 := c_at HS.out 2 rfl 0 rfl; have bx1 := c_at HS.out 2 rfl 1 rfl; have bx2 := c_at HS.out 2 rfl 2 rfl; have bx3 := c_at HS.out 2 rfl 3 rfl; have wx0 := c_at HS.out 3 rfl 0 rfl; have wx1 := c_at HS.out 3 rfl 1 rfl; have wf0 := f_at HS.out 3 rfl 0; have wf1 := f_at HS.out 3 rfl 1; have wl1 := blk_lt (sl_blk HS.out 3 rfl)))
      refine bodyPost_ret (results_list (rs := [.tmp 8, .tmp 9, .tmp 10, .tmp 11]) rfl (by simp) (.tmp (.tmp (.tmp (.tmp .nil))))) rfl ?_
      rw [HE.out.1, HE.out.2]
      exact ⟨rfl, sl_take HS.out 2⟩
    obtain ⟨DX, hDX⟩ : ∃ D, x1 - x0 = D := ⟨_, rfl⟩
    obtain ⟨DY, hDY⟩ : ∃ D, y1 - y0 = D := ⟨_, rfl⟩
    have hr := emp_rng hem
    have hd1 : wrap64 (x1 - x0) = DX := by rw [← hDX]; unfold wrap64; omega
    have hd2 : wrap64 (y1 - y0) = DY := by rw [← hDY]; unfold wrap64; omega
    have hE : rqE s 8 true (emptyB x0 y0 x1 y1) = 0 := by unfold rqE; rw [if_pos hk, hc, hem]; rfl
    have HE := Aside0.mk (show rqV s 8 true x0 y0 x1 y1 = .tuple #[.int .i64 DX, .int .i64 DY, .int .i64 N, .int .i64 0] ∧ rqS s 8 true x0 y0 x1 y1 = { s with sx := DX, sy := DY, b := setB s.b 8 true } by
      unfold rqV rqS rqX rqY
      rw [if_pos hE, if_pos hE, if_pos hc, if_pos hc, hDX, hDY, HN.out]
      exact ⟨rfl, rfl⟩)
    clear hc hE hk hem hr hDX hDY
    go_enter Try.func12, Try.ntmps12
    go_wp2_with (first
    | (go_at_call 25; refine (usable_w (by repeat (with_reducible first | exact HS.out | apply sl_drewN | apply sl_drew)) 0 (by rfl)).mono ?_; rintro e wu ⟨rfl, hs⟩; (try simp only [World.size_alloc] at hs); replace HS := Aside0.mk hs; clear hs)
    | (go_at_call 26; refine (mask_w (by repeat (with_reducible first | exact HS.out | apply sl_drewN | apply sl_drew)) 0 HM.out (by rfl)).mono ?_; rintro e wm ⟨rfl, hs⟩; (try simp only [World.size_alloc] at hs); replace HS := Aside0.mk hs; clear hs; obtain ⟨mb, ho⟩ := sl_open HS.out 0 rfl; have hm8 := c_at ho 0 rfl 8 rfl; have hm9 := c_at ho 0 rfl 9 rfl; clear ho)
    | (go_at_call 28; refine (limited_w (by repeat (with_reducible first | exact HS.out | apply sl_drewN | apply sl_drew)) 0 s.fx s.fy HA.out.1 HA.out.2 (by rfl)).mono ?_; rintro e wl ⟨rfl, hs⟩; (try simp only [World.size_alloc] at hs); replace HS := Aside0.mk hs; clear hs; clear hm8 hm9; have bx0 := c_at HS.out 2 rfl 0 rfl; have bx1 := c_at HS.out 2 rfl 1 rfl; have bx2 := c_at HS.out 2 rfl 2 rfl; have bx3 := c_at HS.out 2 rfl 3 rfl; have bl := blk_lt (sl_blk HS.out 2 rfl))
    | (go_at_call 29; refine (empty_c (sl_box HS.out #[.int .i64 A, .int .i64 B] 23) x0 y0 x1 y1 HX.out).mono ?_; rintro e we ⟨rfl, hs⟩; (try simp only [World.size_alloc] at hs); replace HS := Aside0.mk hs; clear hs; clear bx0 bx1 bx2 bx3 bl; have bl := blk_lt (sl_blk HS.out 2 rfl); have bx0 := c_at HS.out 2 rfl 0 rfl; have bx1 := c_at HS.out 2 rfl 1 rfl; have bx2 := c_at HS.out 2 rfl 2 rfl; have bx3 := c_at HS.out 2 rfl 3 rfl; have wx0 := c_at HS.out 3 rfl 0 rfl; have wx1 := c_at HS.out 3 rfl 1 rfl; have wf0 := f_at HS.out 3 rfl 0; have wf1 := f_at HS.out 3 rfl 1; have wl1 := blk_lt (sl_blk HS.out 3 rfl)))
    have HS2 := sl_put (sl_put HS.out 3 rfl 0 (.int .i64 DX)) 3 rfl 1 (.int .i64 DY)
    obtain ⟨m, ho⟩ := sl_open HS2 0 rfl
    have HO := Aside0.mk ho
    clear ho HS2
    refine start_ (n := 11) (S := fun w' => w'.cell? ⟨g, 1, none⟩ = some (.map (some m))) (ds := [10]) #[false, false, false, false, false, false, false, false, false, false, false] (by kernel_rfl) rfl rfl ((c_at (sl_drew HO.out) 0 rfl 1 rfl)) (fun hHeld => ?_)
    refine pure_ (i := 0) (N := some 61) (v := ?_) (a' := ?_) #[true, false, false, false, false, false, false, false, false, false, false] rfl rfl (by kernel_rfl) (fun _ _ _ h => h) (Or.inl ⟨by rfl, ?_⟩) ?_ ?_
    rotate_left
    · intro w'
      go_simp
      with_reducible rfl
    rotate_left
    · simp only [Act.put, List.setIfInBounds_toArray, List.set_cons_zero, List.set_cons_succ, i64_w, i32_w, IntKind.wrap_u32, IntKind.wrap_u8, IntKind.wrap_u16]
      rfl
    refine pure_ (i := 1) (N := some 62) (v := ?_) (a' := ?_) #[true, true, false, false, false, false, false, false, false, false, false] rfl rfl (by kernel_rfl) (fun _ _ _ h => h) (Or.inl ⟨by rfl, ?_⟩) ?_ ?_
    rotate_left
    · intro w'
      go_simp
      with_reducible rfl
    rotate_left
    · simp only [Act.put, List.setIfInBounds_toArray, List.set_cons_zero, List.set_cons_succ, i64_w, i32_w, IntKind.wrap_u32, IntKind.wrap_u8, IntKind.wrap_u16]
      rfl
    refine pure_ (i := 2) (N := some 63) (v := ?_) (a' := ?_) #[true, true, true, false, false, false, false, false, false, false, false] rfl rfl (by kernel_rfl) (fun _ _ _ h => h) (Or.inl ⟨by rfl, ?_⟩) ?_ ?_
    rotate_left
    · intro w'
      go_simp
      with_reducible rfl
    rotate_left
    · simp only [Act.put, List.setIfInBounds_toArray, List.set_cons_zero, List.set_cons_succ, i64_w, i32_w, IntKind.wrap_u32, IntKind.wrap_u8, IntKind.wrap_u16]
      rfl
    refine pure_ (i := 4) (N := some 65) (v := ?_) (a' := ?_) #[true, true, true, false, true, false, false, false, false, false, false] rfl rfl (by kernel_rfl) (fun _ _ _ h => h) (Or.inl ⟨by rfl, ?_⟩) ?_ ?_
    rotate_left
    · intro w'
      go_simp
      with_reducible rfl
    rotate_left
    · simp only [Act.put, List.setIfInBounds_toArray, List.set_cons_zero, List.set_cons_succ, i64_w, i32_w, IntKind.wrap_u32, IntKind.wrap_u8, IntKind.wrap_u16]
      rfl
    refine pure_ (i := 5) (N := some 66) (v := ?_) (a' := ?_) #[true, true, true, false, true, true, false, false, false, false, false] rfl rfl (by kernel_rfl) (fun _ _ _ h => h) (Or.inl ⟨by rfl, ?_⟩) ?_ ?_
    rotate_left
    · intro w'
      go_simp
      with_reducible rfl
    rotate_left
    · simp only [Act.put, List.setIfInBounds_toArray, List.set_cons_zero, List.set_cons_succ, i64_w, i32_w, IntKind.wrap_u32, IntKind.wrap_u8, IntKind.wrap_u16]
      rfl
    refine pure_ (i := 6) (N := some 67) (v := ?_) (a' := ?_) #[true, true, true, false, true, true, true, false, false, false, false] rfl rfl (by kernel_rfl) (fun _ _ _ h => h) (Or.inl ⟨by rfl, ?_⟩) ?_ ?_
    rotate_left
    · intro w'
      go_simp
      with_reducible rfl
    rotate_left
    · simp only [Act.put, List.setIfInBounds_toArray, List.set_cons_zero, List.set_cons_succ, i64_w, i32_w, IntKind.wrap_u32, IntKind.wrap_u8, IntKind.wrap_u16]
      rfl
    refine pure_ (i := 7) (N := some 68) (v := ?_) (a' := ?_) #[true, true, true, false, true, true, true, true, false, false, false] rfl rfl (by kernel_rfl) (fun _ _ _ h => h) (Or.inl ⟨by rfl, ?_⟩) ?_ ?_
    rotate_left
    · intro w'
      go_simp
      with_reducible rfl
    rotate_left
    · simp only [Act.put, List.setIfInBounds_toArray, List.set_cons_zero, List.set_cons_succ, i64_w, i32_w, IntKind.wrap_u32, IntKind.wrap_u8, IntKind.wrap_u16]
      rfl
    refine pure_ (i := 8) (N := some 69) (v := ?_) (a' := ?_) #[true, true, true, false, true, true, true, true, true, false, false] rfl rfl (by kernel_rfl) (fun _ _ _ h => h) (Or.inl ⟨by rfl, ?_⟩) ?_ ?_
    rotate_left
    · intro w'
      go_simp
      with_reducible rfl
    rotate_left
    · simp only [Act.put, List.setIfInBounds_toArray, List.set_cons_zero, List.set_cons_succ, i64_w, i32_w, IntKind.wrap_u32, IntKind.wrap_u8, IntKind.wrap_u16]
      rfl
    refine pure_ (i := 9) (N := some 70) (v := ?_) (a' := ?_) #[true, true, true, false, true, true, true, true, true, true, false] rfl rfl (by kernel_rfl) (fun _ _ _ h => h) (Or.inl ⟨by rfl, ?_⟩) ?_ ?_
    rotate_left
    · intro w'
      go_simp
      with_reducible rfl
    rotate_left
    · simp only [Act.put, List.setIfInBounds_toArray, List.set_cons_zero, List.set_cons_succ, i64_w, i32_w, IntKind.wrap_u32, IntKind.wrap_u8, IntKind.wrap_u16]
      rfl
    refine take_ (i := 3) (N := some 64) (v := ?_) (a' := ?_) #[true, true, true, true, true, true, true, true, true, true, false] rfl rfl (by kernel_rfl) (fun _ _ _ h => h) (Or.inl ⟨by rfl, ?_⟩) hHeld ?_ ?_
    rotate_left
    · intro w' s0
      go_simp
      with_reducible rfl
    rotate_left
    · simp only [Act.put, List.setIfInBounds_toArray, List.set_cons_zero, List.set_cons_succ, i64_w, i32_w, IntKind.wrap_u32, IntKind.wrap_u8, IntKind.wrap_u16]
      rfl
    refine last_ (i := 10) (N := none) #[true, true, true, true, true, true, true, true, true, true, true] rfl rfl (by kernel_rfl) (by decide) (fun K hK => ?_)
    refine sl_bput_step (by rfl) rfl (sl_drew HO.out) 4 rfl _ _ _ rfl rfl 8 (by decide) rfl true (congrArg (Value.int .i64) (show wrap64 1 = bi true by unfold wrap64 bi; decide)) ?_
    intro w5 hs5
    have p0 := c_at hs5 3 rfl 0 rfl
    have p1 := c_at hs5 3 rfl 1 rfl
    have q0 := c_at hs5 0 rfl 10 rfl
    have q1 := c_at hs5 0 rfl 11 rfl
    have f0 := f_at hs5 0 rfl 10
    have f1 := f_at hs5 0 rfl 11
    have hl1 := blk_lt (sl_blk hs5 0 rfl)
    refine hK.out _ _ ?_
    clear hK K
    refine done_ (by kernel_rfl) ?_
    go_wp2_with (fail)
    have HO3 := Aside0.mk (sl_put (sl_put hs5 0 rfl 10 (.int .i64 DX)) 0 rfl 11 (.int .i64 DY))
    refine start_ (n := 9) (S := fun w' => w'.cell? ⟨wl.heap.size, 0, none⟩ = some (.int .i64 DX) ∧ w'.cell? ⟨wl.heap.size, 1, none⟩ = some (.int .i64 DY)) (ds := []) #[false, false, false, false, false, false, false, false, false] (by kernel_rfl) rfl rfl ⟨(c_at (sl_drew HO3.out) 3 rfl 0 rfl), (c_at (sl_drew HO3.out) 3 rfl 1 rfl)⟩ (fun hHeld => ?_)
    refine pure_ (i := 0) (N := some 75) (v := ?_) (a' := ?_) #[true, false, false, false, false, false, false, false, false] rfl rfl (by kernel_rfl) (fun _ _ _ h => h) (Or.inl ⟨by rfl, ?_⟩) ?_ ?_
    rotate_left
    · intro w'
      go_simp
      with_reducible rfl
    rotate_left
    · simp only [Act.put, List.setIfInBounds_toArray, List.set_cons_zero, List.set_cons_succ, i64_w, i32_w, IntKind.wrap_u32, IntKind.wrap_u8, IntKind.wrap_u16]
      rfl
    refine pure_ (i := 2) (N := some 77) (v := ?_) (a' := ?_) #[true, false, true, false, false, false, false, false, false] rfl rfl (by kernel_rfl) (fun _ _ _ h => h) (Or.inl ⟨by rfl, ?_⟩) ?_ ?_
    rotate_left
    · intro w'
      go_simp
      with_reducible rfl
    rotate_left
    · simp only [Act.put, List.setIfInBounds_toArray, List.set_cons_zero, List.set_cons_succ, i64_w, i32_w, IntKind.wrap_u32, IntKind.wrap_u8, IntKind.wrap_u16]
      rfl
    refine pure_ (i := 4) (N := some 79) (v := ?_) (a' := ?_) #[true, false, true, false, true, false, false, false, false] rfl rfl (by kernel_rfl) (fun _ _ _ h => h) (Or.inl ⟨by rfl, ?_⟩) ?_ ?_
    rotate_left
    · intro w'
      go_simp
      with_reducible rfl
    rotate_left
    · simp only [Act.put, List.setIfInBounds_toArray, List.set_cons_zero, List.set_cons_succ, i64_w, i32_w, IntKind.wrap_u32, IntKind.wrap_u8, IntKind.wrap_u16]
      rfl
    refine take_ (i := 1) (N := some 76) (v := ?_) (a' := ?_) #[true, true, true, false, true, false, false, false, false] rfl rfl (by kernel_rfl) (fun _ _ _ h => h) (Or.inl ⟨by rfl, ?_⟩) hHeld ?_ ?_
    rotate_left
    · rintro w' ⟨s0, s1⟩
      go_simp
      with_reducible rfl
    rotate_left
    · simp only [Act.put, List.setIfInBounds_toArray, List.set_cons_zero, List.set_cons_succ, i64_w, i32_w, IntKind.wrap_u32, IntKind.wrap_u8, IntKind.wrap_u16]
      rfl
    refine pure_ (i := 5) (N := some 8) (v := ?_) (a' := ?_) #[true, true, true, false, true, true, false, false, false] rfl rfl (by kernel_rfl) (fun _ _ _ h => h) (Or.inl ⟨by rfl, ?_⟩) ?_ ?_
    rotate_left
    · intro w'
      go_simp
      with_reducible rfl
    rotate_left
    · simp only [Act.put, List.setIfInBounds_toArray, List.set_cons_zero, List.set_cons_succ, i64_w, i32_w, IntKind.wrap_u32, IntKind.wrap_u8, IntKind.wrap_u16]
      rfl
    refine take_ (i := 3) (N := some 78) (v := ?_) (a' := ?_) #[true, true, true, true, true, true, false, false, false] rfl rfl (by kernel_rfl) (fun _ _ _ h => h) (Or.inl ⟨by rfl, ?_⟩) hHeld ?_ ?_
    rotate_left
    · rintro w' ⟨s0, s1⟩
      go_simp
      with_reducible rfl
    rotate_left
    · simp only [Act.put, List.setIfInBounds_toArray, List.set_cons_zero, List.set_cons_succ, i64_w, i32_w, IntKind.wrap_u32, IntKind.wrap_u8, IntKind.wrap_u16]
      rfl
    refine pure_ (i := 6) (N := some 9) (v := ?_) (a' := ?_) #[true, true, true, true, true, true, true, false, false] rfl rfl (by kernel_rfl) (fun _ _ _ h => h) (Or.inl ⟨by rfl, ?_⟩) ?_ ?_
    rotate_left
    · intro w'
      go_simp
      with_reducible rfl
    rotate_left
    · simp only [Act.put, List.setIfInBounds_toArray, List.set_cons_zero, List.set_cons_succ, i64_w, i32_w, IntKind.wrap_u32, IntKind.wrap_u8, IntKind.wrap_u16]
      rfl
    refine pure_ (i := 7) (N := some 10) (v := ?_) (a' := ?_) #[true, true, true, true, true, true, true, true, false] rfl rfl (by kernel_rfl) (fun _ _ _ h => h) (Or.inl ⟨by rfl, ?_⟩) ?_ ?_
    rotate_left
    · intro w'
      go_simp
      with_reducible rfl
    rotate_left
    · simp only [Act.put, List.setIfInBounds_toArray, List.set_cons_zero, List.set_cons_succ, i64_w, i32_w, IntKind.wrap_u32, IntKind.wrap_u8, IntKind.wrap_u16]
      rfl
    refine pure_ (i := 8) (N := some 11) (v := ?_) (a' := ?_) #[true, true, true, true, true, true, true, true, true] rfl rfl (by kernel_rfl) (fun _ _ _ h => h) (Or.inl ⟨by rfl, ?_⟩) ?_ ?_
    rotate_left
    · intro w'
      go_simp
      with_reducible rfl
    rotate_left
    · simp only [Act.put, List.setIfInBounds_toArray, List.set_cons_zero, List.set_cons_succ, i64_w, i32_w, IntKind.wrap_u32, IntKind.wrap_u8, IntKind.wrap_u16]
      rfl
    refine done_ (by kernel_rfl) ?_
    go_wp2_with (fail)
    refine bodyPost_ret (results_list (rs := [.tmp 8, .tmp 9, .tmp 10, .tmp 11]) rfl (by simp) (.tmp (.tmp (.tmp (.tmp .nil))))) rfl ?_
    rw [HE.out.1, HE.out.2]
    exact ⟨rfl, win_close (m := m) { s with sx := DX, sy := DY, b := setB s.b 8 true } (sl_pick (sl_drew HO3.out) [0, 1, 4] (by decide) rfl)⟩
theorem req_bad (g : Nat) (s : WSt) (k : Int) (on : Bool) (x0 y0 x1 y1 : Int) (hk : ¬ (k = 1 ∨ k = 2 ∨ k = 4 ∨ k = 8)) (hs : SL w0 w [winR g s, R]) : Calls Try.prog 12 #[.pointer (some ⟨g, 0, none⟩), .int .i64 k, .bool on, .agg #[.int .i64 x0, .int .i64 y0, .int .i64 x1, .int .i64 y1]] w fun e w' => e = .returned (rqV s k on x0 y0 x1 y1) ∧ SL w0 w' [winR g (rqS s k on x0 y0 x1 y1), R] := by
  have HS := Aside0.mk (sl_box hs #[.int .i64 x0, .int .i64 y0, .int .i64 x1, .int .i64 y1] 34)
  clear hs
  have hE : rqE s k on (emptyB x0 y0 x1 y1) = 2 := by unfold rqE; rw [if_neg hk]
  have HE := Aside0.mk (show rqV s k on x0 y0 x1 y1 = .tuple #[.int .i64 0, .int .i64 0, .int .i64 0, .int .i64 2] ∧ rqS s k on x0 y0 x1 y1 = s by
    unfold rqV rqS
    rw [hE]
    exact ⟨rfl, rfl⟩)
  have k1 : (k == 1) = false := beq_eq_false_iff_ne.2 (fun h => hk (.inl h))
  have k2 : (k == 2) = false := beq_eq_false_iff_ne.2 (fun h => hk (.inr (.inl h)))
  have k4 : (k == 4) = false := beq_eq_false_iff_ne.2 (fun h => hk (.inr (.inr (.inl h))))
  have k8 : (k == 8) = false := beq_eq_false_iff_ne.2 (fun h => hk (.inr (.inr (.inr h))))
  have k1' : (k != 1) = true := by unfold bne; rw [k1]; rfl
  have k2' : (k != 2) = true := by unfold bne; rw [k2]; rfl
  have k4' : (k != 4) = true := by unfold bne; rw [k4]; rfl
  have k8' : (k != 8) = true := by unfold bne; rw [k8]; rfl
  clear hk hE
  go_enter Try.func12, Try.ntmps12
  go_wp2_with (first
    | (go_at_call 25; refine (usable_w (by repeat (with_reducible first | exact HS.out | apply sl_drewN | apply sl_drew)) 0 (by rfl)).mono ?_; rintro e wu ⟨rfl, hs⟩; (try simp only [World.size_alloc] at hs); replace HS := Aside0.mk hs; clear hs))
  refine bodyPost_ret (results_list (rs := [.tmp 8, .tmp 9, .tmp 10, .tmp 11]) rfl (by simp) (.tmp (.tmp (.tmp (.tmp .nil))))) rfl ?_
  rw [HE.out.1, HE.out.2]
  exact ⟨rfl, sl_take HS.out 2⟩
theorem Request_in (g : Nat) (s : WSt) (k : Int) (on : Bool) (x0 y0 x1 y1 : Int) (hs : SL w0 w [winR g s, R]) : Calls Try.prog 12 #[.pointer (some ⟨g, 0, none⟩), .int .i64 k, .bool on, .agg #[.int .i64 x0, .int .i64 y0, .int .i64 x1, .int .i64 y1]] w fun e w' => e = .returned (rqV s k on x0 y0 x1 y1) ∧ SL w0 w' [winR g (rqS s k on x0 y0 x1 y1), R] := by
  by_cases hk : k = 1 ∨ k = 2 ∨ k = 4 ∨ k = 8
  · rcases hk with rfl | rfl | rfl | rfl <;> cases on
    · exact req_10 g s x0 y0 x1 y1 hs
    · exact req_11 g s x0 y0 x1 y1 hs
    · exact req_20 g s x0 y0 x1 y1 hs
    · exact req_21 g s x0 y0 x1 y1 hs
    · exact req_40 g s x0 y0 x1 y1 hs
    · exact req_41 g s x0 y0 x1 y1 hs
    · exact req_80 g s x0 y0 x1 y1 hs
    · exact req_81 g s x0 y0 x1 y1 hs
  · exact req_bad g s k on x0 y0 x1 y1 hk hs
end
end Go.Proofs.Ytckpgccbhaejgaa.Q
