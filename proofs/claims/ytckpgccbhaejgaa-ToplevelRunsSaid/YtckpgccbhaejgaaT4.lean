import Derived.Test.YtckpgccbhaejgaaT3
import Derived.Test.YtckpgccbhaejgaaQx2
import Derived.Test.YtckpgccbhaejgaaFr
namespace Go.Proofs.Ytckpgccbhaejgaa.Q
open Go.RowKit Go.Proofs.YtckpgccbhaejgaaW.PrintWords Go.Proofs.YtckpgccbhaejgaaW.PrintLast Go.Proofs.YtckpgccbhaejgaaW.PrintMore Go.Proofs.Ytckpgccbhaejgaa.Sl Go.Proofs.Ytckpgccbhaejgaa.Hand 
attribute [local go_sem] max2_int min2_int max_two min_two max_three min_three max_four min_four 
set_option linter.unusedVariables false
set_option linter.unusedSimpArgs false

def enc3 (x : Int) : List Value := [.int .i64 x]
theorem flat3 : Flat (Kd.int .i64) enc3 := ⟨fun _ _ => rfl, fun _ _ _ h => h⟩
theorem lit2 (w : World) (x y : Int) : Kd.C (Kd.int .i64) (w.alloc (.cells #[.int .i64 x, .int .i64 y] 3)) (some ⟨w.heap.size, 0, none⟩) 2 [x, y] :=
  ((LR.lit (d := Kd.int .i64) (enc := enc3) (e := 3) (xs := [x, y]) flat3 (heap_alloc_new w _) (show (2:Nat) ≤ maxLen by unfold maxLen; decide)).reads' flat3).2.2
def valB (lo w h : Int) : Bool := decide (lo ≤ w) && decide (w ≤ 16384) && decide (lo ≤ h) && decide (h ≤ 16384)
theorem valid_f (lo x y : Int) : toplevel_valid.f 3 lo [x, y] = some (valB lo x y) := by
  have hl : (([x, y] : List Int).length : Int) = 2 := rfl
  have r0 : rd [x, y] 0 = x := rfl
  have r1 : rd [x, y] 1 = y := rfl
  have w1 : wrap64 (0 + 1) = 1 := by unfold wrap64; omega
  have w2 : wrap64 (1 + 1) = 2 := by unfold wrap64; omega
  unfold toplevel_valid.f valB
  unfold toplevel_valid.l0
  rw [hl]
  rw [if_pos (show (0:Int) < 2 by decide), if_pos (show (0:Int) ≤ 0 by decide), if_pos (show (0:Int) < 2 by decide), r0, w1]
  by_cases a1 : x < lo
  · rw [if_pos a1, decide_eq_false (by omega)]
    rfl
  rw [if_neg a1, decide_eq_true (show lo ≤ x by omega)]
  by_cases a2 : x > 16384
  · rw [if_pos a2, decide_eq_false (show ¬ x ≤ 16384 by omega)]
    rfl
  rw [if_neg a2, decide_eq_true (show x ≤ 16384 by omega)]
  unfold toplevel_valid.l0
  rw [hl]
  rw [if_pos (show (1:Int) < 2 by decide), if_pos (show (0:Int) ≤ 1 by decide), if_pos (show (1:Int) < 2 by decide), r1, w2]
  by_cases a3 : y < lo
  · rw [if_pos a3, decide_eq_false (by omega)]
    rfl
  rw [if_neg a3, decide_eq_true (show lo ≤ y by omega)]
  by_cases a4 : y > 16384
  · rw [if_pos a4, decide_eq_false (show ¬ y ≤ 16384 by omega)]
    rfl
  rw [if_neg a4, decide_eq_true (show y ≤ 16384 by omega)]
  unfold toplevel_valid.l0
  rw [hl]
  rw [if_neg (show ¬ (2:Int) < 2 by decide)]
  rfl
theorem valid_c {w0 w : World} {L : List Res} {A : Option Addr} (h : SL w0 w L) (lo x y : Int) {r : Bool} (hr : valB lo x y = r) (hC : Kd.C (Kd.int .i64) w A 2 [x, y]) : Calls Try.prog 27 #[.int .i64 lo, .slice A 2 2] w fun e w' => e = .returned (.bool r) ∧ SL w0 w' L := by
  subst hr
  refine (toplevel_valid.calls 3 lo A 2 [x, y] _ w hC (Nat.le_refl _) (valid_f lo x y)).mono ?_
  rintro e w' ⟨rfl, n, rfl⟩
  exact ⟨rfl, sl_drewN h n⟩
def limE (lx ly mx my : Int) : Int := if (mx ≠ 0 ∧ mx < lx) ∨ (my ≠ 0 ∧ my < ly) then 2 else 0
theorem limits_f (lx ly mx my : Int) : toplevel_limits.f lx ly mx my = some (limE lx ly mx my) := by
  unfold toplevel_limits.f limE
  by_cases a1 : mx = 0 <;> by_cases a2 : my = 0 <;> by_cases a3 : mx < lx <;> by_cases a4 : my < ly <;> simp [a1, a2, a3, a4]
theorem limits_c {w0 w : World} {L : List Res} (h : SL w0 w L) (lx ly mx my : Int) {r : Int} (hr : limE lx ly mx my = r) : Calls Try.prog 37 #[.agg #[.int .i64 lx, .int .i64 ly], .agg #[.int .i64 mx, .int .i64 my]] w fun e w' => e = .returned (.int .i64 r) ∧ SL w0 w' L := by
  subst hr
  refine (toplevel_limits.calls lx ly mx my _ w (limits_f lx ly mx my)).mono ?_
  rintro e w' ⟨rfl, hb⟩
  exact ⟨rfl, sl_below h hb⟩
def minE (s : WSt) (w h : Int) : Int := if valB 0 w h = true then limE w h s.mx s.my else 6
def minS (s : WSt) (w h : Int) : WSt := if minE s w h = 0 then { s with lx := w, ly := h } else s
def maxE (s : WSt) (w h : Int) : Int := if valB 0 w h = true then limE s.lx s.ly w h else 6
def maxS (s : WSt) (w h : Int) : WSt := if maxE s w h = 0 then { s with mx := w, my := h } else s
section
variable {w0 w : World} {R : Res}
theorem SetMin_in (g : Nat) (s : WSt) (x y : Int) (hs : SL w0 w [winR g s, R]) : Calls Try.prog 22 #[.pointer (some ⟨g, 0, none⟩), .int .i64 x, .int .i64 y] w fun e w' => e = .returned (.int .i64 (minE s x y)) ∧ SL w0 w' [winR g (minS s x y), R] := by
  obtain ⟨m, h1⟩ := win_open hs
  have HS := Aside0.mk h1
  clear hs h1
  by_cases c1 : valB 0 x y = true
  rotate_left
  · have HV := Aside0.mk (show valB 0 x y = false from Bool.eq_false_iff.2 c1)
    have HE := Aside0.mk (show minE s x y = 6 ∧ minS s x y = s by have : minE s x y = 6 := if_neg c1; exact ⟨this, by unfold minS; rw [this]; rfl⟩)
    clear c1
    go_enter Try.func22, Try.ntmps22
    go_wp2_with (first
    | (go_at_call 25; refine (usable_c (by repeat (with_reducible first | exact HS.out | apply sl_drewN | apply sl_drew | apply sl_box | apply sl_alloc)) 0 (by rfl)).mono ?_; rintro e w1 ⟨rfl, hs⟩; (try simp only [World.size_alloc] at hs); replace HS := Aside0.mk hs; clear hs; (try clear hm4 hm5); have hm4 := c_at HS.out 0 rfl 4 rfl; have hm5 := c_at HS.out 0 rfl 5 rfl)
    | (go_at_call 27; refine (valid_c (by repeat (with_reducible first | exact HS.out | apply sl_drewN | apply sl_drew | apply sl_box | apply sl_alloc)) 0 x y HV.out (lit2 _ x y)).mono ?_; rintro e w1 ⟨rfl, hs⟩; (try simp only [World.size_alloc] at hs); replace HS := Aside0.mk hs; clear hs; (try clear hm4 hm5); have hm4 := c_at HS.out 0 rfl 4 rfl; have hm5 := c_at HS.out 0 rfl 5 rfl)
    | (go_at_call 37; refine (limits_c (by repeat (with_reducible first | exact HS.out | apply sl_drewN | apply sl_drew | apply sl_box | apply sl_alloc)) _ _ _ _ HL.out).mono ?_; rintro e w1 ⟨rfl, hs⟩; (try simp only [World.size_alloc] at hs); replace HS := Aside0.mk hs; clear hs; have f2 := f_at HS.out 0 rfl 2; have f3 := f_at HS.out 0 rfl 3; have hlt := blk_lt (sl_blk HS.out 0 rfl); have hm2 := c_at HS.out 0 rfl 2 rfl; have hm3 := c_at HS.out 0 rfl 3 rfl))
    try rw [Exit.noGoto_ret]
    go_ret
    rw [HE.out.1, HE.out.2]
    exact ⟨rfl, win_close s (sl_take HS.out 3)⟩
  have HV := Aside0.mk c1
  obtain ⟨E, hE⟩ : ∃ E, limE x y s.mx s.my = E := ⟨_, rfl⟩
  have HL := Aside0.mk hE
  have hme : minE s x y = E := (if_pos c1).trans hE
  by_cases c2 : E = 0
  · have HE := Aside0.mk (show minE s x y = 0 ∧ minS s x y = { s with lx := x, ly := y } from ⟨hme.trans c2, if_pos (hme.trans c2)⟩)
    subst c2
    clear c1 hE hme
    go_enter Try.func22, Try.ntmps22
    go_wp2_with (first
    | (go_at_call 25; refine (usable_c (by repeat (with_reducible first | exact HS.out | apply sl_drewN | apply sl_drew | apply sl_box | apply sl_alloc)) 0 (by rfl)).mono ?_; rintro e w1 ⟨rfl, hs⟩; (try simp only [World.size_alloc] at hs); replace HS := Aside0.mk hs; clear hs; (try clear hm4 hm5); have hm4 := c_at HS.out 0 rfl 4 rfl; have hm5 := c_at HS.out 0 rfl 5 rfl)
    | (go_at_call 27; refine (valid_c (by repeat (with_reducible first | exact HS.out | apply sl_drewN | apply sl_drew | apply sl_box | apply sl_alloc)) 0 x y HV.out (lit2 _ x y)).mono ?_; rintro e w1 ⟨rfl, hs⟩; (try simp only [World.size_alloc] at hs); replace HS := Aside0.mk hs; clear hs; (try clear hm4 hm5); have hm4 := c_at HS.out 0 rfl 4 rfl; have hm5 := c_at HS.out 0 rfl 5 rfl)
    | (go_at_call 37; refine (limits_c (by repeat (with_reducible first | exact HS.out | apply sl_drewN | apply sl_drew | apply sl_box | apply sl_alloc)) _ _ _ _ HL.out).mono ?_; rintro e w1 ⟨rfl, hs⟩; (try simp only [World.size_alloc] at hs); replace HS := Aside0.mk hs; clear hs; have f2 := f_at HS.out 0 rfl 2; have f3 := f_at HS.out 0 rfl 3; have hlt := blk_lt (sl_blk HS.out 0 rfl); have hm2 := c_at HS.out 0 rfl 2 rfl; have hm3 := c_at HS.out 0 rfl 3 rfl))
    have HS2 := Aside0.mk (sl_box HS.out #[.int .i64 x, .int .i64 y] 23)
    refine start_ (n := 7) (S := fun w' => w'.cell? ⟨w1.heap.size, 0, none⟩ = some (.int .i64 x) ∧ w'.cell? ⟨w1.heap.size, 1, none⟩ = some (.int .i64 y) ∧ w'.cell? ⟨g, 4, none⟩ = some (.int .i64 s.mx) ∧ w'.cell? ⟨g, 5, none⟩ = some (.int .i64 s.my)) (ds := [5, 6]) #[false, false, false, false, false, false, false] (by kernel_rfl) rfl rfl ⟨(c_at (sl_drew HS2.out) 4 rfl 0 rfl), (c_at (sl_drew HS2.out) 4 rfl 1 rfl), (c_at (sl_drew HS2.out) 0 rfl 4 rfl), (c_at (sl_drew HS2.out) 0 rfl 5 rfl)⟩ (fun hHeld => ?_)
    refine pure_ (i := 1) (N := some 21) (v := ?_) (a' := ?_) #[false, true, false, false, false, false, false] rfl rfl (by kernel_rfl) (fun _ _ _ h => h) (Or.inl ⟨by rfl, ?_⟩) ?_ ?_
    rotate_left
    · intro w'
      go_simp
      with_reducible rfl
    rotate_left
    · simp only [Act.put, List.setIfInBounds_toArray, List.set_cons_zero, List.set_cons_succ, i64_w, i32_w, IntKind.wrap_u32, IntKind.wrap_u8, IntKind.wrap_u16]
      rfl
    refine pure_ (i := 2) (N := some 22) (v := ?_) (a' := ?_) #[false, true, true, false, false, false, false] rfl rfl (by kernel_rfl) (fun _ _ _ h => h) (Or.inl ⟨by rfl, ?_⟩) ?_ ?_
    rotate_left
    · intro w'
      go_simp
      with_reducible rfl
    rotate_left
    · simp only [Act.put, List.setIfInBounds_toArray, List.set_cons_zero, List.set_cons_succ, i64_w, i32_w, IntKind.wrap_u32, IntKind.wrap_u8, IntKind.wrap_u16]
      rfl
    refine pure_ (i := 3) (N := some 23) (v := ?_) (a' := ?_) #[false, true, true, true, false, false, false] rfl rfl (by kernel_rfl) (fun _ _ _ h => h) (Or.inl ⟨by rfl, ?_⟩) ?_ ?_
    rotate_left
    · intro w'
      go_simp
      with_reducible rfl
    rotate_left
    · simp only [Act.put, List.setIfInBounds_toArray, List.set_cons_zero, List.set_cons_succ, i64_w, i32_w, IntKind.wrap_u32, IntKind.wrap_u8, IntKind.wrap_u16]
      rfl
    refine take_ (i := 0) (N := some 20) (v := ?_) (a' := ?_) #[true, true, true, true, false, false, false] rfl rfl (by kernel_rfl) (fun _ _ _ h => h) (Or.inl ⟨by rfl, ?_⟩) hHeld ?_ ?_
    rotate_left
    · rintro w' ⟨s0, s1, s2, s3⟩
      go_simp
      with_reducible rfl
    rotate_left
    · simp only [Act.put, List.setIfInBounds_toArray, List.set_cons_zero, List.set_cons_succ, i64_w, i32_w, IntKind.wrap_u32, IntKind.wrap_u8, IntKind.wrap_u16]
      rfl
    refine take_ (i := 4) (N := some 24) (v := ?_) (a' := ?_) #[true, true, true, true, true, false, false] rfl rfl (by kernel_rfl) (fun _ _ _ h => h) (Or.inl ⟨by rfl, ?_⟩) hHeld ?_ ?_
    rotate_left
    · rintro w' ⟨s0, s1, s2, s3⟩
      go_simp
      with_reducible rfl
    rotate_left
    · simp only [Act.put, List.setIfInBounds_toArray, List.set_cons_zero, List.set_cons_succ, i64_w, i32_w, IntKind.wrap_u32, IntKind.wrap_u8, IntKind.wrap_u16]
      rfl
    refine last_ (i := 5) (N := some 25) #[true, true, true, true, true, true, false] rfl rfl (by kernel_rfl) (by decide) (fun K hK => ?_)
    refine goes_ Try.func37 (by kernel_rfl) rfl #[.agg #[.int .i64 x, .int .i64 y], .agg #[.int .i64 s.mx, .int .i64 s.my]] (by rfl) rfl rfl (by (try simp only [List.map_toArray, List.map_cons, List.map_nil]); first | done | rfl) ?_
    with_reducible refine (limits_c (sl_drew HS2.out) x y s.mx s.my HL.out).mono ?_
    rintro e w3 ⟨rfl, hs3⟩
    refine ⟨_, rfl, ?_⟩
    have r0 := c_at hs3 4 rfl 0 rfl
    have r1 := c_at hs3 4 rfl 1 rfl
    have q0 := c_at hs3 0 rfl 2 rfl
    have q1 := c_at hs3 0 rfl 3 rfl
    have fr0 := f_at hs3 0 rfl 2
    have fr1 := f_at hs3 0 rfl 3
    have hl4 := blk_lt (sl_blk hs3 0 rfl)
    refine hK.out _ _ ?_
    clear hK K
    refine norm_ (a' := ?_) ?_ ?_
    rotate_left
    · show Act.put _ (some 25) _ = _
      simp only [Act.put, List.setIfInBounds_toArray, List.set_cons_zero, List.set_cons_succ, i64_w, i32_w, IntKind.wrap_u32, IntKind.wrap_u8, IntKind.wrap_u16]
      rfl
    refine pure_ (i := 6) (N := some 8) (v := ?_) (a' := ?_) #[true, true, true, true, true, true, true] rfl rfl (by kernel_rfl) (fun _ _ _ h => h) (Or.inl ⟨by rfl, ?_⟩) ?_ ?_
    rotate_left
    · intro w'
      go_simp
      with_reducible rfl
    rotate_left
    · simp only [Act.put, List.setIfInBounds_toArray, List.set_cons_zero, List.set_cons_succ, i64_w, i32_w, IntKind.wrap_u32, IntKind.wrap_u8, IntKind.wrap_u16]
      rfl
    refine done_ (by kernel_rfl) ?_
    go_wp2_with (fail)
    go_ret
    rw [HE.out.1, HE.out.2]
    exact ⟨rfl, win_close { s with lx := x, ly := y } (sl_take (sl_put (sl_put hs3 0 rfl 2 (.int .i64 x)) 0 rfl 3 (.int .i64 y)) 3)⟩
  · have z : (E == 0) = false := beq_eq_false_iff_ne.2 c2
    have z' : (E != 0) = true := bne_iff_ne.2 c2
    have HE := Aside0.mk (show minE s x y = E ∧ minS s x y = s from ⟨hme, if_neg (fun h => c2 (hme.symm.trans h))⟩)
    clear c1 hE hme c2
    go_enter Try.func22, Try.ntmps22
    go_wp2_with (first
    | (go_at_call 25; refine (usable_c (by repeat (with_reducible first | exact HS.out | apply sl_drewN | apply sl_drew | apply sl_box | apply sl_alloc)) 0 (by rfl)).mono ?_; rintro e w1 ⟨rfl, hs⟩; (try simp only [World.size_alloc] at hs); replace HS := Aside0.mk hs; clear hs; (try clear hm4 hm5); have hm4 := c_at HS.out 0 rfl 4 rfl; have hm5 := c_at HS.out 0 rfl 5 rfl)
    | (go_at_call 27; refine (valid_c (by repeat (with_reducible first | exact HS.out | apply sl_drewN | apply sl_drew | apply sl_box | apply sl_alloc)) 0 x y HV.out (lit2 _ x y)).mono ?_; rintro e w1 ⟨rfl, hs⟩; (try simp only [World.size_alloc] at hs); replace HS := Aside0.mk hs; clear hs; (try clear hm4 hm5); have hm4 := c_at HS.out 0 rfl 4 rfl; have hm5 := c_at HS.out 0 rfl 5 rfl)
    | (go_at_call 37; refine (limits_c (by repeat (with_reducible first | exact HS.out | apply sl_drewN | apply sl_drew | apply sl_box | apply sl_alloc)) _ _ _ _ HL.out).mono ?_; rintro e w1 ⟨rfl, hs⟩; (try simp only [World.size_alloc] at hs); replace HS := Aside0.mk hs; clear hs; have f2 := f_at HS.out 0 rfl 2; have f3 := f_at HS.out 0 rfl 3; have hlt := blk_lt (sl_blk HS.out 0 rfl); have hm2 := c_at HS.out 0 rfl 2 rfl; have hm3 := c_at HS.out 0 rfl 3 rfl))
    have HS2 := Aside0.mk (sl_box HS.out #[.int .i64 x, .int .i64 y] 23)
    refine start_ (n := 7) (S := fun w' => w'.cell? ⟨w1.heap.size, 0, none⟩ = some (.int .i64 x) ∧ w'.cell? ⟨w1.heap.size, 1, none⟩ = some (.int .i64 y) ∧ w'.cell? ⟨g, 4, none⟩ = some (.int .i64 s.mx) ∧ w'.cell? ⟨g, 5, none⟩ = some (.int .i64 s.my)) (ds := [5, 6]) #[false, false, false, false, false, false, false] (by kernel_rfl) rfl rfl ⟨(c_at (sl_drew HS2.out) 4 rfl 0 rfl), (c_at (sl_drew HS2.out) 4 rfl 1 rfl), (c_at (sl_drew HS2.out) 0 rfl 4 rfl), (c_at (sl_drew HS2.out) 0 rfl 5 rfl)⟩ (fun hHeld => ?_)
    refine pure_ (i := 1) (N := some 21) (v := ?_) (a' := ?_) #[false, true, false, false, false, false, false] rfl rfl (by kernel_rfl) (fun _ _ _ h => h) (Or.inl ⟨by rfl, ?_⟩) ?_ ?_
    rotate_left
    · intro w'
      go_simp
      with_reducible rfl
    rotate_left
    · simp only [Act.put, List.setIfInBounds_toArray, List.set_cons_zero, List.set_cons_succ, i64_w, i32_w, IntKind.wrap_u32, IntKind.wrap_u8, IntKind.wrap_u16]
      rfl
    refine pure_ (i := 2) (N := some 22) (v := ?_) (a' := ?_) #[false, true, true, false, false, false, false] rfl rfl (by kernel_rfl) (fun _ _ _ h => h) (Or.inl ⟨by rfl, ?_⟩) ?_ ?_
    rotate_left
    · intro w'
      go_simp
      with_reducible rfl
    rotate_left
    · simp only [Act.put, List.setIfInBounds_toArray, List.set_cons_zero, List.set_cons_succ, i64_w, i32_w, IntKind.wrap_u32, IntKind.wrap_u8, IntKind.wrap_u16]
      rfl
    refine pure_ (i := 3) (N := some 23) (v := ?_) (a' := ?_) #[false, true, true, true, false, false, false] rfl rfl (by kernel_rfl) (fun _ _ _ h => h) (Or.inl ⟨by rfl, ?_⟩) ?_ ?_
    rotate_left
    · intro w'
      go_simp
      with_reducible rfl
    rotate_left
    · simp only [Act.put, List.setIfInBounds_toArray, List.set_cons_zero, List.set_cons_succ, i64_w, i32_w, IntKind.wrap_u32, IntKind.wrap_u8, IntKind.wrap_u16]
      rfl
    refine take_ (i := 0) (N := some 20) (v := ?_) (a' := ?_) #[true, true, true, true, false, false, false] rfl rfl (by kernel_rfl) (fun _ _ _ h => h) (Or.inl ⟨by rfl, ?_⟩) hHeld ?_ ?_
    rotate_left
    · rintro w' ⟨s0, s1, s2, s3⟩
      go_simp
      with_reducible rfl
    rotate_left
    · simp only [Act.put, List.setIfInBounds_toArray, List.set_cons_zero, List.set_cons_succ, i64_w, i32_w, IntKind.wrap_u32, IntKind.wrap_u8, IntKind.wrap_u16]
      rfl
    refine take_ (i := 4) (N := some 24) (v := ?_) (a' := ?_) #[true, true, true, true, true, false, false] rfl rfl (by kernel_rfl) (fun _ _ _ h => h) (Or.inl ⟨by rfl, ?_⟩) hHeld ?_ ?_
    rotate_left
    · rintro w' ⟨s0, s1, s2, s3⟩
      go_simp
      with_reducible rfl
    rotate_left
    · simp only [Act.put, List.setIfInBounds_toArray, List.set_cons_zero, List.set_cons_succ, i64_w, i32_w, IntKind.wrap_u32, IntKind.wrap_u8, IntKind.wrap_u16]
      rfl
    refine last_ (i := 5) (N := some 25) #[true, true, true, true, true, true, false] rfl rfl (by kernel_rfl) (by decide) (fun K hK => ?_)
    refine goes_ Try.func37 (by kernel_rfl) rfl #[.agg #[.int .i64 x, .int .i64 y], .agg #[.int .i64 s.mx, .int .i64 s.my]] (by rfl) rfl rfl (by (try simp only [List.map_toArray, List.map_cons, List.map_nil]); first | done | rfl) ?_
    with_reducible refine (limits_c (sl_drew HS2.out) x y s.mx s.my HL.out).mono ?_
    rintro e w3 ⟨rfl, hs3⟩
    refine ⟨_, rfl, ?_⟩
    have r0 := c_at hs3 4 rfl 0 rfl
    have r1 := c_at hs3 4 rfl 1 rfl
    have q0 := c_at hs3 0 rfl 2 rfl
    have q1 := c_at hs3 0 rfl 3 rfl
    have fr0 := f_at hs3 0 rfl 2
    have fr1 := f_at hs3 0 rfl 3
    have hl4 := blk_lt (sl_blk hs3 0 rfl)
    refine hK.out _ _ ?_
    clear hK K
    refine norm_ (a' := ?_) ?_ ?_
    rotate_left
    · show Act.put _ (some 25) _ = _
      simp only [Act.put, List.setIfInBounds_toArray, List.set_cons_zero, List.set_cons_succ, i64_w, i32_w, IntKind.wrap_u32, IntKind.wrap_u8, IntKind.wrap_u16]
      rfl
    refine pure_ (i := 6) (N := some 8) (v := ?_) (a' := ?_) #[true, true, true, true, true, true, true] rfl rfl (by kernel_rfl) (fun _ _ _ h => h) (Or.inl ⟨by rfl, ?_⟩) ?_ ?_
    rotate_left
    · intro w'
      go_simp
      with_reducible rfl
    rotate_left
    · simp only [Act.put, List.setIfInBounds_toArray, List.set_cons_zero, List.set_cons_succ, i64_w, i32_w, IntKind.wrap_u32, IntKind.wrap_u8, IntKind.wrap_u16]
      rfl
    refine done_ (by kernel_rfl) ?_
    go_wp2_with (fail)
    go_ret
    rw [HE.out.1, HE.out.2]
    exact ⟨rfl, win_close s (sl_take hs3 3)⟩
theorem SetMax_in (g : Nat) (s : WSt) (x y : Int) (hs : SL w0 w [winR g s, R]) : Calls Try.prog 23 #[.pointer (some ⟨g, 0, none⟩), .int .i64 x, .int .i64 y] w fun e w' => e = .returned (.int .i64 (maxE s x y)) ∧ SL w0 w' [winR g (maxS s x y), R] := by
  obtain ⟨m, h1⟩ := win_open hs
  have HS := Aside0.mk h1
  clear hs h1
  by_cases c1 : valB 0 x y = true
  rotate_left
  · have HV := Aside0.mk (show valB 0 x y = false from Bool.eq_false_iff.2 c1)
    have HE := Aside0.mk (show maxE s x y = 6 ∧ maxS s x y = s by have : maxE s x y = 6 := if_neg c1; exact ⟨this, by unfold maxS; rw [this]; rfl⟩)
    clear c1
    go_enter Try.func23, Try.ntmps23
    go_wp2_with (first
    | (go_at_call 25; refine (usable_c (by repeat (with_reducible first | exact HS.out | apply sl_drewN | apply sl_drew | apply sl_box | apply sl_alloc)) 0 (by rfl)).mono ?_; rintro e w1 ⟨rfl, hs⟩; (try simp only [World.size_alloc] at hs); replace HS := Aside0.mk hs; clear hs; (try clear hm2 hm3); have hm2 := c_at HS.out 0 rfl 2 rfl; have hm3 := c_at HS.out 0 rfl 3 rfl)
    | (go_at_call 27; refine (valid_c (by repeat (with_reducible first | exact HS.out | apply sl_drewN | apply sl_drew | apply sl_box | apply sl_alloc)) 0 x y HV.out (lit2 _ x y)).mono ?_; rintro e w1 ⟨rfl, hs⟩; (try simp only [World.size_alloc] at hs); replace HS := Aside0.mk hs; clear hs; (try clear hm2 hm3); have hm2 := c_at HS.out 0 rfl 2 rfl; have hm3 := c_at HS.out 0 rfl 3 rfl))
    try rw [Exit.noGoto_ret]
    go_ret
    rw [HE.out.1, HE.out.2]
    exact ⟨rfl, win_close s (sl_take HS.out 3)⟩
  have HV := Aside0.mk c1
  obtain ⟨E, hE⟩ : ∃ E, limE s.lx s.ly x y = E := ⟨_, rfl⟩
  have HL := Aside0.mk hE
  have hme : maxE s x y = E := (if_pos c1).trans hE
  by_cases c2 : E = 0
  · have HE := Aside0.mk (show maxE s x y = 0 ∧ maxS s x y = { s with mx := x, my := y } from ⟨hme.trans c2, if_pos (hme.trans c2)⟩)
    subst c2
    clear c1 hE hme
    go_enter Try.func23, Try.ntmps23
    go_wp2_with (first
    | (go_at_call 25; refine (usable_c (by repeat (with_reducible first | exact HS.out | apply sl_drewN | apply sl_drew | apply sl_box | apply sl_alloc)) 0 (by rfl)).mono ?_; rintro e w1 ⟨rfl, hs⟩; (try simp only [World.size_alloc] at hs); replace HS := Aside0.mk hs; clear hs; (try clear hm2 hm3); have hm2 := c_at HS.out 0 rfl 2 rfl; have hm3 := c_at HS.out 0 rfl 3 rfl)
    | (go_at_call 27; refine (valid_c (by repeat (with_reducible first | exact HS.out | apply sl_drewN | apply sl_drew | apply sl_box | apply sl_alloc)) 0 x y HV.out (lit2 _ x y)).mono ?_; rintro e w1 ⟨rfl, hs⟩; (try simp only [World.size_alloc] at hs); replace HS := Aside0.mk hs; clear hs; (try clear hm2 hm3); have hm2 := c_at HS.out 0 rfl 2 rfl; have hm3 := c_at HS.out 0 rfl 3 rfl))
    have HS2 := Aside0.mk (sl_box HS.out #[.int .i64 x, .int .i64 y] 23)
    refine start_ (n := 7) (S := fun w' => w'.cell? ⟨w1.heap.size, 0, none⟩ = some (.int .i64 x) ∧ w'.cell? ⟨w1.heap.size, 1, none⟩ = some (.int .i64 y) ∧ w'.cell? ⟨g, 2, none⟩ = some (.int .i64 s.lx) ∧ w'.cell? ⟨g, 3, none⟩ = some (.int .i64 s.ly)) (ds := [5, 6]) #[false, false, false, false, false, false, false] (by kernel_rfl) rfl rfl ⟨(c_at (sl_drew HS2.out) 4 rfl 0 rfl), (c_at (sl_drew HS2.out) 4 rfl 1 rfl), (c_at (sl_drew HS2.out) 0 rfl 2 rfl), (c_at (sl_drew HS2.out) 0 rfl 3 rfl)⟩ (fun hHeld => ?_)
    refine pure_ (i := 0) (N := some 20) (v := ?_) (a' := ?_) #[true, false, false, false, false, false, false] rfl rfl (by kernel_rfl) (fun _ _ _ h => h) (Or.inl ⟨by rfl, ?_⟩) ?_ ?_
    rotate_left
    · intro w'
      go_simp
      with_reducible rfl
    rotate_left
    · simp only [Act.put, List.setIfInBounds_toArray, List.set_cons_zero, List.set_cons_succ, i64_w, i32_w, IntKind.wrap_u32, IntKind.wrap_u8, IntKind.wrap_u16]
      rfl
    refine pure_ (i := 1) (N := some 21) (v := ?_) (a' := ?_) #[true, true, false, false, false, false, false] rfl rfl (by kernel_rfl) (fun _ _ _ h => h) (Or.inl ⟨by rfl, ?_⟩) ?_ ?_
    rotate_left
    · intro w'
      go_simp
      with_reducible rfl
    rotate_left
    · simp only [Act.put, List.setIfInBounds_toArray, List.set_cons_zero, List.set_cons_succ, i64_w, i32_w, IntKind.wrap_u32, IntKind.wrap_u8, IntKind.wrap_u16]
      rfl
    refine pure_ (i := 2) (N := some 22) (v := ?_) (a' := ?_) #[true, true, true, false, false, false, false] rfl rfl (by kernel_rfl) (fun _ _ _ h => h) (Or.inl ⟨by rfl, ?_⟩) ?_ ?_
    rotate_left
    · intro w'
      go_simp
      with_reducible rfl
    rotate_left
    · simp only [Act.put, List.setIfInBounds_toArray, List.set_cons_zero, List.set_cons_succ, i64_w, i32_w, IntKind.wrap_u32, IntKind.wrap_u8, IntKind.wrap_u16]
      rfl
    refine take_ (i := 3) (N := some 23) (v := ?_) (a' := ?_) #[true, true, true, true, false, false, false] rfl rfl (by kernel_rfl) (fun _ _ _ h => h) (Or.inl ⟨by rfl, ?_⟩) hHeld ?_ ?_
    rotate_left
    · rintro w' ⟨s0, s1, s2, s3⟩
      go_simp
      with_reducible rfl
    rotate_left
    · simp only [Act.put, List.setIfInBounds_toArray, List.set_cons_zero, List.set_cons_succ, i64_w, i32_w, IntKind.wrap_u32, IntKind.wrap_u8, IntKind.wrap_u16]
      rfl
    refine take_ (i := 4) (N := some 24) (v := ?_) (a' := ?_) #[true, true, true, true, true, false, false] rfl rfl (by kernel_rfl) (fun _ _ _ h => h) (Or.inl ⟨by rfl, ?_⟩) hHeld ?_ ?_
    rotate_left
    · rintro w' ⟨s0, s1, s2, s3⟩
      go_simp
      with_reducible rfl
    rotate_left
    · simp only [Act.put, List.setIfInBounds_toArray, List.set_cons_zero, List.set_cons_succ, i64_w, i32_w, IntKind.wrap_u32, IntKind.wrap_u8, IntKind.wrap_u16]
      rfl
    refine last_ (i := 5) (N := some 25) #[true, true, true, true, true, true, false] rfl rfl (by kernel_rfl) (by decide) (fun K hK => ?_)
    refine goes_ Try.func37 (by kernel_rfl) rfl #[.agg #[.int .i64 s.lx, .int .i64 s.ly], .agg #[.int .i64 x, .int .i64 y]] (by rfl) rfl rfl (by (try simp only [List.map_toArray, List.map_cons, List.map_nil]); first | done | rfl) ?_
    with_reducible refine (limits_c (sl_drew HS2.out) s.lx s.ly x y HL.out).mono ?_
    rintro e w3 ⟨rfl, hs3⟩
    refine ⟨_, rfl, ?_⟩
    have r0 := c_at hs3 4 rfl 0 rfl
    have r1 := c_at hs3 4 rfl 1 rfl
    have q0 := c_at hs3 0 rfl 4 rfl
    have q1 := c_at hs3 0 rfl 5 rfl
    have fr0 := f_at hs3 0 rfl 4
    have fr1 := f_at hs3 0 rfl 5
    have hl4 := blk_lt (sl_blk hs3 0 rfl)
    refine hK.out _ _ ?_
    clear hK K
    refine norm_ (a' := ?_) ?_ ?_
    rotate_left
    · show Act.put _ (some 25) _ = _
      simp only [Act.put, List.setIfInBounds_toArray, List.set_cons_zero, List.set_cons_succ, i64_w, i32_w, IntKind.wrap_u32, IntKind.wrap_u8, IntKind.wrap_u16]
      rfl
    refine pure_ (i := 6) (N := some 8) (v := ?_) (a' := ?_) #[true, true, true, true, true, true, true] rfl rfl (by kernel_rfl) (fun _ _ _ h => h) (Or.inl ⟨by rfl, ?_⟩) ?_ ?_
    rotate_left
    · intro w'
      go_simp
      with_reducible rfl
    rotate_left
    · simp only [Act.put, List.setIfInBounds_toArray, List.set_cons_zero, List.set_cons_succ, i64_w, i32_w, IntKind.wrap_u32, IntKind.wrap_u8, IntKind.wrap_u16]
      rfl
    refine done_ (by kernel_rfl) ?_
    go_wp2_with (fail)
    go_ret
    rw [HE.out.1, HE.out.2]
    exact ⟨rfl, win_close { s with mx := x, my := y } (sl_take (sl_put (sl_put hs3 0 rfl 4 (.int .i64 x)) 0 rfl 5 (.int .i64 y)) 3)⟩
  · have z : (E == 0) = false := beq_eq_false_iff_ne.2 c2
    have z' : (E != 0) = true := bne_iff_ne.2 c2
    have HE := Aside0.mk (show maxE s x y = E ∧ maxS s x y = s from ⟨hme, if_neg (fun h => c2 (hme.symm.trans h))⟩)
    clear c1 hE hme c2
    go_enter Try.func23, Try.ntmps23
    go_wp2_with (first
    | (go_at_call 25; refine (usable_c (by repeat (with_reducible first | exact HS.out | apply sl_drewN | apply sl_drew | apply sl_box | apply sl_alloc)) 0 (by rfl)).mono ?_; rintro e w1 ⟨rfl, hs⟩; (try simp only [World.size_alloc] at hs); replace HS := Aside0.mk hs; clear hs; (try clear hm2 hm3); have hm2 := c_at HS.out 0 rfl 2 rfl; have hm3 := c_at HS.out 0 rfl 3 rfl)
    | (go_at_call 27; refine (valid_c (by repeat (with_reducible first | exact HS.out | apply sl_drewN | apply sl_drew | apply sl_box | apply sl_alloc)) 0 x y HV.out (lit2 _ x y)).mono ?_; rintro e w1 ⟨rfl, hs⟩; (try simp only [World.size_alloc] at hs); replace HS := Aside0.mk hs; clear hs; (try clear hm2 hm3); have hm2 := c_at HS.out 0 rfl 2 rfl; have hm3 := c_at HS.out 0 rfl 3 rfl))
    have HS2 := Aside0.mk (sl_box HS.out #[.int .i64 x, .int .i64 y] 23)
    refine start_ (n := 7) (S := fun w' => w'.cell? ⟨w1.heap.size, 0, none⟩ = some (.int .i64 x) ∧ w'.cell? ⟨w1.heap.size, 1, none⟩ = some (.int .i64 y) ∧ w'.cell? ⟨g, 2, none⟩ = some (.int .i64 s.lx) ∧ w'.cell? ⟨g, 3, none⟩ = some (.int .i64 s.ly)) (ds := [5, 6]) #[false, false, false, false, false, false, false] (by kernel_rfl) rfl rfl ⟨(c_at (sl_drew HS2.out) 4 rfl 0 rfl), (c_at (sl_drew HS2.out) 4 rfl 1 rfl), (c_at (sl_drew HS2.out) 0 rfl 2 rfl), (c_at (sl_drew HS2.out) 0 rfl 3 rfl)⟩ (fun hHeld => ?_)
    refine pure_ (i := 0) (N := some 20) (v := ?_) (a' := ?_) #[true, false, false, false, false, false, false] rfl rfl (by kernel_rfl) (fun _ _ _ h => h) (Or.inl ⟨by rfl, ?_⟩) ?_ ?_
    rotate_left
    · intro w'
      go_simp
      with_reducible rfl
    rotate_left
    · simp only [Act.put, List.setIfInBounds_toArray, List.set_cons_zero, List.set_cons_succ, i64_w, i32_w, IntKind.wrap_u32, IntKind.wrap_u8, IntKind.wrap_u16]
      rfl
    refine pure_ (i := 1) (N := some 21) (v := ?_) (a' := ?_) #[true, true, false, false, false, false, false] rfl rfl (by kernel_rfl) (fun _ _ _ h => h) (Or.inl ⟨by rfl, ?_⟩) ?_ ?_
    rotate_left
    · intro w'
      go_simp
      with_reducible rfl
    rotate_left
    · simp only [Act.put, List.setIfInBounds_toArray, List.set_cons_zero, List.set_cons_succ, i64_w, i32_w, IntKind.wrap_u32, IntKind.wrap_u8, IntKind.wrap_u16]
      rfl
    refine pure_ (i := 2) (N := some 22) (v := ?_) (a' := ?_) #[true, true, true, false, false, false, false] rfl rfl (by kernel_rfl) (fun _ _ _ h => h) (Or.inl ⟨by rfl, ?_⟩) ?_ ?_
    rotate_left
    · intro w'
      go_simp
      with_reducible rfl
    rotate_left
    · simp only [Act.put, List.setIfInBounds_toArray, List.set_cons_zero, List.set_cons_succ, i64_w, i32_w, IntKind.wrap_u32, IntKind.wrap_u8, IntKind.wrap_u16]
      rfl
    refine take_ (i := 3) (N := some 23) (v := ?_) (a' := ?_) #[true, true, true, true, false, false, false] rfl rfl (by kernel_rfl) (fun _ _ _ h => h) (Or.inl ⟨by rfl, ?_⟩) hHeld ?_ ?_
    rotate_left
    · rintro w' ⟨s0, s1, s2, s3⟩
      go_simp
      with_reducible rfl
    rotate_left
    · simp only [Act.put, List.setIfInBounds_toArray, List.set_cons_zero, List.set_cons_succ, i64_w, i32_w, IntKind.wrap_u32, IntKind.wrap_u8, IntKind.wrap_u16]
      rfl
    refine take_ (i := 4) (N := some 24) (v := ?_) (a' := ?_) #[true, true, true, true, true, false, false] rfl rfl (by kernel_rfl) (fun _ _ _ h => h) (Or.inl ⟨by rfl, ?_⟩) hHeld ?_ ?_
    rotate_left
    · rintro w' ⟨s0, s1, s2, s3⟩
      go_simp
      with_reducible rfl
    rotate_left
    · simp only [Act.put, List.setIfInBounds_toArray, List.set_cons_zero, List.set_cons_succ, i64_w, i32_w, IntKind.wrap_u32, IntKind.wrap_u8, IntKind.wrap_u16]
      rfl
    refine last_ (i := 5) (N := some 25) #[true, true, true, true, true, true, false] rfl rfl (by kernel_rfl) (by decide) (fun K hK => ?_)
    refine goes_ Try.func37 (by kernel_rfl) rfl #[.agg #[.int .i64 s.lx, .int .i64 s.ly], .agg #[.int .i64 x, .int .i64 y]] (by rfl) rfl rfl (by (try simp only [List.map_toArray, List.map_cons, List.map_nil]); first | done | rfl) ?_
    with_reducible refine (limits_c (sl_drew HS2.out) s.lx s.ly x y HL.out).mono ?_
    rintro e w3 ⟨rfl, hs3⟩
    refine ⟨_, rfl, ?_⟩
    have r0 := c_at hs3 4 rfl 0 rfl
    have r1 := c_at hs3 4 rfl 1 rfl
    have q0 := c_at hs3 0 rfl 4 rfl
    have q1 := c_at hs3 0 rfl 5 rfl
    have fr0 := f_at hs3 0 rfl 4
    have fr1 := f_at hs3 0 rfl 5
    have hl4 := blk_lt (sl_blk hs3 0 rfl)
    refine hK.out _ _ ?_
    clear hK K
    refine norm_ (a' := ?_) ?_ ?_
    rotate_left
    · show Act.put _ (some 25) _ = _
      simp only [Act.put, List.setIfInBounds_toArray, List.set_cons_zero, List.set_cons_succ, i64_w, i32_w, IntKind.wrap_u32, IntKind.wrap_u8, IntKind.wrap_u16]
      rfl
    refine pure_ (i := 6) (N := some 8) (v := ?_) (a' := ?_) #[true, true, true, true, true, true, true] rfl rfl (by kernel_rfl) (fun _ _ _ h => h) (Or.inl ⟨by rfl, ?_⟩) ?_ ?_
    rotate_left
    · intro w'
      go_simp
      with_reducible rfl
    rotate_left
    · simp only [Act.put, List.setIfInBounds_toArray, List.set_cons_zero, List.set_cons_succ, i64_w, i32_w, IntKind.wrap_u32, IntKind.wrap_u8, IntKind.wrap_u16]
      rfl
    refine done_ (by kernel_rfl) ?_
    go_wp2_with (fail)
    go_ret
    rw [HE.out.1, HE.out.2]
    exact ⟨rfl, win_close s (sl_take hs3 3)⟩
end
end Go.Proofs.Ytckpgccbhaejgaa.Q
