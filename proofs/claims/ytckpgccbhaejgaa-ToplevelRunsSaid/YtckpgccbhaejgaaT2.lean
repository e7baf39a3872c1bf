import Derived.Maps.RangeWalk
import Derived.Test.YtckpgccbhaejgaaT1
namespace Go.Proofs.Ytckpgccbhaejgaa.Q
open Go.RowKit Go.Proofs.YtckpgccbhaejgaaW.PrintWords Go.Proofs.YtckpgccbhaejgaaW.PrintLast Go.Proofs.YtckpgccbhaejgaaW.PrintMore Go.Proofs.Ytckpgccbhaejgaa.Sl Go.Proofs.Ytckpgccbhaejgaa.Hand 
attribute [local go_sem] max2_int min2_int max_two min_two max_three min_three max_four min_four 
set_option linter.unusedVariables false
set_option linter.unusedSimpArgs false

/-! ### A window -/
structure WSt where
  lx : Int
  ly : Int
  mx : Int
  my : Int
  gx : Int
  gy : Int
  fx : Int
  fy : Int
  sx : Int
  sy : Int
  b : Bits
abbrev winC (g m : Nat) (s : WSt) : Res := cellsR g 55 #[.bool true, .map (some m), .int .i64 s.lx, .int .i64 s.ly, .int .i64 s.mx, .int .i64 s.my, .int .i64 s.gx, .int .i64 s.gy, .int .i64 s.fx, .int .i64 s.fy, .int .i64 s.sx, .int .i64 s.sy]
def winR (g : Nat) (s : WSt) : Res := exR (X := Nat) (fun m => winC g m s) (fun m => bitR m s.b)
theorem win_open {w0 w : World} {R : Res} {g : Nat} {s : WSt} (h : SL w0 w [winR g s, R]) : ∃ m, SL w0 w [winC g m s, R, bitR m s.b] := by
  obtain ⟨m, h1⟩ := sl_open h 0 rfl
  exact ⟨m, h1⟩
theorem win_close {w0 w : World} {R : Res} {g m : Nat} (s : WSt) (h : SL w0 w [winC g m s, R, bitR m s.b]) : SL w0 w [winR g s, R] := by
  have h1 := sl_close (X := Nat) (A := fun m => winC g m s) (B := fun m => bitR m s.b) m h 0 2 (by decide) rfl rfl
  exact sl_pick h1 [0, 1] (by decide) rfl
theorem usable_c {w0 w : World} {L : List Res} {g m : Nat} {s : WSt} (h : SL w0 w L) (i : Nat) (hi : L[i]? = some (winC g m s)) : Calls Try.prog 25 #[.pointer (some ⟨g, 0, none⟩)] w fun e w' => e = .returned (.bool true) ∧ SL w0 w' L := by
  have H := Aside0.mk h
  have m0 := c_at h i hi 0 rfl
  clear h hi
  go_enter Try.func25, Try.ntmps25
  go_wp2
  go_ret
  exact ⟨rfl, by repeat (with_reducible first | exact H.out | apply sl_drewN | apply sl_drew)⟩
theorem or_a (b c d : Bool) : Go.bits .or .i64 (mskI ⟨false, b, c, d⟩) 1 = mskI ⟨true, b, c, d⟩ := by cases b <;> cases c <;> cases d <;> kernel_rfl
theorem or_b (a c d : Bool) : Go.bits .or .i64 (mskI ⟨a, false, c, d⟩) 2 = mskI ⟨a, true, c, d⟩ := by cases a <;> cases c <;> cases d <;> kernel_rfl
theorem or_c (a b d : Bool) : Go.bits .or .i64 (mskI ⟨a, b, false, d⟩) 4 = mskI ⟨a, b, true, d⟩ := by cases a <;> cases b <;> cases d <;> kernel_rfl
theorem or_d (a b c : Bool) : Go.bits .or .i64 (mskI ⟨a, b, c, false⟩) 8 = mskI ⟨a, b, c, true⟩ := by cases a <;> cases b <;> cases c <;> kernel_rfl
theorem or_0 (a b c d : Bool) : Go.bits .or .i64 (mskI ⟨a, b, c, d⟩) 0 = mskI ⟨a, b, c, d⟩ := by cases a <;> cases b <;> cases c <;> cases d <;> kernel_rfl
set_option maxHeartbeats 2000000 in
theorem mask_in {w0 w : World} {R : Res} (g m : Nat) (s : WSt) (hs : SL w0 w [winC g m s, R, bitR m s.b]) : Calls Try.prog 26 #[.pointer (some ⟨g, 0, none⟩)] w fun e w' => e = .returned (.int .i64 (mskI s.b)) ∧ SL w0 w' [winC g m s, R, bitR m s.b] := by
  have HS := Aside0.mk hs
  have hm1 := c_at hs 0 rfl 1 rfl
  obtain ⟨D, k1, k2, k4, k8, hown, hD⟩ := sl_bit hs 2 rfl
  have HD := Aside0.mk hD
  clear hs hD
  go_enter Try.func26, Try.ntmps26
  go_wp2_with (first
    | (at_range; refine wpList_range_own _ rfl _ 53 rfl 3 3 law3 Try.underlying53 _ m _ _ rfl hown ?_; intro w0 hrg0 hg0 hs0)
    | go_in)
  go_frame
  go_loopw [3] (fun v3 wr => ∃ (left : Lit → Bool) (cnt : Nat), v3 = .int .i64 (mskI ⟨s.b.a && !left (ky 1), s.b.b && !left (ky 2), s.b.c && !left (ky 4), s.b.d && !left (ky 8)⟩) ∧ wr.ranges Try.prog 3 (plainElem Try.prog 3) m w.heap.size (Maps.size D) D left cnt ∧ Aside0 (∀ kl, left kl = true → Maps.has D kl = true) ∧ Aside0 (Below w.heap.size w wr))
    (fun _ wr => wr.rangeLeft m w.heap.size)
  case atStart =>
    have hd := HD.out
    refine ⟨_, _, ?_, hrg0, ⟨fun kl h => h⟩, ⟨(Below.refl _ _).grown hg0 (Nat.le_refl _) (fun j hj => by cases hj)⟩⟩
    have e1 : (s.b.a && !Maps.has D (ky 1)) = false := by rw [hd.h1]; cases hk : k1 <;> simp; exact hd.n1 hk
    have e2 : (s.b.b && !Maps.has D (ky 2)) = false := by rw [hd.h2]; cases hk : k2 <;> simp; exact hd.n2 hk
    have e4 : (s.b.c && !Maps.has D (ky 4)) = false := by rw [hd.h4]; cases hk : k4 <;> simp; exact hd.n4 hk
    have e8 : (s.b.d && !Maps.has D (ky 8)) = false := by rw [hd.h8]; cases hk : k8 <;> simp; exact hd.n8 hk
    rw [e1, e2, e4, e8]
    rfl
  case round =>
    obtain ⟨left, cnt, rfl, hrg, HLe, HB⟩ := hrel
    clear hrg0 hg0 hs0
    go_wp2_with (first
      | (at_next; refine wpList_next_ranges_ii _ rfl _ rfl 3 3 .i64 .i64 law3 Try.underlying3 Try.underlying3 m w.heap.size _ _ _ _ rfl hrg ?_ ?_)
      | go_in)
    · intro hc0 hl0
      go_wp2
      go_ret
      have e1 : ∀ x : Bool, ∀ k, (x && !left k) = x := fun x k => by rw [hl0]; cases x <;> rfl
      rw [e1, e1, e1, e1]
      exact ⟨rfl, sl_below HS.out HB.out⟩
    · intro x c w1 cnt1 hwx hwc hlx hat hrg1 hlt hg1 hs1 hen
      have hd := HD.out
      have hx := HLe.out _ hlx
      have HLe1 := Aside0.mk (show ∀ kl, (left kl && !kl.sameKey (.int .i64 x)) = true → Maps.has D kl = true from fun kl h => HLe.out kl (by rw [Bool.and_eq_true] at h; exact h.1))
      have HB1 := Aside0.mk (HB.out.grown hg1 HB.out.size (fun j hj => by cases hj; exact Nat.le_refl _))
      have sk : ∀ i j : Int, (ky i).sameKey (.int .i64 j) = decide (i = j) := fun i j => by
        by_cases h : i = j
        · subst h
          rw [decide_eq_true rfl]
          exact WideAt.sameKey_self trivial
        · rw [decide_eq_false h]
          exact Maps.sameKey_ne (ky_ne h)
      have HSk := Aside0.mk sk
      have HM := Aside0.mk (And.intro hrg1 (And.intro hlt hrg))
      rcases hd.only _ hx with h | h | h | h
      · injection h with _ h
        subst h
        have hk : k1 = true := by rw [← hd.h1]; exact hx
        have hv := (hat (.lit (.int .i64 0))).symm.trans (hd.v1 hk (.lit (.int .i64 0)))
        injection hv with hv
        injection hv with _ hv
        subst hv
        have hl1 : left (ky 1) = true := hlx
        have hn0 : (s.b.a && !left (ky 1)) = false := by rw [hl1]; cases s.b.a <;> rfl
        rw [hn0]
        have HN := Aside0.mk (show Go.bits .or .i64 (mskI ⟨false, (s.b.b && !left (ky 2)), (s.b.c && !left (ky 4)), (s.b.d && !left (ky 8))⟩) (bi s.b.a) = mskI ⟨s.b.a && !(left (ky 1) && !(ky 1).sameKey (.int .i64 1)), s.b.b && !(left (ky 2) && !(ky 2).sameKey (.int .i64 1)), s.b.c && !(left (ky 4) && !(ky 4).sameKey (.int .i64 1)), s.b.d && !(left (ky 8) && !(ky 8).sameKey (.int .i64 1))⟩ from by
          rw [HSk.out 1 1, HSk.out 2 1, HSk.out 4 1, HSk.out 8 1]
          rw [decide_eq_true (show (1 : Int) = 1 by rfl), decide_eq_false (show ¬ (2 : Int) = 1 by decide), decide_eq_false (show ¬ (4 : Int) = 1 by decide), decide_eq_false (show ¬ (8 : Int) = 1 by decide)]
          simp only [Bool.not_true, Bool.not_false, Bool.and_false, Bool.and_true]
          cases hf : s.b.a
          · show Go.bits .or .i64 _ 0 = _
            exact or_0 _ _ _ _
          · show Go.bits .or .i64 _ 1 = _
            exact or_a _ _ _)
        have hb01 : 0 ≤ bi s.b.a ∧ bi s.b.a ≤ 1 := by cases s.b.a <;> decide
        obtain ⟨hb0, hb1⟩ := hb01
        clear hd hx hk hl1 hn0 sk hat hrg1 hlt hrg hlx hwx hwc hg1 hs1
        go_wp2_with (fail)
        refine ⟨⟨_, cnt1, congrArg (Value.int .i64) HN.out, HM.out.1, HLe1, HB1⟩, ?_⟩
        rw [HM.out.1.left_eq, HM.out.2.2.left_eq]
        exact HM.out.2.1
      · injection h with _ h
        subst h
        have hk : k2 = true := by rw [← hd.h2]; exact hx
        have hv := (hat (.lit (.int .i64 0))).symm.trans (hd.v2 hk (.lit (.int .i64 0)))
        injection hv with hv
        injection hv with _ hv
        subst hv
        have hl1 : left (ky 2) = true := hlx
        have hn0 : (s.b.b && !left (ky 2)) = false := by rw [hl1]; cases s.b.b <;> rfl
        rw [hn0]
        have HN := Aside0.mk (show Go.bits .or .i64 (mskI ⟨(s.b.a && !left (ky 1)), false, (s.b.c && !left (ky 4)), (s.b.d && !left (ky 8))⟩) (2 * bi s.b.b) = mskI ⟨s.b.a && !(left (ky 1) && !(ky 1).sameKey (.int .i64 2)), s.b.b && !(left (ky 2) && !(ky 2).sameKey (.int .i64 2)), s.b.c && !(left (ky 4) && !(ky 4).sameKey (.int .i64 2)), s.b.d && !(left (ky 8) && !(ky 8).sameKey (.int .i64 2))⟩ from by
          rw [HSk.out 1 2, HSk.out 2 2, HSk.out 4 2, HSk.out 8 2]
          rw [decide_eq_false (show ¬ (1 : Int) = 2 by decide), decide_eq_true (show (2 : Int) = 2 by rfl), decide_eq_false (show ¬ (4 : Int) = 2 by decide), decide_eq_false (show ¬ (8 : Int) = 2 by decide)]
          simp only [Bool.not_true, Bool.not_false, Bool.and_false, Bool.and_true]
          cases hf : s.b.b
          · show Go.bits .or .i64 _ 0 = _
            exact or_0 _ _ _ _
          · show Go.bits .or .i64 _ 2 = _
            exact or_b _ _ _)
        have hb01 : 0 ≤ bi s.b.b ∧ bi s.b.b ≤ 1 := by cases s.b.b <;> decide
        obtain ⟨hb0, hb1⟩ := hb01
        clear hd hx hk hl1 hn0 sk hat hrg1 hlt hrg hlx hwx hwc hg1 hs1
        go_wp2_with (fail)
        refine ⟨⟨_, cnt1, congrArg (Value.int .i64) HN.out, HM.out.1, HLe1, HB1⟩, ?_⟩
        rw [HM.out.1.left_eq, HM.out.2.2.left_eq]
        exact HM.out.2.1
      · injection h with _ h
        subst h
        have hk : k4 = true := by rw [← hd.h4]; exact hx
        have hv := (hat (.lit (.int .i64 0))).symm.trans (hd.v4 hk (.lit (.int .i64 0)))
        injection hv with hv
        injection hv with _ hv
        subst hv
        have hl1 : left (ky 4) = true := hlx
        have hn0 : (s.b.c && !left (ky 4)) = false := by rw [hl1]; cases s.b.c <;> rfl
        rw [hn0]
        have HN := Aside0.mk (show Go.bits .or .i64 (mskI ⟨(s.b.a && !left (ky 1)), (s.b.b && !left (ky 2)), false, (s.b.d && !left (ky 8))⟩) (4 * bi s.b.c) = mskI ⟨s.b.a && !(left (ky 1) && !(ky 1).sameKey (.int .i64 4)), s.b.b && !(left (ky 2) && !(ky 2).sameKey (.int .i64 4)), s.b.c && !(left (ky 4) && !(ky 4).sameKey (.int .i64 4)), s.b.d && !(left (ky 8) && !(ky 8).sameKey (.int .i64 4))⟩ from by
          rw [HSk.out 1 4, HSk.out 2 4, HSk.out 4 4, HSk.out 8 4]
          rw [decide_eq_false (show ¬ (1 : Int) = 4 by decide), decide_eq_false (show ¬ (2 : Int) = 4 by decide), decide_eq_true (show (4 : Int) = 4 by rfl), decide_eq_false (show ¬ (8 : Int) = 4 by decide)]
          simp only [Bool.not_true, Bool.not_false, Bool.and_false, Bool.and_true]
          cases hf : s.b.c
          · show Go.bits .or .i64 _ 0 = _
            exact or_0 _ _ _ _
          · show Go.bits .or .i64 _ 4 = _
            exact or_c _ _ _)
        have hb01 : 0 ≤ bi s.b.c ∧ bi s.b.c ≤ 1 := by cases s.b.c <;> decide
        obtain ⟨hb0, hb1⟩ := hb01
        clear hd hx hk hl1 hn0 sk hat hrg1 hlt hrg hlx hwx hwc hg1 hs1
        go_wp2_with (fail)
        refine ⟨⟨_, cnt1, congrArg (Value.int .i64) HN.out, HM.out.1, HLe1, HB1⟩, ?_⟩
        rw [HM.out.1.left_eq, HM.out.2.2.left_eq]
        exact HM.out.2.1
      · injection h with _ h
        subst h
        have hk : k8 = true := by rw [← hd.h8]; exact hx
        have hv := (hat (.lit (.int .i64 0))).symm.trans (hd.v8 hk (.lit (.int .i64 0)))
        injection hv with hv
        injection hv with _ hv
        subst hv
        have hl1 : left (ky 8) = true := hlx
        have hn0 : (s.b.d && !left (ky 8)) = false := by rw [hl1]; cases s.b.d <;> rfl
        rw [hn0]
        have HN := Aside0.mk (show Go.bits .or .i64 (mskI ⟨(s.b.a && !left (ky 1)), (s.b.b && !left (ky 2)), (s.b.c && !left (ky 4)), false⟩) (8 * bi s.b.d) = mskI ⟨s.b.a && !(left (ky 1) && !(ky 1).sameKey (.int .i64 8)), s.b.b && !(left (ky 2) && !(ky 2).sameKey (.int .i64 8)), s.b.c && !(left (ky 4) && !(ky 4).sameKey (.int .i64 8)), s.b.d && !(left (ky 8) && !(ky 8).sameKey (.int .i64 8))⟩ from by
          rw [HSk.out 1 8, HSk.out 2 8, HSk.out 4 8, HSk.out 8 8]
          rw [decide_eq_false (show ¬ (1 : Int) = 8 by decide), decide_eq_false (show ¬ (2 : Int) = 8 by decide), decide_eq_false (show ¬ (4 : Int) = 8 by decide), decide_eq_true (show (8 : Int) = 8 by rfl)]
          simp only [Bool.not_true, Bool.not_false, Bool.and_false, Bool.and_true]
          cases hf : s.b.d
          · show Go.bits .or .i64 _ 0 = _
            exact or_0 _ _ _ _
          · show Go.bits .or .i64 _ 8 = _
            exact or_d _ _ _)
        have hb01 : 0 ≤ bi s.b.d ∧ bi s.b.d ≤ 1 := by cases s.b.d <;> decide
        obtain ⟨hb0, hb1⟩ := hb01
        clear hd hx hk hl1 hn0 sk hat hrg1 hlt hrg hlx hwx hwc hg1 hs1
        go_wp2_with (fail)
        refine ⟨⟨_, cnt1, congrArg (Value.int .i64) HN.out, HM.out.1, HLe1, HB1⟩, ?_⟩
        rw [HM.out.1.left_eq, HM.out.2.2.left_eq]
        exact HM.out.2.1
end Go.Proofs.Ytckpgccbhaejgaa.Q
