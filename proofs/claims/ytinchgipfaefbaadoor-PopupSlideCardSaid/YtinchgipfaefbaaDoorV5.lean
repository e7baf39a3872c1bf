import Derived.Test.YtinchgipfaefbaaDoorV4
namespace Go.Proofs.YtinchgipfaefbaaDoor.Q
open Go.RowKit Go.Proofs.YtinchgipfaefbaaDoorW.PrintWords Go.Proofs.YtinchgipfaefbaaDoorW.PrintLast Go.Proofs.YtinchgipfaefbaaDoorW.PrintMore Go.Proofs.YtinchgipfaefbaaDoor.Sl Go.Proofs.YtinchgipfaefbaaDoor.Hand 
attribute [local go_sem] max2_int min2_int max_two min_two max_three min_three max_four min_four 
set_option linter.unusedVariables false
set_option linter.unusedSimpArgs false

theorem mn_if (a c : Int) : mn a c = (if c < a then c else a) := rfl
theorem mx_if (a c : Int) : mx a c = (if a < c then c else a) := rfl
theorem res_no (len lo hi x : Int) : res len lo hi x false = (x, x + len) := by simp [res]
theorem res_fit {len lo hi x : Int} (r : Bool) (f : fit lo hi len x = true) : res len lo hi x r = (x, x + len) := by simp [res, f]
theorem res_1 {len lo hi x : Int} (f : fit lo hi len x = false) (hn : mn (x + len) hi ≤ lo) : res len lo hi x true = (lo, lo + 1) := by simp [res, f, hn]
theorem res_2 {len lo hi x : Int} (f : fit lo hi len x = false) (hn : ¬ mn (x + len) hi ≤ lo) (hy : hi ≤ mx x lo) : res len lo hi x true = (hi - 1, hi) := by simp [res, f, hn, hy]
theorem res_3 {len lo hi x : Int} (f : fit lo hi len x = false) (hn : ¬ mn (x + len) hi ≤ lo) (hy : ¬ hi ≤ mx x lo) : res len lo hi x true = (mx x lo, mn (x + len) hi) := by simp [res, f, hn, hy]
theorem adjust_c {w0 w : World} {L : List Res} (h : SL w0 w L) (a0 a1 len an gr off b lo hi at_ fl : Int) (ah : AH a0 a1 len an gr off lo hi at_ fl) (flip slide resize : Bool)
    (e4 : Go.bits .and .i64 b 4 = if flip = true then 4 else 0) (e1 : Go.bits .and .i64 b 1 = if slide = true then 1 else 0) (e16 : Go.bits .and .i64 b 16 = if resize = true then 16 else 0) :
    Calls Tryd.prog 32 #[.agg #[.int .i64 len, .int .i64 a0, .int .i64 a1, .int .i64 an, .int .i64 gr, .int .i64 off], .int .i64 b, .int .i64 lo, .int .i64 hi] w fun e w' => e = .returned (.tuple #[.int .i64 (adj len lo hi at_ fl flip slide resize).1, .int .i64 (adj len lo hi at_ fl flip slide resize).2]) ∧ SL w0 w' L := by
  have fin : ∀ r : Int × Int, adj len lo hi at_ fl flip slide resize = r → (Calls Tryd.prog 32 #[.agg #[.int .i64 len, .int .i64 a0, .int .i64 a1, .int .i64 an, .int .i64 gr, .int .i64 off], .int .i64 b, .int .i64 lo, .int .i64 hi] w fun e w' => e = .returned (.tuple #[.int .i64 r.1, .int .i64 r.2]) ∧ SL w0 w' L) → Calls Tryd.prog 32 #[.agg #[.int .i64 len, .int .i64 a0, .int .i64 a1, .int .i64 an, .int .i64 gr, .int .i64 off], .int .i64 b, .int .i64 lo, .int .i64 hi] w fun e w' => e = .returned (.tuple #[.int .i64 (adj len lo hi at_ fl flip slide resize).1, .int .i64 (adj len lo hi at_ fl flip slide resize).2]) ∧ SL w0 w' L := by
    intro r e hc
    rw [e]
    exact hc
  have hlo := ah.l1
  have hle := ah.h4
  have hB := plc_lt a0 a1 len an gr off ah.h0 ah.h1 ah.h2 ah.h3 (by have := ah.h4; omega) ah.h5 ah.h6 ah.h7
  rw [ah.eat] at hB
  cases f1 : fit lo hi len at_
  rotate_left
  · exact fin (at_, at_ + len) (by rw [adj_res, f1]; rfl) (adj_A h a0 a1 len an gr off b lo hi at_ fl ah f1)
  have nfit := f1
  rw [fit_d] at nfit
  have nfit2 := of_decide_eq_false nfit
  cases flip
  · skip
    have base0 : ∀ r : Bool, adj len lo hi at_ fl false false r = res len lo hi at_ r := by intro r; rw [adj_res, f1]; rfl
    have base1 : ∀ r : Bool, adj len lo hi at_ fl false true r = res len lo hi (mx (mn at_ (hi - len)) lo) r := by intro r; rw [adj_res, f1]; rfl
    cases slide
    · cases resize
      · exact fin (at_, at_ + len) ((base0 _).trans (res_no _ _ _ _)) (adj_F0NK0 h a0 a1 len an gr off b lo hi at_ fl ah f1 (by simpa using e4) (by simpa using e1) (by simpa using e16))
      · obtain ⟨n, en⟩ : ∃ n, (if hi < at_ + len then hi else at_ + len) = n := ⟨_, rfl⟩
        obtain ⟨y, ey⟩ : ∃ y, (if at_ < lo then lo else at_) = y := ⟨_, rfl⟩
        have en2 : mn (at_ + len) hi = n := by rw [mn_if]; exact en
        have ey2 : mx at_ lo = y := by rw [mx_if]; exact ey
        by_cases hn : n ≤ lo
        · exact fin (lo, lo + 1) ((base0 _).trans (res_1 f1 (by rw [en2]; exact hn))) (adj_F0NR1 h a0 a1 len an gr off b lo hi at_ fl n y ah f1 (by simpa using e4) (by simpa using e1) (by simpa using e16) en (eq_true hn) ey)
        · by_cases hy : hi ≤ y
          · exact fin (hi - 1, hi) ((base0 _).trans (res_2 f1 (by rw [en2]; exact hn) (by rw [ey2]; exact hy))) (adj_F0NR2 h a0 a1 len an gr off b lo hi at_ fl n y ah f1 (by simpa using e4) (by simpa using e1) (by simpa using e16) en (eq_false hn) ey (eq_true hy))
          · exact fin (y, n) ((base0 _).trans ((res_3 f1 (by rw [en2]; exact hn) (by rw [ey2]; exact hy)).trans (by rw [ey2, en2]))) (adj_F0NR3 h a0 a1 len an gr off b lo hi at_ fl n y ah f1 (by simpa using e4) (by simpa using e1) (by simpa using e16) en (eq_false hn) ey (eq_false hy))
    · obtain ⟨m, em⟩ : ∃ m, (if hi - len < at_ then hi - len else at_) = m := ⟨_, rfl⟩
      have em2 : mn at_ (hi - len) = m := by rw [mn_if]; exact em
      have bm : m ≤ 100000 := by rw [← em]; split <;> omega
      by_cases hm : m < lo
      · have ex : mx m lo = lo := by rw [mx_if, if_pos hm]
        have base2 : ∀ r, adj len lo hi at_ fl false true r = res len lo hi lo r := by intro r; rw [base1, em2, ex]
        cases resize
        · exact fin (lo, lo + len) ((base2 _).trans (res_no _ _ _ _)) (adj_F0S1K0 h a0 a1 len an gr off b lo hi at_ fl m ah f1 (by simpa using e4) (by simpa using e1) em (eq_true hm) (by simpa using e16))
        · cases f2 : fit lo hi len lo
          rotate_left
          · exact fin (lo, lo + len) ((base2 _).trans (res_fit _ f2)) (adj_F0S1KF h a0 a1 len an gr off b lo hi at_ fl m ah f1 (by simpa using e4) (by simpa using e1) em (eq_true hm) (by simpa using e16) f2)
          · obtain ⟨n, en⟩ : ∃ n, (if hi < lo + len then hi else lo + len) = n := ⟨_, rfl⟩
            have en2 : mn (lo + len) hi = n := by rw [mn_if]; exact en
            have hn : ¬ n ≤ lo := by rw [← en]; split <;> omega
            have ey2 : mx lo lo = lo := by rw [mx_if]; split <;> rfl
            exact fin (lo, n) ((base2 _).trans ((res_3 f2 (by rw [en2]; exact hn) (by rw [ey2]; omega)).trans (by rw [ey2, en2]))) (adj_F0S1R3 h a0 a1 len an gr off b lo hi at_ fl m n ah f1 (by simpa using e4) (by simpa using e1) em (eq_true hm) (by simpa using e16) f2 en (eq_false hn) (eq_false (by omega)))
      · have ex : mx m lo = m := by rw [mx_if, if_neg hm]
        have base2 : ∀ r, adj len lo hi at_ fl false true r = res len lo hi m r := by intro r; rw [base1, em2, ex]
        have f2 : fit lo hi len m = true := by
          rw [fit_d]
          refine decide_eq_true ⟨by omega, ?_⟩
          rw [← em]
          split <;> omega
        cases resize
        · exact fin (m, m + len) ((base2 _).trans (res_no _ _ _ _)) (adj_F0S2K0 h a0 a1 len an gr off b lo hi at_ fl m ah f1 (by simpa using e4) (by simpa using e1) em (eq_false hm) bm (by simpa using e16))
        · exact fin (m, m + len) ((base2 _).trans (res_fit _ f2)) (adj_F0S2KF h a0 a1 len an gr off b lo hi at_ fl m ah f1 (by simpa using e4) (by simpa using e1) em (eq_false hm) bm (by simpa using e16) f2)
  · cases f3 : fit lo hi len fl
    rotate_left
    · exact fin (fl, fl + len) (by rw [adj_res, f1, f3]; rfl) (adj_B h a0 a1 len an gr off b lo hi at_ fl ah f1 (by simpa using e4) f3)
    have base0 : ∀ r : Bool, adj len lo hi at_ fl true false r = res len lo hi at_ r := by intro r; rw [adj_res, f1]; rw [f3]; rfl
    have base1 : ∀ r : Bool, adj len lo hi at_ fl true true r = res len lo hi (mx (mn at_ (hi - len)) lo) r := by intro r; rw [adj_res, f1]; rw [f3]; rfl
    cases slide
    · cases resize
      · exact fin (at_, at_ + len) ((base0 _).trans (res_no _ _ _ _)) (adj_F1NK0 h a0 a1 len an gr off b lo hi at_ fl ah f1 (by simpa using e4) f3 (by simpa using e1) (by simpa using e16))
      · obtain ⟨n, en⟩ : ∃ n, (if hi < at_ + len then hi else at_ + len) = n := ⟨_, rfl⟩
        obtain ⟨y, ey⟩ : ∃ y, (if at_ < lo then lo else at_) = y := ⟨_, rfl⟩
        have en2 : mn (at_ + len) hi = n := by rw [mn_if]; exact en
        have ey2 : mx at_ lo = y := by rw [mx_if]; exact ey
        by_cases hn : n ≤ lo
        · exact fin (lo, lo + 1) ((base0 _).trans (res_1 f1 (by rw [en2]; exact hn))) (adj_F1NR1 h a0 a1 len an gr off b lo hi at_ fl n y ah f1 (by simpa using e4) f3 (by simpa using e1) (by simpa using e16) en (eq_true hn) ey)
        · by_cases hy : hi ≤ y
          · exact fin (hi - 1, hi) ((base0 _).trans (res_2 f1 (by rw [en2]; exact hn) (by rw [ey2]; exact hy))) (adj_F1NR2 h a0 a1 len an gr off b lo hi at_ fl n y ah f1 (by simpa using e4) f3 (by simpa using e1) (by simpa using e16) en (eq_false hn) ey (eq_true hy))
          · exact fin (y, n) ((base0 _).trans ((res_3 f1 (by rw [en2]; exact hn) (by rw [ey2]; exact hy)).trans (by rw [ey2, en2]))) (adj_F1NR3 h a0 a1 len an gr off b lo hi at_ fl n y ah f1 (by simpa using e4) f3 (by simpa using e1) (by simpa using e16) en (eq_false hn) ey (eq_false hy))
    · obtain ⟨m, em⟩ : ∃ m, (if hi - len < at_ then hi - len else at_) = m := ⟨_, rfl⟩
      have em2 : mn at_ (hi - len) = m := by rw [mn_if]; exact em
      have bm : m ≤ 100000 := by rw [← em]; split <;> omega
      by_cases hm : m < lo
      · have ex : mx m lo = lo := by rw [mx_if, if_pos hm]
        have base2 : ∀ r, adj len lo hi at_ fl true true r = res len lo hi lo r := by intro r; rw [base1, em2, ex]
        cases resize
        · exact fin (lo, lo + len) ((base2 _).trans (res_no _ _ _ _)) (adj_F1S1K0 h a0 a1 len an gr off b lo hi at_ fl m ah f1 (by simpa using e4) f3 (by simpa using e1) em (eq_true hm) (by simpa using e16))
        · cases f2 : fit lo hi len lo
          rotate_left
          · exact fin (lo, lo + len) ((base2 _).trans (res_fit _ f2)) (adj_F1S1KF h a0 a1 len an gr off b lo hi at_ fl m ah f1 (by simpa using e4) f3 (by simpa using e1) em (eq_true hm) (by simpa using e16) f2)
          · obtain ⟨n, en⟩ : ∃ n, (if hi < lo + len then hi else lo + len) = n := ⟨_, rfl⟩
            have en2 : mn (lo + len) hi = n := by rw [mn_if]; exact en
            have hn : ¬ n ≤ lo := by rw [← en]; split <;> omega
            have ey2 : mx lo lo = lo := by rw [mx_if]; split <;> rfl
            exact fin (lo, n) ((base2 _).trans ((res_3 f2 (by rw [en2]; exact hn) (by rw [ey2]; omega)).trans (by rw [ey2, en2]))) (adj_F1S1R3 h a0 a1 len an gr off b lo hi at_ fl m n ah f1 (by simpa using e4) f3 (by simpa using e1) em (eq_true hm) (by simpa using e16) f2 en (eq_false hn) (eq_false (by omega)))
      · have ex : mx m lo = m := by rw [mx_if, if_neg hm]
        have base2 : ∀ r, adj len lo hi at_ fl true true r = res len lo hi m r := by intro r; rw [base1, em2, ex]
        have f2 : fit lo hi len m = true := by
          rw [fit_d]
          refine decide_eq_true ⟨by omega, ?_⟩
          rw [← em]
          split <;> omega
        cases resize
        · exact fin (m, m + len) ((base2 _).trans (res_no _ _ _ _)) (adj_F1S2K0 h a0 a1 len an gr off b lo hi at_ fl m ah f1 (by simpa using e4) f3 (by simpa using e1) em (eq_false hm) bm (by simpa using e16))
        · exact fin (m, m + len) ((base2 _).trans (res_fit _ f2)) (adj_F1S2KF h a0 a1 len an gr off b lo hi at_ fl m ah f1 (by simpa using e4) f3 (by simpa using e1) em (eq_false hm) bm (by simpa using e16) f2)
/-! ### Contracts on the list of things -/
section
variable {w0 w : World} {L : List Res}
theorem Check_c (h : SL w0 w L) (p : Pos) : Calls Tryd.prog 11 #[.agg #[.int .i64 p.w, .int .i64 p.h, .int .i64 p.x0, .int .i64 p.y0, .int .i64 p.x1, .int .i64 p.y1, .int .i64 p.ae, .int .i64 p.gr, .int .i64 p.ad, .int .i64 p.ox, .int .i64 p.oy]] w fun e w' => e = .returned (.int .i64 (chk p)) ∧ SL w0 w' L := by
  refine (popup_Check.calls 1 _ _ _ _ _ _ _ _ _ _ _ _ w (f_Check p)).mono ?_
  rintro e w' ⟨rfl, hb⟩
  exact ⟨rfl, sl_below h hb⟩
theorem CheckR_c (h : SL w0 w L) (p : Pos) : Calls Tryd.prog 12 #[.agg #[.int .i64 p.w, .int .i64 p.h, .int .i64 p.x0, .int .i64 p.y0, .int .i64 p.x1, .int .i64 p.y1, .int .i64 p.ae, .int .i64 p.gr, .int .i64 p.ad, .int .i64 p.ox, .int .i64 p.oy]] w fun e w' => e = .returned (.int .i64 (chk p)) ∧ SL w0 w' L := by
  refine (compositorref21_Check.calls 1 _ _ _ _ _ _ _ _ _ _ _ _ w (f_CheckR p)).mono ?_
  rintro e w' ⟨rfl, hb⟩
  exact ⟨rfl, sl_below h hb⟩
theorem Empty_c (h : SL w0 w L) (a b c d : Int) : Calls Tryd.prog 22 #[.agg #[.int .i64 a, .int .i64 b, .int .i64 c, .int .i64 d]] w fun e w' => e = .returned (.bool (!okrB a b c d)) ∧ SL w0 w' L := by
  refine (rect_Empty.calls a b c d _ w (f_Empty a b c d)).mono ?_
  rintro e w' ⟨rfl, hb⟩
  exact ⟨rfl, sl_below h hb⟩
theorem Valid4_c (h : SL w0 w L) (a b c d : Int) : Calls Tryd.prog 26 #[.agg #[.int .i64 a, .int .i64 b, .int .i64 c, .int .i64 d]] w fun e w' => e = .returned (.bool (okv a b c d)) ∧ SL w0 w' L := by
  refine (compositorref04_Valid.calls a b c d _ w (f_Valid4 a b c d)).mono ?_
  rintro e w' ⟨rfl, hb⟩
  exact ⟨rfl, sl_below h hb⟩
theorem Empty4_c (h : SL w0 w L) (a b c d : Int) : Calls Tryd.prog 27 #[.agg #[.int .i64 a, .int .i64 b, .int .i64 c, .int .i64 d]] w fun e w' => e = .returned (.bool (!okrB a b c d)) ∧ SL w0 w' L := by
  refine (compositorref04_Empty.calls a b c d _ w (f_Empty4 a b c d)).mono ?_
  rintro e w' ⟨rfl, hb⟩
  exact ⟨rfl, sl_below h hb⟩
theorem FlipR_c (h : SL w0 w L) (n : Int) (hz : Bool) : Calls Tryd.prog 15 #[.int .i64 n, .bool hz] w fun e w' => e = .returned (.int .i64 (flipV n hz)) ∧ SL w0 w' L := by
  obtain ⟨k, hk⟩ := f_Flip n hz
  refine (compositorref21_Flip.calls k n hz _ w hk).mono ?_
  rintro e w' ⟨rfl, hd⟩
  exact ⟨rfl, sl_d0 h hd⟩
def withinB (a0 a1 a2 a3 b0 b1 b2 b3 : Int) : Bool := decide (b0 ≤ a0 ∧ a2 ≤ b2 ∧ b1 ≤ a1 ∧ a3 ≤ b3)
theorem f_within (a0 a1 a2 a3 b0 b1 b2 b3 : Int) : compositorlaw21_within.f a0 a1 a2 a3 b0 b1 b2 b3 = some (withinB a0 a1 a2 a3 b0 b1 b2 b3) := by
  unfold compositorlaw21_within.f withinB
  (repeat' split) <;> first | exact some_dd (by omega) | exact some_fd (by omega)
theorem within_c (h : SL w0 w L) (a0 a1 a2 a3 b0 b1 b2 b3 : Int) : Calls Tryd.prog 20 #[.agg #[.int .i64 a0, .int .i64 a1, .int .i64 a2, .int .i64 a3], .agg #[.int .i64 b0, .int .i64 b1, .int .i64 b2, .int .i64 b3]] w fun e w' => e = .returned (.bool (withinB a0 a1 a2 a3 b0 b1 b2 b3)) ∧ SL w0 w' L := by
  refine (compositorlaw21_within.calls _ _ _ _ _ _ _ _ _ w (f_within a0 a1 a2 a3 b0 b1 b2 b3)).mono ?_
  rintro e w' ⟨rfl, hb⟩
  exact ⟨rfl, sl_below h hb⟩
theorem side_c (h : SL w0 w L) (e : Int) (hz : Bool) (h0 : 0 ≤ e) (h1 : e ≤ 8) : Calls Tryd.prog 28 #[.int .i64 e, .bool hz] w fun r w' => r = .returned (.int .i64 (sideV e hz)) ∧ SL w0 w' L := by
  refine (compositorref21_side.calls 1 e hz _ w (f_side e hz h0 h1 0)).mono ?_
  rintro e w' ⟨rfl, hd⟩
  exact ⟨rfl, sl_d0 h hd⟩
theorem placeR_c (h : SL w0 w L) (a0 a1 len an gr off : Int) (h0 : -16384 ≤ a0) (h1 : a0 ≤ 16384) (h2 : -16384 ≤ a1) (h3 : a1 ≤ 16384) (h4 : 0 ≤ len) (h5 : len ≤ 16384) (h6 : -16384 ≤ off) (h7 : off ≤ 16384) (ha : -1 ≤ an ∧ an ≤ 1) (hg : -1 ≤ gr ∧ gr ≤ 1) :
    Calls Tryd.prog 35 #[.int .i64 a0, .int .i64 a1, .int .i64 len, .int .i64 an, .int .i64 gr, .int .i64 off] w fun e w' => e = .returned (.agg #[.int .i64 (plc a0 a1 len an gr off), .int .i64 (plc a0 a1 len an gr off + len)]) ∧ SL w0 w' L := by
  refine (compositorref21_place.calls 2 _ _ _ _ _ _ _ _ w (f_placeR a0 a1 len an gr off h0 h1 h2 h3 h4 h5 h6 h7 ha hg)).mono ?_
  rintro e w' ⟨rfl, hb⟩
  exact ⟨rfl, sl_below h hb⟩
theorem adjustR_c (h : SL w0 w L) (len lo hi at_ fl : Int) (flip slide resize : Bool) (l0 : -100000 ≤ lo) (l1 : lo < hi) (l2 : hi ≤ 100000) (x0 : -100000 ≤ at_) (x1 : at_ ≤ 100000) (n0 : 1 ≤ len) (n1 : len ≤ 16384) :
    Calls Tryd.prog 36 #[.agg #[.int .i64 at_, .int .i64 (at_ + len)], .agg #[.int .i64 fl, .int .i64 (fl + len)], .agg #[.int .i64 lo, .int .i64 hi], .bool flip, .bool slide, .bool resize] w fun e w' => e = .returned (.agg #[.int .i64 (adj len lo hi at_ fl flip slide resize).1, .int .i64 (adj len lo hi at_ fl flip slide resize).2]) ∧ SL w0 w' L := by
  refine (compositorref21_adjust.calls 4 _ _ _ _ _ _ _ _ _ _ _ w (f_adjustR len lo hi at_ fl flip slide resize l0 l1 l2 x0 x1 n0 n1)).mono ?_
  rintro e w' ⟨rfl, hb⟩
  exact ⟨rfl, sl_below h hb⟩
end
/-- What Place answers. -/
def plaV (p : Pos) : Int × Int × Int × Int × Int := if chk p = 0 then (plX p, plY p, plX p + p.w, plY p + p.h, 0) else (0, 0, 0, 0, chk p)
theorem bits_4 {a : Int} (h0 : 0 ≤ a) (h1 : a ≤ 63) : Go.bits .and .i64 a 4 = (if bt_ a 4 = true then 4 else 0) ∧ Go.bits .and .i64 a 1 = (if bt_ a 1 = true then 1 else 0) ∧ Go.bits .and .i64 a 16 = (if bt_ a 16 = true then 16 else 0) ∧
    Go.bits .and .i64 (a / 2) 4 = (if bt_ a 8 = true then 4 else 0) ∧ Go.bits .and .i64 (a / 2) 1 = (if bt_ a 2 = true then 1 else 0) ∧ Go.bits .and .i64 (a / 2) 16 = (if bt_ a 32 = true then 16 else 0) := by
  obtain ⟨n, hn, rfl⟩ : ∃ n : Nat, n < 64 ∧ a = n := ⟨a.toNat, by omega, by omega⟩
  clear h0 h1
  have key : ∀ n < 64, Go.bits .and .i64 ((n : Nat) : Int) 4 = (if bt_ n 4 = true then 4 else 0) ∧ Go.bits .and .i64 (n : Int) 1 = (if bt_ n 1 = true then 1 else 0) ∧ Go.bits .and .i64 (n : Int) 16 = (if bt_ n 16 = true then 16 else 0) ∧
    Go.bits .and .i64 ((n : Int) / 2) 4 = (if bt_ n 8 = true then 4 else 0) ∧ Go.bits .and .i64 ((n : Int) / 2) 1 = (if bt_ n 2 = true then 1 else 0) ∧ Go.bits .and .i64 ((n : Int) / 2) 16 = (if bt_ n 32 = true then 16 else 0) := by decide +kernel
  exact key n hn
section
variable {w0 w : World} {L : List Res}
set_option maxHeartbeats 8000000 in
set_option maxRecDepth 100000 in
theorem spans_c (h : SL w0 w L) (p : Pos) (hc : chk p = 0) : Calls Tryd.prog 31 #[.agg #[.int .i64 p.w, .int .i64 p.h, .int .i64 p.x0, .int .i64 p.y0, .int .i64 p.x1, .int .i64 p.y1, .int .i64 p.ae, .int .i64 p.gr, .int .i64 p.ad, .int .i64 p.ox, .int .i64 p.oy]] w fun e w' => e = .returned (.tuple #[.agg #[.int .i64 (plX p), .int .i64 (plX p + p.w)], .agg #[.int .i64 (plY p), .int .i64 (plY p + p.h)]]) ∧ SL w0 w' L := by
  obtain ⟨hw, hh, hr, hox, hoy, hae, hgr, had⟩ := chk_ok hc
  unfold okr at hr
  obtain ⟨tx, etx⟩ : ∃ t, sideV p.ae true = t := ⟨_, rfl⟩
  obtain ⟨ux, eux⟩ : ∃ t, sideV p.gr true = t := ⟨_, rfl⟩
  obtain ⟨ty, ety⟩ : ∃ t, sideV p.ae false = t := ⟨_, rfl⟩
  obtain ⟨uy, euy⟩ : ∃ t, sideV p.gr false = t := ⟨_, rfl⟩
  have stx : -1 ≤ tx ∧ tx ≤ 1 := etx ▸ side_lt p.ae true
  have sux : -1 ≤ ux ∧ ux ≤ 1 := eux ▸ side_lt p.gr true
  have sty : -1 ≤ ty ∧ ty ≤ 1 := ety ▸ side_lt p.ae false
  have suy : -1 ≤ uy ∧ uy ≤ 1 := euy ▸ side_lt p.gr false
  have HSX := Aside0.mk (show ∀ {w' : World} {M : List Res}, SL w w' M → Calls Tryd.prog 28 #[.int .i64 p.ae, .bool true] w' fun e w'' => e = .returned (.int .i64 tx) ∧ SL w w'' M from fun hs => etx ▸ side_c hs p.ae true hae.1 hae.2)
  have HSU := Aside0.mk (show ∀ {w' : World} {M : List Res}, SL w w' M → Calls Tryd.prog 28 #[.int .i64 p.gr, .bool true] w' fun e w'' => e = .returned (.int .i64 ux) ∧ SL w w'' M from fun hs => eux ▸ side_c hs p.gr true hgr.1 hgr.2)
  have HSY := Aside0.mk (show ∀ {w' : World} {M : List Res}, SL w w' M → Calls Tryd.prog 28 #[.int .i64 p.ae, .bool false] w' fun e w'' => e = .returned (.int .i64 ty) ∧ SL w w'' M from fun hs => ety ▸ side_c hs p.ae false hae.1 hae.2)
  have HSV := Aside0.mk (show ∀ {w' : World} {M : List Res}, SL w w' M → Calls Tryd.prog 28 #[.int .i64 p.gr, .bool false] w' fun e w'' => e = .returned (.int .i64 uy) ∧ SL w w'' M from fun hs => euy ▸ side_c hs p.gr false hgr.1 hgr.2)
  obtain ⟨px, epx⟩ : ∃ t, plX p = t := ⟨_, rfl⟩
  obtain ⟨py, epy⟩ : ∃ t, plY p = t := ⟨_, rfl⟩
  have HPX := Aside0.mk (show ∀ {w' : World} {M : List Res}, SL w w' M → Calls Tryd.prog 35 #[.int .i64 p.x0, .int .i64 p.x1, .int .i64 p.w, .int .i64 tx, .int .i64 ux, .int .i64 p.ox] w' fun e w'' => e = .returned (.agg #[.int .i64 px, .int .i64 (px + p.w)]) ∧ SL w w'' M from fun hs => by
    rw [← epx, ← etx, ← eux]
    exact placeR_c hs p.x0 p.x1 p.w (sideV p.ae true) (sideV p.gr true) p.ox (by omega) (by omega) (by omega) (by omega) (by omega) (by omega) (by omega) (by omega) (side_lt _ _) (side_lt _ _))
  have HPY := Aside0.mk (show ∀ {w' : World} {M : List Res}, SL w w' M → Calls Tryd.prog 35 #[.int .i64 p.y0, .int .i64 p.y1, .int .i64 p.h, .int .i64 ty, .int .i64 uy, .int .i64 p.oy] w' fun e w'' => e = .returned (.agg #[.int .i64 py, .int .i64 (py + p.h)]) ∧ SL w w'' M from fun hs => by
    rw [← epy, ← ety, ← euy]
    exact placeR_c hs p.y0 p.y1 p.h (sideV p.ae false) (sideV p.gr false) p.oy (by omega) (by omega) (by omega) (by omega) (by omega) (by omega) (by omega) (by omega) (side_lt _ _) (side_lt _ _))
  rw [epx, epy]
  clear etx eux ety euy epx epy
  obtain ⟨pw, ph, x0, y0, x1, y1, ae, gr, ad, ox, oy⟩ := p
  have HS := Aside0.mk (sl_start w)
  have H := Aside0.mk h
  clear h hc
  go_enter Tryd.func31, Tryd.ntmps31
  go_upto_region 1 with (fail)
  refine world_gen (F := fun w_ => Code.wp Tryd.prog _ _ _ w_) (fun w_ => SL w w_ [cellsR w.heap.size 27 #[.int .i64 pw, .int .i64 ph, .int .i64 x0, .int .i64 y0, .int .i64 x1, .int .i64 y1, .int .i64 ae, .int .i64 gr, .int .i64 ad, .int .i64 ox, .int .i64 oy], cellsR (w.heap.size + 1) 52 #[.int .i64 0, .int .i64 0], cellsR (w.heap.size + 1 + 1) 52 #[.int .i64 0, .int .i64 0]]) ?hP ?_
  case hP =>
    have hs := sl_box (sl_box (sl_box HS.out #[.int .i64 pw, .int .i64 ph, .int .i64 x0, .int .i64 y0, .int .i64 x1, .int .i64 y1, .int .i64 ae, .int .i64 gr, .int .i64 ad, .int .i64 ox, .int .i64 oy] 27) #[.int .i64 0, .int .i64 0] 52) #[.int .i64 0, .int .i64 0] 52
    (try simp only [World.size_alloc] at hs)
    exact hs
  intro w1 hs
  generalize w.heap.size + 1 + 1 = b2 at hs ⊢
  generalize w.heap.size + 1 = b1 at hs ⊢
  generalize w.heap.size = b0 at hs ⊢
  replace HS := Aside0.mk hs
  clear hs
  refine start_ (n := 20) (S := fun w' => w'.cell? ⟨b0, 0, none⟩ = some (.int .i64 pw) ∧ w'.cell? ⟨b0, 2, none⟩ = some (.int .i64 x0) ∧ w'.cell? ⟨b0, 4, none⟩ = some (.int .i64 x1) ∧ w'.cell? ⟨b0, 6, none⟩ = some (.int .i64 ae) ∧ w'.cell? ⟨b0, 7, none⟩ = some (.int .i64 gr) ∧ w'.cell? ⟨b0, 9, none⟩ = some (.int .i64 ox)) (ds := [19]) #[false, false, false, false, false, false, false, false, false, false, false, false, false, false, false, false, false, false, false, false] (by kernel_rfl) rfl rfl ⟨c_at (sl_drew HS.out) 0 rfl 0 rfl, c_at (sl_drew HS.out) 0 rfl 2 rfl, c_at (sl_drew HS.out) 0 rfl 4 rfl, c_at (sl_drew HS.out) 0 rfl 6 rfl, c_at (sl_drew HS.out) 0 rfl 7 rfl, c_at (sl_drew HS.out) 0 rfl 9 rfl⟩ (fun hHeld => ?_)
  refine pure_ (i := 0) (N := some 6) (v := ?_) (a' := ?_) #[true, false, false, false, false, false, false, false, false, false, false, false, false, false, false, false, false, false, false, false] rfl rfl (by kernel_rfl) (fun _ _ _ h => h) (Or.inl ⟨by rfl, ?_⟩) ?_ ?_
  rotate_left
  · intro w'
    go_simp
    with_reducible rfl
  rotate_left
  · simp only [Act.put, List.setIfInBounds_toArray, List.set_cons_zero, List.set_cons_succ, i64_w, i32_w, IntKind.wrap_u32, IntKind.wrap_u8, IntKind.wrap_u16]
    rfl
  refine pure_ (i := 1) (N := some 7) (v := ?_) (a' := ?_) #[true, true, false, false, false, false, false, false, false, false, false, false, false, false, false, false, false, false, false, false] rfl rfl (by kernel_rfl) (fun _ _ _ h => h) (Or.inl ⟨by rfl, ?_⟩) ?_ ?_
  rotate_left
  · intro w'
    go_simp
    with_reducible rfl
  rotate_left
  · simp only [Act.put, List.setIfInBounds_toArray, List.set_cons_zero, List.set_cons_succ, i64_w, i32_w, IntKind.wrap_u32, IntKind.wrap_u8, IntKind.wrap_u16]
    rfl
  refine pure_ (i := 3) (N := some 9) (v := ?_) (a' := ?_) #[true, true, false, true, false, false, false, false, false, false, false, false, false, false, false, false, false, false, false, false] rfl rfl (by kernel_rfl) (fun _ _ _ h => h) (Or.inl ⟨by rfl, ?_⟩) ?_ ?_
  rotate_left
  · intro w'
    go_simp
    with_reducible rfl
  rotate_left
  · simp only [Act.put, List.setIfInBounds_toArray, List.set_cons_zero, List.set_cons_succ, i64_w, i32_w, IntKind.wrap_u32, IntKind.wrap_u8, IntKind.wrap_u16]
    rfl
  refine pure_ (i := 4) (N := some 10) (v := ?_) (a' := ?_) #[true, true, false, true, true, false, false, false, false, false, false, false, false, false, false, false, false, false, false, false] rfl rfl (by kernel_rfl) (fun _ _ _ h => h) (Or.inl ⟨by rfl, ?_⟩) ?_ ?_
  rotate_left
  · intro w'
    go_simp
    with_reducible rfl
  rotate_left
  · simp only [Act.put, List.setIfInBounds_toArray, List.set_cons_zero, List.set_cons_succ, i64_w, i32_w, IntKind.wrap_u32, IntKind.wrap_u8, IntKind.wrap_u16]
    rfl
  refine pure_ (i := 6) (N := some 12) (v := ?_) (a' := ?_) #[true, true, false, true, true, false, true, false, false, false, false, false, false, false, false, false, false, false, false, false] rfl rfl (by kernel_rfl) (fun _ _ _ h => h) (Or.inl ⟨by rfl, ?_⟩) ?_ ?_
  rotate_left
  · intro w'
    go_simp
    with_reducible rfl
  rotate_left
  · simp only [Act.put, List.setIfInBounds_toArray, List.set_cons_zero, List.set_cons_succ, i64_w, i32_w, IntKind.wrap_u32, IntKind.wrap_u8, IntKind.wrap_u16]
    rfl
  refine pure_ (i := 8) (N := some 14) (v := ?_) (a' := ?_) #[true, true, false, true, true, false, true, false, true, false, false, false, false, false, false, false, false, false, false, false] rfl rfl (by kernel_rfl) (fun _ _ _ h => h) (Or.inl ⟨by rfl, ?_⟩) ?_ ?_
  rotate_left
  · intro w'
    go_simp
    with_reducible rfl
  rotate_left
  · simp only [Act.put, List.setIfInBounds_toArray, List.set_cons_zero, List.set_cons_succ, i64_w, i32_w, IntKind.wrap_u32, IntKind.wrap_u8, IntKind.wrap_u16]
    rfl
  refine pure_ (i := 11) (N := some 17) (v := ?_) (a' := ?_) #[true, true, false, true, true, false, true, false, true, false, false, true, false, false, false, false, false, false, false, false] rfl rfl (by kernel_rfl) (fun _ _ _ h => h) (Or.inl ⟨by rfl, ?_⟩) ?_ ?_
  rotate_left
  · intro w'
    go_simp
    with_reducible rfl
  rotate_left
  · simp only [Act.put, List.setIfInBounds_toArray, List.set_cons_zero, List.set_cons_succ, i64_w, i32_w, IntKind.wrap_u32, IntKind.wrap_u8, IntKind.wrap_u16]
    rfl
  refine pure_ (i := 14) (N := some 20) (v := ?_) (a' := ?_) #[true, true, false, true, true, false, true, false, true, false, false, true, false, false, true, false, false, false, false, false] rfl rfl (by kernel_rfl) (fun _ _ _ h => h) (Or.inl ⟨by rfl, ?_⟩) ?_ ?_
  rotate_left
  · intro w'
    go_simp
    with_reducible rfl
  rotate_left
  · simp only [Act.put, List.setIfInBounds_toArray, List.set_cons_zero, List.set_cons_succ, i64_w, i32_w, IntKind.wrap_u32, IntKind.wrap_u8, IntKind.wrap_u16]
    rfl
  refine pure_ (i := 15) (N := some 21) (v := ?_) (a' := ?_) #[true, true, false, true, true, false, true, false, true, false, false, true, false, false, true, true, false, false, false, false] rfl rfl (by kernel_rfl) (fun _ _ _ h => h) (Or.inl ⟨by rfl, ?_⟩) ?_ ?_
  rotate_left
  · intro w'
    go_simp
    with_reducible rfl
  rotate_left
  · simp only [Act.put, List.setIfInBounds_toArray, List.set_cons_zero, List.set_cons_succ, i64_w, i32_w, IntKind.wrap_u32, IntKind.wrap_u8, IntKind.wrap_u16]
    rfl
  refine take_ (i := 2) (N := some 8) (v := ?_) (a' := ?_) #[true, true, true, true, true, false, true, false, true, false, false, true, false, false, true, true, false, false, false, false] rfl rfl (by kernel_rfl) (fun _ _ _ h => h) (Or.inl ⟨by rfl, ?_⟩) hHeld ?_ ?_
  rotate_left
  · rintro w' ⟨s0, s1, s2, s3, s4, s5⟩
    go_simp
    with_reducible rfl
  rotate_left
  · simp only [Act.put, List.setIfInBounds_toArray, List.set_cons_zero, List.set_cons_succ, i64_w, i32_w, IntKind.wrap_u32, IntKind.wrap_u8, IntKind.wrap_u16]
    rfl
  refine take_ (i := 5) (N := some 11) (v := ?_) (a' := ?_) #[true, true, true, true, true, true, true, false, true, false, false, true, false, false, true, true, false, false, false, false] rfl rfl (by kernel_rfl) (fun _ _ _ h => h) (Or.inl ⟨by rfl, ?_⟩) hHeld ?_ ?_
  rotate_left
  · rintro w' ⟨s0, s1, s2, s3, s4, s5⟩
    go_simp
    with_reducible rfl
  rotate_left
  · simp only [Act.put, List.setIfInBounds_toArray, List.set_cons_zero, List.set_cons_succ, i64_w, i32_w, IntKind.wrap_u32, IntKind.wrap_u8, IntKind.wrap_u16]
    rfl
  refine take_ (i := 7) (N := some 13) (v := ?_) (a' := ?_) #[true, true, true, true, true, true, true, true, true, false, false, true, false, false, true, true, false, false, false, false] rfl rfl (by kernel_rfl) (fun _ _ _ h => h) (Or.inl ⟨by rfl, ?_⟩) hHeld ?_ ?_
  rotate_left
  · rintro w' ⟨s0, s1, s2, s3, s4, s5⟩
    go_simp
    with_reducible rfl
  rotate_left
  · simp only [Act.put, List.setIfInBounds_toArray, List.set_cons_zero, List.set_cons_succ, i64_w, i32_w, IntKind.wrap_u32, IntKind.wrap_u8, IntKind.wrap_u16]
    rfl
  refine take_ (i := 9) (N := some 15) (v := ?_) (a' := ?_) #[true, true, true, true, true, true, true, true, true, true, false, true, false, false, true, true, false, false, false, false] rfl rfl (by kernel_rfl) (fun _ _ _ h => h) (Or.inl ⟨by rfl, ?_⟩) hHeld ?_ ?_
  rotate_left
  · rintro w' ⟨s0, s1, s2, s3, s4, s5⟩
    go_simp
    with_reducible rfl
  rotate_left
  · simp only [Act.put, List.setIfInBounds_toArray, List.set_cons_zero, List.set_cons_succ, i64_w, i32_w, IntKind.wrap_u32, IntKind.wrap_u8, IntKind.wrap_u16]
    rfl
  refine take_ (i := 12) (N := some 18) (v := ?_) (a' := ?_) #[true, true, true, true, true, true, true, true, true, true, false, true, true, false, true, true, false, false, false, false] rfl rfl (by kernel_rfl) (fun _ _ _ h => h) (Or.inl ⟨by rfl, ?_⟩) hHeld ?_ ?_
  rotate_left
  · rintro w' ⟨s0, s1, s2, s3, s4, s5⟩
    go_simp
    with_reducible rfl
  rotate_left
  · simp only [Act.put, List.setIfInBounds_toArray, List.set_cons_zero, List.set_cons_succ, i64_w, i32_w, IntKind.wrap_u32, IntKind.wrap_u8, IntKind.wrap_u16]
    rfl
  refine take_ (i := 16) (N := some 22) (v := ?_) (a' := ?_) #[true, true, true, true, true, true, true, true, true, true, false, true, true, false, true, true, true, false, false, false] rfl rfl (by kernel_rfl) (fun _ _ _ h => h) (Or.inl ⟨by rfl, ?_⟩) hHeld ?_ ?_
  rotate_left
  · rintro w' ⟨s0, s1, s2, s3, s4, s5⟩
    go_simp
    with_reducible rfl
  rotate_left
  · simp only [Act.put, List.setIfInBounds_toArray, List.set_cons_zero, List.set_cons_succ, i64_w, i32_w, IntKind.wrap_u32, IntKind.wrap_u8, IntKind.wrap_u16]
    rfl
  refine join_ (σ := Nat) 1 #[true, true, true, true, true, true, true, true, true, true, true, true, true, true, true, true, true, true, true, false] (fun s_ => [(16, (Value.int .i64 tx)), (19, (Value.int .i64 ux)), (23, (Value.agg #[.int .i64 px, .int .i64 (px + pw)])), (4, (Value.pointer (some ⟨s_, 0, none⟩)))]) (fun s_ w' => SL w w' [cellsR b0 27 #[.int .i64 pw, .int .i64 ph, .int .i64 x0, .int .i64 y0, .int .i64 x1, .int .i64 y1, .int .i64 ae, .int .i64 gr, .int .i64 ad, .int .i64 ox, .int .i64 oy], cellsR b1 52 #[.int .i64 0, .int .i64 0], cellsR b2 52 #[.int .i64 0, .int .i64 0], cellsR s_ 52 #[.int .i64 0, .int .i64 0]]) ?_ ?_
  rotate_left
  · intro hCont
    refine two_ (i := 10) (j := 18) (Ni := some 16) (Nj := some 4) #[true, true, true, true, true, true, true, true, true, true, true, true, true, false, true, true, true, false, false, false] #[true, true, true, true, true, true, true, true, true, true, false, true, true, false, true, true, true, false, true, false] rfl rfl rfl rfl (by kernel_rfl) (by decide) (by decide) (fun K hK => ?_) (fun K hK => ?_)
    · skip
      refine goes_ Tryd.func28 (by kernel_rfl) rfl #[.int .i64 ae, .bool true] (by rfl) rfl rfl (by (try simp only [List.map_toArray, List.map_cons, List.map_nil]); first | done | rfl) ?_
      with_reducible refine (HSX.out (sl_drew HS.out)).mono ?_
      rintro e w10 ⟨rfl, hs10⟩
      refine ⟨_, rfl, ?_⟩
      refine hK.out _ _ ⟨c_at hs10 0 rfl 0 rfl, c_at hs10 0 rfl 2 rfl, c_at hs10 0 rfl 4 rfl, c_at hs10 0 rfl 6 rfl, c_at hs10 0 rfl 7 rfl, c_at hs10 0 rfl 9 rfl⟩ (fun hHeld => ?_)
      clear hK K
      refine norm_ (a' := ?_) ?_ ?_
      rotate_left
      · show Act.put _ (some 16) _ = _
        simp only [Act.put, List.setIfInBounds_toArray, List.set_cons_zero, List.set_cons_succ, i64_w, i32_w, IntKind.wrap_u32, IntKind.wrap_u8, IntKind.wrap_u16]
        rfl
      refine two_ (i := 13) (j := 18) (Ni := some 19) (Nj := some 4) #[true, true, true, true, true, true, true, true, true, true, true, true, true, true, true, true, true, false, false, false] #[true, true, true, true, true, true, true, true, true, true, true, true, true, false, true, true, true, false, true, false] rfl rfl rfl rfl (by kernel_rfl) (by decide) (by decide) (fun K hK => ?_) (fun K hK => ?_)
      · skip
        refine goes_ Tryd.func28 (by kernel_rfl) rfl #[.int .i64 gr, .bool true] (by rfl) rfl rfl (by (try simp only [List.map_toArray, List.map_cons, List.map_nil]); first | done | rfl) ?_
        with_reducible refine (HSU.out hs10).mono ?_
        rintro e w14 ⟨rfl, hs14⟩
        refine ⟨_, rfl, ?_⟩
        refine hK.out _ _ ⟨c_at hs14 0 rfl 0 rfl, c_at hs14 0 rfl 2 rfl, c_at hs14 0 rfl 4 rfl, c_at hs14 0 rfl 6 rfl, c_at hs14 0 rfl 7 rfl, c_at hs14 0 rfl 9 rfl⟩ (fun hHeld => ?_)
        clear hK K
        refine norm_ (a' := ?_) ?_ ?_
        rotate_left
        · show Act.put _ (some 19) _ = _
          simp only [Act.put, List.setIfInBounds_toArray, List.set_cons_zero, List.set_cons_succ, i64_w, i32_w, IntKind.wrap_u32, IntKind.wrap_u8, IntKind.wrap_u16]
          rfl
        refine two_ (i := 17) (j := 18) (Ni := some 23) (Nj := some 4) #[true, true, true, true, true, true, true, true, true, true, true, true, true, true, true, true, true, true, false, false] #[true, true, true, true, true, true, true, true, true, true, true, true, true, true, true, true, true, false, true, false] rfl rfl rfl rfl (by kernel_rfl) (by decide) (by decide) (fun K hK => ?_) (fun K hK => ?_)
        · skip
          refine goes_ Tryd.func35 (by kernel_rfl) rfl #[.int .i64 x0, .int .i64 x1, .int .i64 pw, .int .i64 tx, .int .i64 ux, .int .i64 ox] (by rfl) rfl rfl (by (try simp only [List.map_toArray, List.map_cons, List.map_nil]); first | done | rfl) ?_
          with_reducible refine (HPX.out hs14).mono ?_
          rintro e w20 ⟨rfl, hs20⟩
          refine ⟨_, rfl, ?_⟩
          refine hK.out _ _ ⟨c_at hs20 0 rfl 0 rfl, c_at hs20 0 rfl 2 rfl, c_at hs20 0 rfl 4 rfl, c_at hs20 0 rfl 6 rfl, c_at hs20 0 rfl 7 rfl, c_at hs20 0 rfl 9 rfl⟩ (fun hHeld => ?_)
          clear hK K
          refine norm_ (a' := ?_) ?_ ?_
          rotate_left
          · show Act.put _ (some 23) _ = _
            simp only [Act.put, List.setIfInBounds_toArray, List.set_cons_zero, List.set_cons_succ, i64_w, i32_w, IntKind.wrap_u32, IntKind.wrap_u8, IntKind.wrap_u16]
            rfl
          refine one_ (i := 18) (N := some 4) #[true, true, true, true, true, true, true, true, true, true, true, true, true, true, true, true, true, true, true, false] rfl rfl (by kernel_rfl) (by decide) (fun K hK => ?_)
          refine box_step ?hg (N := 4) ?hd (cs := #[.int .i64 0, .int .i64 0]) (t := 52) ?hr ?_; (case hd => rfl); (case hg => rfl); (case hr => first | (go_simp; done) | (go_simp; rfl))
          intro gn hgn w4 hbox hb
          have hsAl := sl_box' hs20 hb (Nat.le_of_eq hgn.symm) hbox
          refine hK.out _ _ ⟨c_at hsAl 0 rfl 0 rfl, c_at hsAl 0 rfl 2 rfl, c_at hsAl 0 rfl 4 rfl, c_at hsAl 0 rfl 6 rfl, c_at hsAl 0 rfl 7 rfl, c_at hsAl 0 rfl 9 rfl⟩ (fun hHeld => ?_)
          clear hK K
          refine norm_ (a' := ?_) ?_ ?_
          rotate_left
          · show Act.put _ (some 4) _ = _
            simp only [Act.put, List.setIfInBounds_toArray, List.set_cons_zero, List.set_cons_succ, i64_w, i32_w, IntKind.wrap_u32, IntKind.wrap_u8, IntKind.wrap_u16]
            rfl
          exact norm_ (by simp only [putAll, Act.put, List.setIfInBounds_toArray, List.set_cons_zero, List.set_cons_succ]) (hCont gn _ hsAl)
        · skip
          refine box_step ?hg (N := 4) ?hd (cs := #[.int .i64 0, .int .i64 0]) (t := 52) ?hr ?_; (case hd => rfl); (case hg => rfl); (case hr => first | (go_simp; done) | (go_simp; rfl))
          intro gn hgn w4 hbox hb
          have hsAl := sl_box' hs14 hb (Nat.le_of_eq hgn.symm) hbox
          refine hK.out _ _ ⟨c_at hsAl 0 rfl 0 rfl, c_at hsAl 0 rfl 2 rfl, c_at hsAl 0 rfl 4 rfl, c_at hsAl 0 rfl 6 rfl, c_at hsAl 0 rfl 7 rfl, c_at hsAl 0 rfl 9 rfl⟩ (fun hHeld => ?_)
          clear hK K
          refine norm_ (a' := ?_) ?_ ?_
          rotate_left
          · show Act.put _ (some 4) _ = _
            simp only [Act.put, List.setIfInBounds_toArray, List.set_cons_zero, List.set_cons_succ, i64_w, i32_w, IntKind.wrap_u32, IntKind.wrap_u8, IntKind.wrap_u16]
            rfl
          refine one_ (i := 17) (N := some 23) #[true, true, true, true, true, true, true, true, true, true, true, true, true, true, true, true, true, true, true, false] rfl rfl (by kernel_rfl) (by decide) (fun K hK => ?_)
          refine goes_ Tryd.func35 (by kernel_rfl) rfl #[.int .i64 x0, .int .i64 x1, .int .i64 pw, .int .i64 tx, .int .i64 ux, .int .i64 ox] (by rfl) rfl rfl (by (try simp only [List.map_toArray, List.map_cons, List.map_nil]); first | done | rfl) ?_
          with_reducible refine (HPX.out hsAl).mono ?_
          rintro e w20 ⟨rfl, hs20⟩
          refine ⟨_, rfl, ?_⟩
          refine hK.out _ _ ⟨c_at hs20 0 rfl 0 rfl, c_at hs20 0 rfl 2 rfl, c_at hs20 0 rfl 4 rfl, c_at hs20 0 rfl 6 rfl, c_at hs20 0 rfl 7 rfl, c_at hs20 0 rfl 9 rfl⟩ (fun hHeld => ?_)
          clear hK K
          refine norm_ (a' := ?_) ?_ ?_
          rotate_left
          · show Act.put _ (some 23) _ = _
            simp only [Act.put, List.setIfInBounds_toArray, List.set_cons_zero, List.set_cons_succ, i64_w, i32_w, IntKind.wrap_u32, IntKind.wrap_u8, IntKind.wrap_u16]
            rfl
          exact norm_ (by simp only [putAll, Act.put, List.setIfInBounds_toArray, List.set_cons_zero, List.set_cons_succ]) (hCont gn _ hs20)
      · skip
        refine box_step ?hg (N := 4) ?hd (cs := #[.int .i64 0, .int .i64 0]) (t := 52) ?hr ?_; (case hd => rfl); (case hg => rfl); (case hr => first | (go_simp; done) | (go_simp; rfl))
        intro gn hgn w4 hbox hb
        have hsAl := sl_box' hs10 hb (Nat.le_of_eq hgn.symm) hbox
        refine hK.out _ _ ⟨c_at hsAl 0 rfl 0 rfl, c_at hsAl 0 rfl 2 rfl, c_at hsAl 0 rfl 4 rfl, c_at hsAl 0 rfl 6 rfl, c_at hsAl 0 rfl 7 rfl, c_at hsAl 0 rfl 9 rfl⟩ (fun hHeld => ?_)
        clear hK K
        refine norm_ (a' := ?_) ?_ ?_
        rotate_left
        · show Act.put _ (some 4) _ = _
          simp only [Act.put, List.setIfInBounds_toArray, List.set_cons_zero, List.set_cons_succ, i64_w, i32_w, IntKind.wrap_u32, IntKind.wrap_u8, IntKind.wrap_u16]
          rfl
        refine one_ (i := 13) (N := some 19) #[true, true, true, true, true, true, true, true, true, true, true, true, true, true, true, true, true, false, true, false] rfl rfl (by kernel_rfl) (by decide) (fun K hK => ?_)
        refine goes_ Tryd.func28 (by kernel_rfl) rfl #[.int .i64 gr, .bool true] (by rfl) rfl rfl (by (try simp only [List.map_toArray, List.map_cons, List.map_nil]); first | done | rfl) ?_
        with_reducible refine (HSU.out hsAl).mono ?_
        rintro e w14 ⟨rfl, hs14⟩
        refine ⟨_, rfl, ?_⟩
        refine hK.out _ _ ⟨c_at hs14 0 rfl 0 rfl, c_at hs14 0 rfl 2 rfl, c_at hs14 0 rfl 4 rfl, c_at hs14 0 rfl 6 rfl, c_at hs14 0 rfl 7 rfl, c_at hs14 0 rfl 9 rfl⟩ (fun hHeld => ?_)
        clear hK K
        refine norm_ (a' := ?_) ?_ ?_
        rotate_left
        · show Act.put _ (some 19) _ = _
          simp only [Act.put, List.setIfInBounds_toArray, List.set_cons_zero, List.set_cons_succ, i64_w, i32_w, IntKind.wrap_u32, IntKind.wrap_u8, IntKind.wrap_u16]
          rfl
        refine one_ (i := 17) (N := some 23) #[true, true, true, true, true, true, true, true, true, true, true, true, true, true, true, true, true, true, true, false] rfl rfl (by kernel_rfl) (by decide) (fun K hK => ?_)
        refine goes_ Tryd.func35 (by kernel_rfl) rfl #[.int .i64 x0, .int .i64 x1, .int .i64 pw, .int .i64 tx, .int .i64 ux, .int .i64 ox] (by rfl) rfl rfl (by (try simp only [List.map_toArray, List.map_cons, List.map_nil]); first | done | rfl) ?_
        with_reducible refine (HPX.out hs14).mono ?_
        rintro e w20 ⟨rfl, hs20⟩
        refine ⟨_, rfl, ?_⟩
        refine hK.out _ _ ⟨c_at hs20 0 rfl 0 rfl, c_at hs20 0 rfl 2 rfl, c_at hs20 0 rfl 4 rfl, c_at hs20 0 rfl 6 rfl, c_at hs20 0 rfl 7 rfl, c_at hs20 0 rfl 9 rfl⟩ (fun hHeld => ?_)
        clear hK K
        refine norm_ (a' := ?_) ?_ ?_
        rotate_left
        · show Act.put _ (some 23) _ = _
          simp only [Act.put, List.setIfInBounds_toArray, List.set_cons_zero, List.set_cons_succ, i64_w, i32_w, IntKind.wrap_u32, IntKind.wrap_u8, IntKind.wrap_u16]
          rfl
        exact norm_ (by simp only [putAll, Act.put, List.setIfInBounds_toArray, List.set_cons_zero, List.set_cons_succ]) (hCont gn _ hs20)
    · skip
      refine box_step ?hg (N := 4) ?hd (cs := #[.int .i64 0, .int .i64 0]) (t := 52) ?hr ?_; (case hd => rfl); (case hg => rfl); (case hr => first | (go_simp; done) | (go_simp; rfl))
      intro gn hgn w4 hbox hb
      have hsAl := sl_box' (sl_drew HS.out) hb (Nat.le_of_eq hgn.symm) hbox
      refine hK.out _ _ ⟨c_at hsAl 0 rfl 0 rfl, c_at hsAl 0 rfl 2 rfl, c_at hsAl 0 rfl 4 rfl, c_at hsAl 0 rfl 6 rfl, c_at hsAl 0 rfl 7 rfl, c_at hsAl 0 rfl 9 rfl⟩ (fun hHeld => ?_)
      clear hK K
      refine norm_ (a' := ?_) ?_ ?_
      rotate_left
      · show Act.put _ (some 4) _ = _
        simp only [Act.put, List.setIfInBounds_toArray, List.set_cons_zero, List.set_cons_succ, i64_w, i32_w, IntKind.wrap_u32, IntKind.wrap_u8, IntKind.wrap_u16]
        rfl
      refine one_ (i := 10) (N := some 16) #[true, true, true, true, true, true, true, true, true, true, true, true, true, false, true, true, true, false, true, false] rfl rfl (by kernel_rfl) (by decide) (fun K hK => ?_)
      refine goes_ Tryd.func28 (by kernel_rfl) rfl #[.int .i64 ae, .bool true] (by rfl) rfl rfl (by (try simp only [List.map_toArray, List.map_cons, List.map_nil]); first | done | rfl) ?_
      with_reducible refine (HSX.out hsAl).mono ?_
      rintro e w10 ⟨rfl, hs10⟩
      refine ⟨_, rfl, ?_⟩
      refine hK.out _ _ ⟨c_at hs10 0 rfl 0 rfl, c_at hs10 0 rfl 2 rfl, c_at hs10 0 rfl 4 rfl, c_at hs10 0 rfl 6 rfl, c_at hs10 0 rfl 7 rfl, c_at hs10 0 rfl 9 rfl⟩ (fun hHeld => ?_)
      clear hK K
      refine norm_ (a' := ?_) ?_ ?_
      rotate_left
      · show Act.put _ (some 16) _ = _
        simp only [Act.put, List.setIfInBounds_toArray, List.set_cons_zero, List.set_cons_succ, i64_w, i32_w, IntKind.wrap_u32, IntKind.wrap_u8, IntKind.wrap_u16]
        rfl
      refine one_ (i := 13) (N := some 19) #[true, true, true, true, true, true, true, true, true, true, true, true, true, true, true, true, true, false, true, false] rfl rfl (by kernel_rfl) (by decide) (fun K hK => ?_)
      refine goes_ Tryd.func28 (by kernel_rfl) rfl #[.int .i64 gr, .bool true] (by rfl) rfl rfl (by (try simp only [List.map_toArray, List.map_cons, List.map_nil]); first | done | rfl) ?_
      with_reducible refine (HSU.out hs10).mono ?_
      rintro e w14 ⟨rfl, hs14⟩
      refine ⟨_, rfl, ?_⟩
      refine hK.out _ _ ⟨c_at hs14 0 rfl 0 rfl, c_at hs14 0 rfl 2 rfl, c_at hs14 0 rfl 4 rfl, c_at hs14 0 rfl 6 rfl, c_at hs14 0 rfl 7 rfl, c_at hs14 0 rfl 9 rfl⟩ (fun hHeld => ?_)
      clear hK K
      refine norm_ (a' := ?_) ?_ ?_
      rotate_left
      · show Act.put _ (some 19) _ = _
        simp only [Act.put, List.setIfInBounds_toArray, List.set_cons_zero, List.set_cons_succ, i64_w, i32_w, IntKind.wrap_u32, IntKind.wrap_u8, IntKind.wrap_u16]
        rfl
      refine one_ (i := 17) (N := some 23) #[true, true, true, true, true, true, true, true, true, true, true, true, true, true, true, true, true, true, true, false] rfl rfl (by kernel_rfl) (by decide) (fun K hK => ?_)
      refine goes_ Tryd.func35 (by kernel_rfl) rfl #[.int .i64 x0, .int .i64 x1, .int .i64 pw, .int .i64 tx, .int .i64 ux, .int .i64 ox] (by rfl) rfl rfl (by (try simp only [List.map_toArray, List.map_cons, List.map_nil]); first | done | rfl) ?_
      with_reducible refine (HPX.out hs14).mono ?_
      rintro e w20 ⟨rfl, hs20⟩
      refine ⟨_, rfl, ?_⟩
      refine hK.out _ _ ⟨c_at hs20 0 rfl 0 rfl, c_at hs20 0 rfl 2 rfl, c_at hs20 0 rfl 4 rfl, c_at hs20 0 rfl 6 rfl, c_at hs20 0 rfl 7 rfl, c_at hs20 0 rfl 9 rfl⟩ (fun hHeld => ?_)
      clear hK K
      refine norm_ (a' := ?_) ?_ ?_
      rotate_left
      · show Act.put _ (some 23) _ = _
        simp only [Act.put, List.setIfInBounds_toArray, List.set_cons_zero, List.set_cons_succ, i64_w, i32_w, IntKind.wrap_u32, IntKind.wrap_u8, IntKind.wrap_u16]
        rfl
      exact norm_ (by simp only [putAll, Act.put, List.setIfInBounds_toArray, List.set_cons_zero, List.set_cons_succ]) (hCont gn _ hs20)
  intro gn w7 hs7
  have hHeld : w7.cell? ⟨b0, 0, none⟩ = some (.int .i64 pw) ∧ w7.cell? ⟨b0, 2, none⟩ = some (.int .i64 x0) ∧ w7.cell? ⟨b0, 4, none⟩ = some (.int .i64 x1) ∧ w7.cell? ⟨b0, 6, none⟩ = some (.int .i64 ae) ∧ w7.cell? ⟨b0, 7, none⟩ = some (.int .i64 gr) ∧ w7.cell? ⟨b0, 9, none⟩ = some (.int .i64 ox) := ⟨c_at hs7 0 rfl 0 rfl, c_at hs7 0 rfl 2 rfl, c_at hs7 0 rfl 4 rfl, c_at hs7 0 rfl 6 rfl, c_at hs7 0 rfl 7 rfl, c_at hs7 0 rfl 9 rfl⟩
  have hz_ := blk_lt (sl_blk hs7 3 rfl)
  have z0 := c_at hs7 3 rfl 0 rfl
  have z1 := c_at hs7 3 rfl 1 rfl
  have zf0 := f_at hs7 3 rfl 0
  have zf1 := f_at hs7 3 rfl 1
  refine norm_ (a' := ?_) ?_ ?_
  rotate_left
  · simp only [putAll, Act.put, List.setIfInBounds_toArray, List.set_cons_zero, List.set_cons_succ]
    rfl
  refine last_ (i := 19) (N := none) #[true, true, true, true, true, true, true, true, true, true, true, true, true, true, true, true, true, true, true, true] rfl rfl (by kernel_rfl) (by decide) (fun K hK => ?_)
  refine skip_ (w1 := ?_) (by rfl) rfl ?_ ?_
  rotate_left
  · go_simp
    rfl
  refine hK.out _ _ ?_
  clear hK K
  refine done_ (by kernel_rfl) ?_
  go_upto_region 2 with (fail)
  refine world_gen (F := fun w_ => Code.wp Tryd.prog _ _ _ w_) (fun w_ => SL w w_ [cellsR b0 27 #[.int .i64 pw, .int .i64 ph, .int .i64 x0, .int .i64 y0, .int .i64 x1, .int .i64 y1, .int .i64 ae, .int .i64 gr, .int .i64 ad, .int .i64 ox, .int .i64 oy], cellsR b1 52 #[.int .i64 0, .int .i64 0], cellsR b2 52 #[.int .i64 0, .int .i64 0], cellsR gn 52 #[.int .i64 px, .int .i64 (px + pw)]]) ?hP ?_
  case hP =>
    have hs := sl_put (sl_put hs7 3 rfl 0 (Value.int .i64 px)) 3 rfl 1 (Value.int .i64 (px + pw))
    (try simp only [World.size_alloc] at hs)
    exact hs
  clear hs7 hz_ z0 z1 zf0 zf1 hHeld
  intro w8 hs
  generalize gn = n1 at hs ⊢
  replace HS := Aside0.mk hs
  clear hs
  refine start_ (n := 20) (S := fun w' => w'.cell? ⟨b0, 1, none⟩ = some (.int .i64 ph) ∧ w'.cell? ⟨b0, 3, none⟩ = some (.int .i64 y0) ∧ w'.cell? ⟨b0, 5, none⟩ = some (.int .i64 y1) ∧ w'.cell? ⟨b0, 6, none⟩ = some (.int .i64 ae) ∧ w'.cell? ⟨b0, 7, none⟩ = some (.int .i64 gr) ∧ w'.cell? ⟨b0, 10, none⟩ = some (.int .i64 oy)) (ds := [19]) #[false, false, false, false, false, false, false, false, false, false, false, false, false, false, false, false, false, false, false, false] (by kernel_rfl) rfl rfl ⟨c_at (sl_drew HS.out) 0 rfl 1 rfl, c_at (sl_drew HS.out) 0 rfl 3 rfl, c_at (sl_drew HS.out) 0 rfl 5 rfl, c_at (sl_drew HS.out) 0 rfl 6 rfl, c_at (sl_drew HS.out) 0 rfl 7 rfl, c_at (sl_drew HS.out) 0 rfl 10 rfl⟩ (fun hHeld => ?_)
  refine pure_ (i := 0) (N := some 24) (v := ?_) (a' := ?_) #[true, false, false, false, false, false, false, false, false, false, false, false, false, false, false, false, false, false, false, false] rfl rfl (by kernel_rfl) (fun _ _ _ h => h) (Or.inl ⟨by rfl, ?_⟩) ?_ ?_
  rotate_left
  · intro w'
    go_simp
    with_reducible rfl
  rotate_left
  · simp only [Act.put, List.setIfInBounds_toArray, List.set_cons_zero, List.set_cons_succ, i64_w, i32_w, IntKind.wrap_u32, IntKind.wrap_u8, IntKind.wrap_u16]
    rfl
  refine pure_ (i := 1) (N := some 25) (v := ?_) (a' := ?_) #[true, true, false, false, false, false, false, false, false, false, false, false, false, false, false, false, false, false, false, false] rfl rfl (by kernel_rfl) (fun _ _ _ h => h) (Or.inl ⟨by rfl, ?_⟩) ?_ ?_
  rotate_left
  · intro w'
    go_simp
    with_reducible rfl
  rotate_left
  · simp only [Act.put, List.setIfInBounds_toArray, List.set_cons_zero, List.set_cons_succ, i64_w, i32_w, IntKind.wrap_u32, IntKind.wrap_u8, IntKind.wrap_u16]
    rfl
  refine pure_ (i := 3) (N := some 27) (v := ?_) (a' := ?_) #[true, true, false, true, false, false, false, false, false, false, false, false, false, false, false, false, false, false, false, false] rfl rfl (by kernel_rfl) (fun _ _ _ h => h) (Or.inl ⟨by rfl, ?_⟩) ?_ ?_
  rotate_left
  · intro w'
    go_simp
    with_reducible rfl
  rotate_left
  · simp only [Act.put, List.setIfInBounds_toArray, List.set_cons_zero, List.set_cons_succ, i64_w, i32_w, IntKind.wrap_u32, IntKind.wrap_u8, IntKind.wrap_u16]
    rfl
  refine pure_ (i := 4) (N := some 28) (v := ?_) (a' := ?_) #[true, true, false, true, true, false, false, false, false, false, false, false, false, false, false, false, false, false, false, false] rfl rfl (by kernel_rfl) (fun _ _ _ h => h) (Or.inl ⟨by rfl, ?_⟩) ?_ ?_
  rotate_left
  · intro w'
    go_simp
    with_reducible rfl
  rotate_left
  · simp only [Act.put, List.setIfInBounds_toArray, List.set_cons_zero, List.set_cons_succ, i64_w, i32_w, IntKind.wrap_u32, IntKind.wrap_u8, IntKind.wrap_u16]
    rfl
  refine pure_ (i := 6) (N := some 30) (v := ?_) (a' := ?_) #[true, true, false, true, true, false, true, false, false, false, false, false, false, false, false, false, false, false, false, false] rfl rfl (by kernel_rfl) (fun _ _ _ h => h) (Or.inl ⟨by rfl, ?_⟩) ?_ ?_
  rotate_left
  · intro w'
    go_simp
    with_reducible rfl
  rotate_left
  · simp only [Act.put, List.setIfInBounds_toArray, List.set_cons_zero, List.set_cons_succ, i64_w, i32_w, IntKind.wrap_u32, IntKind.wrap_u8, IntKind.wrap_u16]
    rfl
  refine pure_ (i := 8) (N := some 32) (v := ?_) (a' := ?_) #[true, true, false, true, true, false, true, false, true, false, false, false, false, false, false, false, false, false, false, false] rfl rfl (by kernel_rfl) (fun _ _ _ h => h) (Or.inl ⟨by rfl, ?_⟩) ?_ ?_
  rotate_left
  · intro w'
    go_simp
    with_reducible rfl
  rotate_left
  · simp only [Act.put, List.setIfInBounds_toArray, List.set_cons_zero, List.set_cons_succ, i64_w, i32_w, IntKind.wrap_u32, IntKind.wrap_u8, IntKind.wrap_u16]
    rfl
  refine pure_ (i := 11) (N := some 35) (v := ?_) (a' := ?_) #[true, true, false, true, true, false, true, false, true, false, false, true, false, false, false, false, false, false, false, false] rfl rfl (by kernel_rfl) (fun _ _ _ h => h) (Or.inl ⟨by rfl, ?_⟩) ?_ ?_
  rotate_left
  · intro w'
    go_simp
    with_reducible rfl
  rotate_left
  · simp only [Act.put, List.setIfInBounds_toArray, List.set_cons_zero, List.set_cons_succ, i64_w, i32_w, IntKind.wrap_u32, IntKind.wrap_u8, IntKind.wrap_u16]
    rfl
  refine pure_ (i := 14) (N := some 38) (v := ?_) (a' := ?_) #[true, true, false, true, true, false, true, false, true, false, false, true, false, false, true, false, false, false, false, false] rfl rfl (by kernel_rfl) (fun _ _ _ h => h) (Or.inl ⟨by rfl, ?_⟩) ?_ ?_
  rotate_left
  · intro w'
    go_simp
    with_reducible rfl
  rotate_left
  · simp only [Act.put, List.setIfInBounds_toArray, List.set_cons_zero, List.set_cons_succ, i64_w, i32_w, IntKind.wrap_u32, IntKind.wrap_u8, IntKind.wrap_u16]
    rfl
  refine pure_ (i := 15) (N := some 39) (v := ?_) (a' := ?_) #[true, true, false, true, true, false, true, false, true, false, false, true, false, false, true, true, false, false, false, false] rfl rfl (by kernel_rfl) (fun _ _ _ h => h) (Or.inl ⟨by rfl, ?_⟩) ?_ ?_
  rotate_left
  · intro w'
    go_simp
    with_reducible rfl
  rotate_left
  · simp only [Act.put, List.setIfInBounds_toArray, List.set_cons_zero, List.set_cons_succ, i64_w, i32_w, IntKind.wrap_u32, IntKind.wrap_u8, IntKind.wrap_u16]
    rfl
  refine take_ (i := 2) (N := some 26) (v := ?_) (a' := ?_) #[true, true, true, true, true, false, true, false, true, false, false, true, false, false, true, true, false, false, false, false] rfl rfl (by kernel_rfl) (fun _ _ _ h => h) (Or.inl ⟨by rfl, ?_⟩) hHeld ?_ ?_
  rotate_left
  · rintro w' ⟨s0, s1, s2, s3, s4, s5⟩
    go_simp
    with_reducible rfl
  rotate_left
  · simp only [Act.put, List.setIfInBounds_toArray, List.set_cons_zero, List.set_cons_succ, i64_w, i32_w, IntKind.wrap_u32, IntKind.wrap_u8, IntKind.wrap_u16]
    rfl
  refine take_ (i := 5) (N := some 29) (v := ?_) (a' := ?_) #[true, true, true, true, true, true, true, false, true, false, false, true, false, false, true, true, false, false, false, false] rfl rfl (by kernel_rfl) (fun _ _ _ h => h) (Or.inl ⟨by rfl, ?_⟩) hHeld ?_ ?_
  rotate_left
  · rintro w' ⟨s0, s1, s2, s3, s4, s5⟩
    go_simp
    with_reducible rfl
  rotate_left
  · simp only [Act.put, List.setIfInBounds_toArray, List.set_cons_zero, List.set_cons_succ, i64_w, i32_w, IntKind.wrap_u32, IntKind.wrap_u8, IntKind.wrap_u16]
    rfl
  refine take_ (i := 7) (N := some 31) (v := ?_) (a' := ?_) #[true, true, true, true, true, true, true, true, true, false, false, true, false, false, true, true, false, false, false, false] rfl rfl (by kernel_rfl) (fun _ _ _ h => h) (Or.inl ⟨by rfl, ?_⟩) hHeld ?_ ?_
  rotate_left
  · rintro w' ⟨s0, s1, s2, s3, s4, s5⟩
    go_simp
    with_reducible rfl
  rotate_left
  · simp only [Act.put, List.setIfInBounds_toArray, List.set_cons_zero, List.set_cons_succ, i64_w, i32_w, IntKind.wrap_u32, IntKind.wrap_u8, IntKind.wrap_u16]
    rfl
  refine take_ (i := 9) (N := some 33) (v := ?_) (a' := ?_) #[true, true, true, true, true, true, true, true, true, true, false, true, false, false, true, true, false, false, false, false] rfl rfl (by kernel_rfl) (fun _ _ _ h => h) (Or.inl ⟨by rfl, ?_⟩) hHeld ?_ ?_
  rotate_left
  · rintro w' ⟨s0, s1, s2, s3, s4, s5⟩
    go_simp
    with_reducible rfl
  rotate_left
  · simp only [Act.put, List.setIfInBounds_toArray, List.set_cons_zero, List.set_cons_succ, i64_w, i32_w, IntKind.wrap_u32, IntKind.wrap_u8, IntKind.wrap_u16]
    rfl
  refine take_ (i := 12) (N := some 36) (v := ?_) (a' := ?_) #[true, true, true, true, true, true, true, true, true, true, false, true, true, false, true, true, false, false, false, false] rfl rfl (by kernel_rfl) (fun _ _ _ h => h) (Or.inl ⟨by rfl, ?_⟩) hHeld ?_ ?_
  rotate_left
  · rintro w' ⟨s0, s1, s2, s3, s4, s5⟩
    go_simp
    with_reducible rfl
  rotate_left
  · simp only [Act.put, List.setIfInBounds_toArray, List.set_cons_zero, List.set_cons_succ, i64_w, i32_w, IntKind.wrap_u32, IntKind.wrap_u8, IntKind.wrap_u16]
    rfl
  refine take_ (i := 16) (N := some 40) (v := ?_) (a' := ?_) #[true, true, true, true, true, true, true, true, true, true, false, true, true, false, true, true, true, false, false, false] rfl rfl (by kernel_rfl) (fun _ _ _ h => h) (Or.inl ⟨by rfl, ?_⟩) hHeld ?_ ?_
  rotate_left
  · rintro w' ⟨s0, s1, s2, s3, s4, s5⟩
    go_simp
    with_reducible rfl
  rotate_left
  · simp only [Act.put, List.setIfInBounds_toArray, List.set_cons_zero, List.set_cons_succ, i64_w, i32_w, IntKind.wrap_u32, IntKind.wrap_u8, IntKind.wrap_u16]
    rfl
  refine join_ (σ := Nat) 1 #[true, true, true, true, true, true, true, true, true, true, true, true, true, true, true, true, true, true, true, false] (fun s_ => [(34, (Value.int .i64 ty)), (37, (Value.int .i64 uy)), (41, (Value.agg #[.int .i64 py, .int .i64 (py + ph)])), (5, (Value.pointer (some ⟨s_, 0, none⟩)))]) (fun s_ w' => SL w w' [cellsR b0 27 #[.int .i64 pw, .int .i64 ph, .int .i64 x0, .int .i64 y0, .int .i64 x1, .int .i64 y1, .int .i64 ae, .int .i64 gr, .int .i64 ad, .int .i64 ox, .int .i64 oy], cellsR b1 52 #[.int .i64 0, .int .i64 0], cellsR b2 52 #[.int .i64 0, .int .i64 0], cellsR n1 52 #[.int .i64 px, .int .i64 (px + pw)], cellsR s_ 52 #[.int .i64 0, .int .i64 0]]) ?_ ?_
  rotate_left
  · intro hCont
    refine two_ (i := 10) (j := 18) (Ni := some 34) (Nj := some 5) #[true, true, true, true, true, true, true, true, true, true, true, true, true, false, true, true, true, false, false, false] #[true, true, true, true, true, true, true, true, true, true, false, true, true, false, true, true, true, false, true, false] rfl rfl rfl rfl (by kernel_rfl) (by decide) (by decide) (fun K hK => ?_) (fun K hK => ?_)
    · skip
      refine goes_ Tryd.func28 (by kernel_rfl) rfl #[.int .i64 ae, .bool false] (by rfl) rfl rfl (by (try simp only [List.map_toArray, List.map_cons, List.map_nil]); first | done | rfl) ?_
      with_reducible refine (HSY.out (sl_drew HS.out)).mono ?_
      rintro e w10 ⟨rfl, hs10⟩
      refine ⟨_, rfl, ?_⟩
      refine hK.out _ _ ⟨c_at hs10 0 rfl 1 rfl, c_at hs10 0 rfl 3 rfl, c_at hs10 0 rfl 5 rfl, c_at hs10 0 rfl 6 rfl, c_at hs10 0 rfl 7 rfl, c_at hs10 0 rfl 10 rfl⟩ (fun hHeld => ?_)
      clear hK K
      refine norm_ (a' := ?_) ?_ ?_
      rotate_left
      · show Act.put _ (some 34) _ = _
        simp only [Act.put, List.setIfInBounds_toArray, List.set_cons_zero, List.set_cons_succ, i64_w, i32_w, IntKind.wrap_u32, IntKind.wrap_u8, IntKind.wrap_u16]
        rfl
      refine two_ (i := 13) (j := 18) (Ni := some 37) (Nj := some 5) #[true, true, true, true, true, true, true, true, true, true, true, true, true, true, true, true, true, false, false, false] #[true, true, true, true, true, true, true, true, true, true, true, true, true, false, true, true, true, false, true, false] rfl rfl rfl rfl (by kernel_rfl) (by decide) (by decide) (fun K hK => ?_) (fun K hK => ?_)
      · skip
        refine goes_ Tryd.func28 (by kernel_rfl) rfl #[.int .i64 gr, .bool false] (by rfl) rfl rfl (by (try simp only [List.map_toArray, List.map_cons, List.map_nil]); first | done | rfl) ?_
        with_reducible refine (HSV.out hs10).mono ?_
        rintro e w14 ⟨rfl, hs14⟩
        refine ⟨_, rfl, ?_⟩
        refine hK.out _ _ ⟨c_at hs14 0 rfl 1 rfl, c_at hs14 0 rfl 3 rfl, c_at hs14 0 rfl 5 rfl, c_at hs14 0 rfl 6 rfl, c_at hs14 0 rfl 7 rfl, c_at hs14 0 rfl 10 rfl⟩ (fun hHeld => ?_)
        clear hK K
        refine norm_ (a' := ?_) ?_ ?_
        rotate_left
        · show Act.put _ (some 37) _ = _
          simp only [Act.put, List.setIfInBounds_toArray, List.set_cons_zero, List.set_cons_succ, i64_w, i32_w, IntKind.wrap_u32, IntKind.wrap_u8, IntKind.wrap_u16]
          rfl
        refine two_ (i := 17) (j := 18) (Ni := some 41) (Nj := some 5) #[true, true, true, true, true, true, true, true, true, true, true, true, true, true, true, true, true, true, false, false] #[true, true, true, true, true, true, true, true, true, true, true, true, true, true, true, true, true, false, true, false] rfl rfl rfl rfl (by kernel_rfl) (by decide) (by decide) (fun K hK => ?_) (fun K hK => ?_)
        · skip
          refine goes_ Tryd.func35 (by kernel_rfl) rfl #[.int .i64 y0, .int .i64 y1, .int .i64 ph, .int .i64 ty, .int .i64 uy, .int .i64 oy] (by rfl) rfl rfl (by (try simp only [List.map_toArray, List.map_cons, List.map_nil]); first | done | rfl) ?_
          with_reducible refine (HPY.out hs14).mono ?_
          rintro e w20 ⟨rfl, hs20⟩
          refine ⟨_, rfl, ?_⟩
          refine hK.out _ _ ⟨c_at hs20 0 rfl 1 rfl, c_at hs20 0 rfl 3 rfl, c_at hs20 0 rfl 5 rfl, c_at hs20 0 rfl 6 rfl, c_at hs20 0 rfl 7 rfl, c_at hs20 0 rfl 10 rfl⟩ (fun hHeld => ?_)
          clear hK K
          refine norm_ (a' := ?_) ?_ ?_
          rotate_left
          · show Act.put _ (some 41) _ = _
            simp only [Act.put, List.setIfInBounds_toArray, List.set_cons_zero, List.set_cons_succ, i64_w, i32_w, IntKind.wrap_u32, IntKind.wrap_u8, IntKind.wrap_u16]
            rfl
          refine one_ (i := 18) (N := some 5) #[true, true, true, true, true, true, true, true, true, true, true, true, true, true, true, true, true, true, true, false] rfl rfl (by kernel_rfl) (by decide) (fun K hK => ?_)
          refine box_step ?hg (N := 5) ?hd (cs := #[.int .i64 0, .int .i64 0]) (t := 52) ?hr ?_; (case hd => rfl); (case hg => rfl); (case hr => first | (go_simp; done) | (go_simp; rfl))
          intro gn hgn w4 hbox hb
          have hsAl := sl_box' hs20 hb (Nat.le_of_eq hgn.symm) hbox
          refine hK.out _ _ ⟨c_at hsAl 0 rfl 1 rfl, c_at hsAl 0 rfl 3 rfl, c_at hsAl 0 rfl 5 rfl, c_at hsAl 0 rfl 6 rfl, c_at hsAl 0 rfl 7 rfl, c_at hsAl 0 rfl 10 rfl⟩ (fun hHeld => ?_)
          clear hK K
          refine norm_ (a' := ?_) ?_ ?_
          rotate_left
          · show Act.put _ (some 5) _ = _
            simp only [Act.put, List.setIfInBounds_toArray, List.set_cons_zero, List.set_cons_succ, i64_w, i32_w, IntKind.wrap_u32, IntKind.wrap_u8, IntKind.wrap_u16]
            rfl
          exact norm_ (by simp only [putAll, Act.put, List.setIfInBounds_toArray, List.set_cons_zero, List.set_cons_succ]) (hCont gn _ hsAl)
        · skip
          refine box_step ?hg (N := 5) ?hd (cs := #[.int .i64 0, .int .i64 0]) (t := 52) ?hr ?_; (case hd => rfl); (case hg => rfl); (case hr => first | (go_simp; done) | (go_simp; rfl))
          intro gn hgn w4 hbox hb
          have hsAl := sl_box' hs14 hb (Nat.le_of_eq hgn.symm) hbox
          refine hK.out _ _ ⟨c_at hsAl 0 rfl 1 rfl, c_at hsAl 0 rfl 3 rfl, c_at hsAl 0 rfl 5 rfl, c_at hsAl 0 rfl 6 rfl, c_at hsAl 0 rfl 7 rfl, c_at hsAl 0 rfl 10 rfl⟩ (fun hHeld => ?_)
          clear hK K
          refine norm_ (a' := ?_) ?_ ?_
          rotate_left
          · show Act.put _ (some 5) _ = _
            simp only [Act.put, List.setIfInBounds_toArray, List.set_cons_zero, List.set_cons_succ, i64_w, i32_w, IntKind.wrap_u32, IntKind.wrap_u8, IntKind.wrap_u16]
            rfl
          refine one_ (i := 17) (N := some 41) #[true, true, true, true, true, true, true, true, true, true, true, true, true, true, true, true, true, true, true, false] rfl rfl (by kernel_rfl) (by decide) (fun K hK => ?_)
          refine goes_ Tryd.func35 (by kernel_rfl) rfl #[.int .i64 y0, .int .i64 y1, .int .i64 ph, .int .i64 ty, .int .i64 uy, .int .i64 oy] (by rfl) rfl rfl (by (try simp only [List.map_toArray, List.map_cons, List.map_nil]); first | done | rfl) ?_
          with_reducible refine (HPY.out hsAl).mono ?_
          rintro e w20 ⟨rfl, hs20⟩
          refine ⟨_, rfl, ?_⟩
          refine hK.out _ _ ⟨c_at hs20 0 rfl 1 rfl, c_at hs20 0 rfl 3 rfl, c_at hs20 0 rfl 5 rfl, c_at hs20 0 rfl 6 rfl, c_at hs20 0 rfl 7 rfl, c_at hs20 0 rfl 10 rfl⟩ (fun hHeld => ?_)
          clear hK K
          refine norm_ (a' := ?_) ?_ ?_
          rotate_left
          · show Act.put _ (some 41) _ = _
            simp only [Act.put, List.setIfInBounds_toArray, List.set_cons_zero, List.set_cons_succ, i64_w, i32_w, IntKind.wrap_u32, IntKind.wrap_u8, IntKind.wrap_u16]
            rfl
          exact norm_ (by simp only [putAll, Act.put, List.setIfInBounds_toArray, List.set_cons_zero, List.set_cons_succ]) (hCont gn _ hs20)
      · skip
        refine box_step ?hg (N := 5) ?hd (cs := #[.int .i64 0, .int .i64 0]) (t := 52) ?hr ?_; (case hd => rfl); (case hg => rfl); (case hr => first | (go_simp; done) | (go_simp; rfl))
        intro gn hgn w4 hbox hb
        have hsAl := sl_box' hs10 hb (Nat.le_of_eq hgn.symm) hbox
        refine hK.out _ _ ⟨c_at hsAl 0 rfl 1 rfl, c_at hsAl 0 rfl 3 rfl, c_at hsAl 0 rfl 5 rfl, c_at hsAl 0 rfl 6 rfl, c_at hsAl 0 rfl 7 rfl, c_at hsAl 0 rfl 10 rfl⟩ (fun hHeld => ?_)
        clear hK K
        refine norm_ (a' := ?_) ?_ ?_
        rotate_left
        · show Act.put _ (some 5) _ = _
          simp only [Act.put, List.setIfInBounds_toArray, List.set_cons_zero, List.set_cons_succ, i64_w, i32_w, IntKind.wrap_u32, IntKind.wrap_u8, IntKind.wrap_u16]
          rfl
        refine one_ (i := 13) (N := some 37) #[true, true, true, true, true, true, true, true, true, true, true, true, true, true, true, true, true, false, true, false] rfl rfl (by kernel_rfl) (by decide) (fun K hK => ?_)
        refine goes_ Tryd.func28 (by kernel_rfl) rfl #[.int .i64 gr, .bool false] (by rfl) rfl rfl (by (try simp only [List.map_toArray, List.map_cons, List.map_nil]); first | done | rfl) ?_
        with_reducible refine (HSV.out hsAl).mono ?_
        rintro e w14 ⟨rfl, hs14⟩
        refine ⟨_, rfl, ?_⟩
        refine hK.out _ _ ⟨c_at hs14 0 rfl 1 rfl, c_at hs14 0 rfl 3 rfl, c_at hs14 0 rfl 5 rfl, c_at hs14 0 rfl 6 rfl, c_at hs14 0 rfl 7 rfl, c_at hs14 0 rfl 10 rfl⟩ (fun hHeld => ?_)
        clear hK K
        refine norm_ (a' := ?_) ?_ ?_
        rotate_left
        · show Act.put _ (some 37) _ = _
          simp only [Act.put, List.setIfInBounds_toArray, List.set_cons_zero, List.set_cons_succ, i64_w, i32_w, IntKind.wrap_u32, IntKind.wrap_u8, IntKind.wrap_u16]
          rfl
        refine one_ (i := 17) (N := some 41) #[true, true, true, true, true, true, true, true, true, true, true, true, true, true, true, true, true, true, true, false] rfl rfl (by kernel_rfl) (by decide) (fun K hK => ?_)
        refine goes_ Tryd.func35 (by kernel_rfl) rfl #[.int .i64 y0, .int .i64 y1, .int .i64 ph, .int .i64 ty, .int .i64 uy, .int .i64 oy] (by rfl) rfl rfl (by (try simp only [List.map_toArray, List.map_cons, List.map_nil]); first | done | rfl) ?_
        with_reducible refine (HPY.out hs14).mono ?_
        rintro e w20 ⟨rfl, hs20⟩
        refine ⟨_, rfl, ?_⟩
        refine hK.out _ _ ⟨c_at hs20 0 rfl 1 rfl, c_at hs20 0 rfl 3 rfl, c_at hs20 0 rfl 5 rfl, c_at hs20 0 rfl 6 rfl, c_at hs20 0 rfl 7 rfl, c_at hs20 0 rfl 10 rfl⟩ (fun hHeld => ?_)
        clear hK K
        refine norm_ (a' := ?_) ?_ ?_
        rotate_left
        · show Act.put _ (some 41) _ = _
          simp only [Act.put, List.setIfInBounds_toArray, List.set_cons_zero, List.set_cons_succ, i64_w, i32_w, IntKind.wrap_u32, IntKind.wrap_u8, IntKind.wrap_u16]
          rfl
        exact norm_ (by simp only [putAll, Act.put, List.setIfInBounds_toArray, List.set_cons_zero, List.set_cons_succ]) (hCont gn _ hs20)
    · skip
      refine box_step ?hg (N := 5) ?hd (cs := #[.int .i64 0, .int .i64 0]) (t := 52) ?hr ?_; (case hd => rfl); (case hg => rfl); (case hr => first | (go_simp; done) | (go_simp; rfl))
      intro gn hgn w4 hbox hb
      have hsAl := sl_box' (sl_drew HS.out) hb (Nat.le_of_eq hgn.symm) hbox
      refine hK.out _ _ ⟨c_at hsAl 0 rfl 1 rfl, c_at hsAl 0 rfl 3 rfl, c_at hsAl 0 rfl 5 rfl, c_at hsAl 0 rfl 6 rfl, c_at hsAl 0 rfl 7 rfl, c_at hsAl 0 rfl 10 rfl⟩ (fun hHeld => ?_)
      clear hK K
      refine norm_ (a' := ?_) ?_ ?_
      rotate_left
      · show Act.put _ (some 5) _ = _
        simp only [Act.put, List.setIfInBounds_toArray, List.set_cons_zero, List.set_cons_succ, i64_w, i32_w, IntKind.wrap_u32, IntKind.wrap_u8, IntKind.wrap_u16]
        rfl
      refine one_ (i := 10) (N := some 34) #[true, true, true, true, true, true, true, true, true, true, true, true, true, false, true, true, true, false, true, false] rfl rfl (by kernel_rfl) (by decide) (fun K hK => ?_)
      refine goes_ Tryd.func28 (by kernel_rfl) rfl #[.int .i64 ae, .bool false] (by rfl) rfl rfl (by (try simp only [List.map_toArray, List.map_cons, List.map_nil]); first | done | rfl) ?_
      with_reducible refine (HSY.out hsAl).mono ?_
      rintro e w10 ⟨rfl, hs10⟩
      refine ⟨_, rfl, ?_⟩
      refine hK.out _ _ ⟨c_at hs10 0 rfl 1 rfl, c_at hs10 0 rfl 3 rfl, c_at hs10 0 rfl 5 rfl, c_at hs10 0 rfl 6 rfl, c_at hs10 0 rfl 7 rfl, c_at hs10 0 rfl 10 rfl⟩ (fun hHeld => ?_)
      clear hK K
      refine norm_ (a' := ?_) ?_ ?_
      rotate_left
      · show Act.put _ (some 34) _ = _
        simp only [Act.put, List.setIfInBounds_toArray, List.set_cons_zero, List.set_cons_succ, i64_w, i32_w, IntKind.wrap_u32, IntKind.wrap_u8, IntKind.wrap_u16]
        rfl
      refine one_ (i := 13) (N := some 37) #[true, true, true, true, true, true, true, true, true, true, true, true, true, true, true, true, true, false, true, false] rfl rfl (by kernel_rfl) (by decide) (fun K hK => ?_)
      refine goes_ Tryd.func28 (by kernel_rfl) rfl #[.int .i64 gr, .bool false] (by rfl) rfl rfl (by (try simp only [List.map_toArray, List.map_cons, List.map_nil]); first | done | rfl) ?_
      with_reducible refine (HSV.out hs10).mono ?_
      rintro e w14 ⟨rfl, hs14⟩
      refine ⟨_, rfl, ?_⟩
      refine hK.out _ _ ⟨c_at hs14 0 rfl 1 rfl, c_at hs14 0 rfl 3 rfl, c_at hs14 0 rfl 5 rfl, c_at hs14 0 rfl 6 rfl, c_at hs14 0 rfl 7 rfl, c_at hs14 0 rfl 10 rfl⟩ (fun hHeld => ?_)
      clear hK K
      refine norm_ (a' := ?_) ?_ ?_
      rotate_left
      · show Act.put _ (some 37) _ = _
        simp only [Act.put, List.setIfInBounds_toArray, List.set_cons_zero, List.set_cons_succ, i64_w, i32_w, IntKind.wrap_u32, IntKind.wrap_u8, IntKind.wrap_u16]
        rfl
      refine one_ (i := 17) (N := some 41) #[true, true, true, true, true, true, true, true, true, true, true, true, true, true, true, true, true, true, true, false] rfl rfl (by kernel_rfl) (by decide) (fun K hK => ?_)
      refine goes_ Tryd.func35 (by kernel_rfl) rfl #[.int .i64 y0, .int .i64 y1, .int .i64 ph, .int .i64 ty, .int .i64 uy, .int .i64 oy] (by rfl) rfl rfl (by (try simp only [List.map_toArray, List.map_cons, List.map_nil]); first | done | rfl) ?_
      with_reducible refine (HPY.out hs14).mono ?_
      rintro e w20 ⟨rfl, hs20⟩
      refine ⟨_, rfl, ?_⟩
      refine hK.out _ _ ⟨c_at hs20 0 rfl 1 rfl, c_at hs20 0 rfl 3 rfl, c_at hs20 0 rfl 5 rfl, c_at hs20 0 rfl 6 rfl, c_at hs20 0 rfl 7 rfl, c_at hs20 0 rfl 10 rfl⟩ (fun hHeld => ?_)
      clear hK K
      refine norm_ (a' := ?_) ?_ ?_
      rotate_left
      · show Act.put _ (some 41) _ = _
        simp only [Act.put, List.setIfInBounds_toArray, List.set_cons_zero, List.set_cons_succ, i64_w, i32_w, IntKind.wrap_u32, IntKind.wrap_u8, IntKind.wrap_u16]
        rfl
      exact norm_ (by simp only [putAll, Act.put, List.setIfInBounds_toArray, List.set_cons_zero, List.set_cons_succ]) (hCont gn _ hs20)
  intro gn w7 hs7
  have hHeld : w7.cell? ⟨b0, 1, none⟩ = some (.int .i64 ph) ∧ w7.cell? ⟨b0, 3, none⟩ = some (.int .i64 y0) ∧ w7.cell? ⟨b0, 5, none⟩ = some (.int .i64 y1) ∧ w7.cell? ⟨b0, 6, none⟩ = some (.int .i64 ae) ∧ w7.cell? ⟨b0, 7, none⟩ = some (.int .i64 gr) ∧ w7.cell? ⟨b0, 10, none⟩ = some (.int .i64 oy) := ⟨c_at hs7 0 rfl 1 rfl, c_at hs7 0 rfl 3 rfl, c_at hs7 0 rfl 5 rfl, c_at hs7 0 rfl 6 rfl, c_at hs7 0 rfl 7 rfl, c_at hs7 0 rfl 10 rfl⟩
  have hz_ := blk_lt (sl_blk hs7 4 rfl)
  have z0 := c_at hs7 4 rfl 0 rfl
  have z1 := c_at hs7 4 rfl 1 rfl
  have zf0 := f_at hs7 4 rfl 0
  have zf1 := f_at hs7 4 rfl 1
  refine norm_ (a' := ?_) ?_ ?_
  rotate_left
  · simp only [putAll, Act.put, List.setIfInBounds_toArray, List.set_cons_zero, List.set_cons_succ]
    rfl
  refine last_ (i := 19) (N := none) #[true, true, true, true, true, true, true, true, true, true, true, true, true, true, true, true, true, true, true, true] rfl rfl (by kernel_rfl) (by decide) (fun K hK => ?_)
  refine skip_ (w1 := ?_) (by rfl) rfl ?_ ?_
  rotate_left
  · go_simp
    rfl
  refine hK.out _ _ ?_
  clear hK K
  refine done_ (by kernel_rfl) ?_
  go_upto_region 3 with (fail)
  refine world_gen (F := fun w_ => Code.wp Tryd.prog _ _ _ w_) (fun w_ => SL w w_ [cellsR b0 27 #[.int .i64 pw, .int .i64 ph, .int .i64 x0, .int .i64 y0, .int .i64 x1, .int .i64 y1, .int .i64 ae, .int .i64 gr, .int .i64 ad, .int .i64 ox, .int .i64 oy], cellsR b1 52 #[.int .i64 0, .int .i64 0], cellsR b2 52 #[.int .i64 0, .int .i64 0], cellsR n1 52 #[.int .i64 px, .int .i64 (px + pw)], cellsR gn 52 #[.int .i64 py, .int .i64 (py + ph)]]) ?hP ?_
  case hP =>
    have hs := sl_put (sl_put hs7 4 rfl 0 (Value.int .i64 py)) 4 rfl 1 (Value.int .i64 (py + ph))
    (try simp only [World.size_alloc] at hs)
    exact hs
  clear hs7 hz_ z0 z1 zf0 zf1 hHeld
  intro w9 hs
  generalize gn = n2 at hs ⊢
  replace HS := Aside0.mk hs
  clear hs
  have N1 := Aside0.mk (sl_ne HS.out 3 1 (by decide) rfl rfl)
  have N2 := Aside0.mk (sl_ne HS.out 4 1 (by decide) rfl rfl)
  have hi52 : (Tryd.prog.info? 52).map (·.size) = some 2 := by kernel_rfl
  refine start_ (n := 4) (S := fun w' => w'.cell? ⟨n1, 0, none⟩ = some (.int .i64 px) ∧ w'.cell? ⟨n1, 1, none⟩ = some (.int .i64 (px + pw)) ∧ w'.cell? ⟨n2, 0, none⟩ = some (.int .i64 py) ∧ w'.cell? ⟨n2, 1, none⟩ = some (.int .i64 (py + ph))) (ds := [3]) #[false, false, false, false] (by kernel_rfl) rfl rfl ⟨c_at (sl_drew HS.out) 3 rfl 0 rfl, c_at (sl_drew HS.out) 3 rfl 1 rfl, c_at (sl_drew HS.out) 4 rfl 0 rfl, c_at (sl_drew HS.out) 4 rfl 1 rfl⟩ (fun hHeld => ?_)
  refine take_ (i := 0) (N := some 42) (v := ?_) (a' := ?_) #[true, false, false, false] rfl rfl (by kernel_rfl) (fun _ _ _ h => h) (Or.inl ⟨by rfl, ?_⟩) hHeld ?_ ?_
  rotate_left
  · rintro w' ⟨s0, s1, s2, s3⟩
    go_simp
    with_reducible rfl
  rotate_left
  · simp only [Act.put, List.setIfInBounds_toArray, List.set_cons_zero, List.set_cons_succ, i64_w, i32_w, IntKind.wrap_u32, IntKind.wrap_u8, IntKind.wrap_u16]
    rfl
  refine take_ (i := 1) (N := some 43) (v := ?_) (a' := ?_) #[true, true, false, false] rfl rfl (by kernel_rfl) (fun _ _ _ h => h) (Or.inl ⟨by rfl, ?_⟩) hHeld ?_ ?_
  rotate_left
  · rintro w' ⟨s0, s1, s2, s3⟩
    go_simp
    with_reducible rfl
  rotate_left
  · simp only [Act.put, List.setIfInBounds_toArray, List.set_cons_zero, List.set_cons_succ, i64_w, i32_w, IntKind.wrap_u32, IntKind.wrap_u8, IntKind.wrap_u16]
    rfl
  refine one_ (i := 2) (N := none) #[true, true, true, false] rfl rfl (by kernel_rfl) (by decide) (fun K hK => ?_)
  rw [if_pos (by rfl)]
  refine wp_store_row 52 _ _ rfl b1 #[.int .i64 px, .int .i64 (px + pw)] rfl rfl 52 #[.int .i64 0, .int .i64 0] (sl_blk (sl_drew HS.out) 1 rfl) hi52 rfl (by simp [Value.oneCell']) ?_
  refine hK.out _ _ ⟨cell_row N1.out _ (hHeld.1), cell_row N1.out _ (hHeld.2.1), cell_row N2.out _ (hHeld.2.2.1), cell_row N2.out _ (hHeld.2.2.2)⟩ (fun hHeld => ?_)
  clear hK K
  refine last_ (i := 3) (N := none) #[true, true, true, true] rfl rfl (by kernel_rfl) (by decide) (fun K hK => ?_)
  rw [if_pos (by rfl)]
  refine wp_store_row 52 _ _ rfl b2 #[.int .i64 py, .int .i64 (py + ph)] rfl rfl 52 #[.int .i64 0, .int .i64 0] (sl_blk (sl_row (sl_drew HS.out) 1 rfl #[.int .i64 px, .int .i64 (px + pw)]) 2 rfl) hi52 rfl (by simp [Value.oneCell']) ?_
  refine hK.out _ _ ?_
  clear hK K
  refine done_ (by kernel_rfl) ?_
  have hfin : SL w _ [cellsR b0 27 #[.int .i64 pw, .int .i64 ph, .int .i64 x0, .int .i64 y0, .int .i64 x1, .int .i64 y1, .int .i64 ae, .int .i64 gr, .int .i64 ad, .int .i64 ox, .int .i64 oy], cellsR b1 52 #[.int .i64 px, .int .i64 (px + pw)], cellsR b2 52 #[.int .i64 py, .int .i64 (py + ph)], cellsR n1 52 #[.int .i64 px, .int .i64 (px + pw)], cellsR n2 52 #[.int .i64 py, .int .i64 (py + ph)]] := sl_row (sl_row (sl_drew HS.out) 1 rfl #[.int .i64 px, .int .i64 (px + pw)]) 2 rfl #[.int .i64 py, .int .i64 (py + ph)]
  go_wp2
  refine bodyPost_ret (results_cc rfl _ _ b1 b2 52 52 #[.int .i64 px, .int .i64 (px + pw)] #[.int .i64 py, .int .i64 (py + ph)] (0, 0) (0, 0) _ _ (by rfl) (by exact sl_blk hfin 1 rfl) (by exact Tryd.underlying52) (by rfl) (by exact hi52) (by rfl) (by exact sl_blk hfin 2 rfl) (by exact Tryd.underlying52) (by rfl) (by exact hi52)) rfl ?_
  exact ⟨rfl, sl_below H.out (sl_below0 hfin)⟩
set_option maxHeartbeats 4000000 in
set_option maxRecDepth 100000 in
theorem PlaceR_no (h : SL w0 w L) (p : Pos) (hc : chk p ≠ 0) : Calls Tryd.prog 17 #[.agg #[.int .i64 p.w, .int .i64 p.h, .int .i64 p.x0, .int .i64 p.y0, .int .i64 p.x1, .int .i64 p.y1, .int .i64 p.ae, .int .i64 p.gr, .int .i64 p.ad, .int .i64 p.ox, .int .i64 p.oy]] w fun e w' => e = .returned (.tuple #[.agg #[.int .i64 0, .int .i64 0, .int .i64 0, .int .i64 0], .int .i64 (chk p)]) ∧ SL w0 w' L := by
  obtain ⟨c, ec⟩ : ∃ c, chk p = c := ⟨_, rfl⟩
  have HC := Aside0.mk (show ∀ {w' : World} {M : List Res}, SL w w' M → Calls Tryd.prog 12 #[.agg #[.int .i64 p.w, .int .i64 p.h, .int .i64 p.x0, .int .i64 p.y0, .int .i64 p.x1, .int .i64 p.y1, .int .i64 p.ae, .int .i64 p.gr, .int .i64 p.ad, .int .i64 p.ox, .int .i64 p.oy]] w' fun e w'' => e = .returned (.int .i64 c) ∧ SL w w'' M from fun hs => ec ▸ CheckR_c hs p)
  rw [ec] at hc ⊢
  obtain ⟨pw, ph, x0, y0, x1, y1, ae, gr, ad, ox, oy⟩ := p
  have HS := Aside0.mk (sl_start w)
  have H := Aside0.mk h
  clear h ec
  go_enter Tryd.func17, Tryd.ntmps17
  go_wp2_with (first
    | (go_at_call 12; refine (HC.out (by repeat (with_reducible first | exact HS.out | apply sl_drewN | apply sl_drew | apply sl_box))).mono ?_; rintro e w1 ⟨rfl, hs⟩; (try simp only [World.size_alloc] at hs); replace HS := Aside0.mk hs; clear hs; have c0_0 := c_at HS.out 0 rfl 0 rfl; have c0_1 := c_at HS.out 0 rfl 1 rfl; have c0_2 := c_at HS.out 0 rfl 2 rfl; have c0_3 := c_at HS.out 0 rfl 3 rfl; have c0_4 := c_at HS.out 0 rfl 4 rfl; have c0_5 := c_at HS.out 0 rfl 5 rfl; have c0_6 := c_at HS.out 0 rfl 6 rfl; have c0_7 := c_at HS.out 0 rfl 7 rfl; have c0_8 := c_at HS.out 0 rfl 8 rfl; have c0_9 := c_at HS.out 0 rfl 9 rfl; have c0_10 := c_at HS.out 0 rfl 10 rfl; have ltc0 := blk_lt (sl_blk HS.out 0 rfl); have c1_0 := c_at HS.out 1 rfl 0 rfl; have c1_1 := c_at HS.out 1 rfl 1 rfl; have c1_2 := c_at HS.out 1 rfl 2 rfl; have c1_3 := c_at HS.out 1 rfl 3 rfl; have ltc1 := blk_lt (sl_blk HS.out 1 rfl); have fzc1_0 := f_at HS.out 1 rfl 0; have fzc1_1 := f_at HS.out 1 rfl 1; have fzc1_2 := f_at HS.out 1 rfl 2; have fzc1_3 := f_at HS.out 1 rfl 3))
  have hfin := sl_put (sl_put (sl_put (sl_put HS.out 1 rfl 0 (Value.int .i64 0)) 1 rfl 1 (Value.int .i64 0)) 1 rfl 2 (Value.int .i64 0)) 1 rfl 3 (Value.int .i64 0)
  refine bodyPost_ret (results_ct rfl _ _ (w.heap.size + 1) 23 #[Value.int .i64 0, Value.int .i64 0, Value.int .i64 0, Value.int .i64 0] (0, 0) _ (by rfl) (by exact sl_blk hfin 1 rfl) (by exact Tryd.underlying23) (by rfl) (by kernel_rfl)) rfl ?_
  exact ⟨rfl, sl_below H.out (sl_below0 hfin)⟩
set_option maxHeartbeats 4000000 in
set_option maxRecDepth 100000 in
theorem PlaceR_yes (h : SL w0 w L) (p : Pos) (hc : chk p = 0) : Calls Tryd.prog 17 #[.agg #[.int .i64 p.w, .int .i64 p.h, .int .i64 p.x0, .int .i64 p.y0, .int .i64 p.x1, .int .i64 p.y1, .int .i64 p.ae, .int .i64 p.gr, .int .i64 p.ad, .int .i64 p.ox, .int .i64 p.oy]] w fun e w' => e = .returned (.tuple #[.agg #[.int .i64 (plX p), .int .i64 (plY p), .int .i64 (plX p + p.w), .int .i64 (plY p + p.h)], .int .i64 0]) ∧ SL w0 w' L := by
  obtain ⟨px, epx⟩ : ∃ t, plX p = t := ⟨_, rfl⟩
  obtain ⟨py, epy⟩ : ∃ t, plY p = t := ⟨_, rfl⟩
  have HC := Aside0.mk (show ∀ {w' : World} {M : List Res}, SL w w' M → Calls Tryd.prog 12 #[.agg #[.int .i64 p.w, .int .i64 p.h, .int .i64 p.x0, .int .i64 p.y0, .int .i64 p.x1, .int .i64 p.y1, .int .i64 p.ae, .int .i64 p.gr, .int .i64 p.ad, .int .i64 p.ox, .int .i64 p.oy]] w' fun e w'' => e = .returned (.int .i64 0) ∧ SL w w'' M from fun hs => hc ▸ CheckR_c hs p)
  have HSp := Aside0.mk (show ∀ {w' : World} {M : List Res}, SL w w' M → Calls Tryd.prog 31 #[.agg #[.int .i64 p.w, .int .i64 p.h, .int .i64 p.x0, .int .i64 p.y0, .int .i64 p.x1, .int .i64 p.y1, .int .i64 p.ae, .int .i64 p.gr, .int .i64 p.ad, .int .i64 p.ox, .int .i64 p.oy]] w' fun e w'' => e = .returned (.tuple #[.agg #[.int .i64 px, .int .i64 (px + p.w)], .agg #[.int .i64 py, .int .i64 (py + p.h)]]) ∧ SL w w'' M from fun hs => by
    rw [← epx, ← epy]
    exact spans_c hs p hc)
  rw [epx, epy]
  obtain ⟨pw, ph, x0, y0, x1, y1, ae, gr, ad, ox, oy⟩ := p
  have HS := Aside0.mk (sl_start w)
  have H := Aside0.mk h
  clear h epx epy hc
  go_enter Tryd.func17, Tryd.ntmps17
  go_wp2_with (first
    | (go_at_call 12; refine (HC.out (by repeat (with_reducible first | exact HS.out | apply sl_drewN | apply sl_drew | apply sl_box))).mono ?_; rintro e w1 ⟨rfl, hs⟩; (try simp only [World.size_alloc] at hs); replace HS := Aside0.mk hs; clear hs; have c0_0 := c_at HS.out 0 rfl 0 rfl; have c0_1 := c_at HS.out 0 rfl 1 rfl; have c0_2 := c_at HS.out 0 rfl 2 rfl; have c0_3 := c_at HS.out 0 rfl 3 rfl; have c0_4 := c_at HS.out 0 rfl 4 rfl; have c0_5 := c_at HS.out 0 rfl 5 rfl; have c0_6 := c_at HS.out 0 rfl 6 rfl; have c0_7 := c_at HS.out 0 rfl 7 rfl; have c0_8 := c_at HS.out 0 rfl 8 rfl; have c0_9 := c_at HS.out 0 rfl 9 rfl; have c0_10 := c_at HS.out 0 rfl 10 rfl; have ltc0 := blk_lt (sl_blk HS.out 0 rfl); have c1_0 := c_at HS.out 1 rfl 0 rfl; have c1_1 := c_at HS.out 1 rfl 1 rfl; have c1_2 := c_at HS.out 1 rfl 2 rfl; have c1_3 := c_at HS.out 1 rfl 3 rfl; have ltc1 := blk_lt (sl_blk HS.out 1 rfl); have fzc1_0 := f_at HS.out 1 rfl 0; have fzc1_1 := f_at HS.out 1 rfl 1; have fzc1_2 := f_at HS.out 1 rfl 2; have fzc1_3 := f_at HS.out 1 rfl 3)
    | (go_at_call 31; refine (HSp.out (by repeat (with_reducible first | exact HS.out | apply sl_drewN | apply sl_drew | apply sl_box))).mono ?_; rintro e w1 ⟨rfl, hs⟩; (try simp only [World.size_alloc] at hs); replace HS := Aside0.mk hs; clear hs; have c0_0 := c_at HS.out 0 rfl 0 rfl; have c0_1 := c_at HS.out 0 rfl 1 rfl; have c0_2 := c_at HS.out 0 rfl 2 rfl; have c0_3 := c_at HS.out 0 rfl 3 rfl; have c0_4 := c_at HS.out 0 rfl 4 rfl; have c0_5 := c_at HS.out 0 rfl 5 rfl; have c0_6 := c_at HS.out 0 rfl 6 rfl; have c0_7 := c_at HS.out 0 rfl 7 rfl; have c0_8 := c_at HS.out 0 rfl 8 rfl; have c0_9 := c_at HS.out 0 rfl 9 rfl; have c0_10 := c_at HS.out 0 rfl 10 rfl; have ltc0 := blk_lt (sl_blk HS.out 0 rfl); have c1_0 := c_at HS.out 1 rfl 0 rfl; have c1_1 := c_at HS.out 1 rfl 1 rfl; have c1_2 := c_at HS.out 1 rfl 2 rfl; have c1_3 := c_at HS.out 1 rfl 3 rfl; have ltc1 := blk_lt (sl_blk HS.out 1 rfl); have fzc1_0 := f_at HS.out 1 rfl 0; have fzc1_1 := f_at HS.out 1 rfl 1; have fzc1_2 := f_at HS.out 1 rfl 2; have fzc1_3 := f_at HS.out 1 rfl 3))
  have hfin := sl_box (sl_box (sl_put (sl_put (sl_put (sl_put HS.out 1 rfl 0 (Value.int .i64 px)) 1 rfl 1 (Value.int .i64 py)) 1 rfl 2 (Value.int .i64 (px + pw))) 1 rfl 3 (Value.int .i64 (py + ph))) #[.int .i64 px, .int .i64 (px + pw)] 52) #[.int .i64 py, .int .i64 (py + ph)] 52
  refine bodyPost_ret (results_ct rfl _ _ (w.heap.size + 1) 23 #[Value.int .i64 px, Value.int .i64 py, Value.int .i64 (px + pw), Value.int .i64 (py + ph)] (0, 0) _ (by rfl) (by exact sl_blk hfin 1 rfl) (by exact Tryd.underlying23) (by rfl) (by kernel_rfl)) rfl ?_
  exact ⟨rfl, sl_below H.out (sl_below0 hfin)⟩
theorem PlaceR_c (h : SL w0 w L) (p : Pos) : Calls Tryd.prog 17 #[.agg #[.int .i64 p.w, .int .i64 p.h, .int .i64 p.x0, .int .i64 p.y0, .int .i64 p.x1, .int .i64 p.y1, .int .i64 p.ae, .int .i64 p.gr, .int .i64 p.ad, .int .i64 p.ox, .int .i64 p.oy]] w fun e w' => e = .returned (.tuple #[.agg #[.int .i64 (plaV p).1, .int .i64 (plaV p).2.1, .int .i64 (plaV p).2.2.1, .int .i64 (plaV p).2.2.2.1], .int .i64 (plaV p).2.2.2.2]) ∧ SL w0 w' L := by
  unfold plaV
  by_cases hc : chk p = 0
  · rw [if_pos hc]
    exact PlaceR_yes h p hc
  · rw [if_neg hc]
    exact PlaceR_no h p hc
end
/-- What Constrain answers. -/
def conV (p : Pos) (b0 b1 b2 b3 : Int) : Int × Int × Int × Int × Int :=
  if chk p = 0 then (if okrB b0 b1 b2 b3 = true then ((conX p b0 b2).1, (conY p b1 b3).1, (conX p b0 b2).2, (conY p b1 b3).2, 0) else (0, 0, 0, 0, 6)) else (0, 0, 0, 0, chk p)
theorem sx_lt (p : Pos) (hc : chk p = 0) : (-100000 ≤ plX p ∧ plX p ≤ 100000) ∧ (-100000 ≤ plY p ∧ plY p ≤ 100000) := by
  obtain ⟨hw, hh, hr, hox, hoy, hae, hgr, had⟩ := chk_ok hc
  unfold okr at hr
  exact ⟨plc_lt _ _ _ _ _ _ (by omega) (by omega) (by omega) (by omega) (by omega) (by omega) (by omega) (by omega), plc_lt _ _ _ _ _ _ (by omega) (by omega) (by omega) (by omega) (by omega) (by omega) (by omega) (by omega)⟩
section
variable {w0 w : World} {L : List Res}
set_option maxHeartbeats 4000000 in
set_option maxRecDepth 100000 in
theorem Place_no (h : SL w0 w L) (p : Pos) (hc : chk p ≠ 0) : Calls Tryd.prog 16 #[.agg #[.int .i64 p.w, .int .i64 p.h, .int .i64 p.x0, .int .i64 p.y0, .int .i64 p.x1, .int .i64 p.y1, .int .i64 p.ae, .int .i64 p.gr, .int .i64 p.ad, .int .i64 p.ox, .int .i64 p.oy]] w fun e w' => e = .returned (.tuple #[.agg #[.int .i64 0, .int .i64 0, .int .i64 0, .int .i64 0], .int .i64 (chk p)]) ∧ SL w0 w' L := by
  obtain ⟨c, ec⟩ : ∃ c, chk p = c := ⟨_, rfl⟩
  have HC := Aside0.mk (show ∀ {w' : World} {M : List Res}, SL w w' M → Calls Tryd.prog 11 #[.agg #[.int .i64 p.w, .int .i64 p.h, .int .i64 p.x0, .int .i64 p.y0, .int .i64 p.x1, .int .i64 p.y1, .int .i64 p.ae, .int .i64 p.gr, .int .i64 p.ad, .int .i64 p.ox, .int .i64 p.oy]] w' fun e w'' => e = .returned (.int .i64 c) ∧ SL w w'' M from fun hs => ec ▸ Check_c hs p)
  rw [ec] at hc ⊢
  obtain ⟨pw, ph, x0, y0, x1, y1, ae, gr, ad, ox, oy⟩ := p
  have HS := Aside0.mk (sl_start w)
  have H := Aside0.mk h
  clear h ec
  go_enter Tryd.func16, Tryd.ntmps16
  go_wp2_with (first
    | (go_at_call 11; refine (HC.out (by repeat (with_reducible first | exact HS.out | apply sl_drewN | apply sl_drew | apply sl_box))).mono ?_; rintro e w1 ⟨rfl, hs⟩; (try simp only [World.size_alloc] at hs); replace HS := Aside0.mk hs; clear hs; have c0_0 := c_at HS.out 0 rfl 0 rfl; have c0_1 := c_at HS.out 0 rfl 1 rfl; have c0_2 := c_at HS.out 0 rfl 2 rfl; have c0_3 := c_at HS.out 0 rfl 3 rfl; have c0_4 := c_at HS.out 0 rfl 4 rfl; have c0_5 := c_at HS.out 0 rfl 5 rfl; have c0_6 := c_at HS.out 0 rfl 6 rfl; have c0_7 := c_at HS.out 0 rfl 7 rfl; have c0_8 := c_at HS.out 0 rfl 8 rfl; have c0_9 := c_at HS.out 0 rfl 9 rfl; have c0_10 := c_at HS.out 0 rfl 10 rfl; have ltc0 := blk_lt (sl_blk HS.out 0 rfl); have c1_0 := c_at HS.out 1 rfl 0 rfl; have c1_1 := c_at HS.out 1 rfl 1 rfl; have c1_2 := c_at HS.out 1 rfl 2 rfl; have c1_3 := c_at HS.out 1 rfl 3 rfl; have ltc1 := blk_lt (sl_blk HS.out 1 rfl); have fzc1_0 := f_at HS.out 1 rfl 0; have fzc1_1 := f_at HS.out 1 rfl 1; have fzc1_2 := f_at HS.out 1 rfl 2; have fzc1_3 := f_at HS.out 1 rfl 3))
  have hfin := sl_put (sl_put (sl_put (sl_put HS.out 1 rfl 0 (Value.int .i64 0)) 1 rfl 1 (Value.int .i64 0)) 1 rfl 2 (Value.int .i64 0)) 1 rfl 3 (Value.int .i64 0)
  refine bodyPost_ret (results_ct rfl _ _ (w.heap.size + 1) 23 #[Value.int .i64 0, Value.int .i64 0, Value.int .i64 0, Value.int .i64 0] (0, 0) _ (by rfl) (by exact sl_blk hfin 1 rfl) (by exact Tryd.underlying23) (by rfl) (by kernel_rfl)) rfl ?_
  exact ⟨rfl, sl_below H.out (sl_below0 hfin)⟩
set_option maxHeartbeats 8000000 in
set_option maxRecDepth 100000 in
theorem Place_yes (hT : Tab w0) (h : SL w0 w L) (p : Pos) (hc : chk p = 0) : Calls Tryd.prog 16 #[.agg #[.int .i64 p.w, .int .i64 p.h, .int .i64 p.x0, .int .i64 p.y0, .int .i64 p.x1, .int .i64 p.y1, .int .i64 p.ae, .int .i64 p.gr, .int .i64 p.ad, .int .i64 p.ox, .int .i64 p.oy]] w fun e w' => e = .returned (.tuple #[.agg #[.int .i64 (plX p), .int .i64 (plY p), .int .i64 (plX p + p.w), .int .i64 (plY p + p.h)], .int .i64 0]) ∧ SL w0 w' L := by
  have B := sx_lt p hc
  obtain ⟨hw, hh, hr, hox, hoy, hae, hgr, had⟩ := chk_ok hc
  unfold okr at hr
  obtain ⟨tx, etx⟩ : ∃ t, sideV p.ae true = t := ⟨_, rfl⟩
  obtain ⟨ux, eux⟩ : ∃ t, sideV p.gr true = t := ⟨_, rfl⟩
  obtain ⟨ty, ety⟩ : ∃ t, sideV p.ae false = t := ⟨_, rfl⟩
  obtain ⟨uy, euy⟩ : ∃ t, sideV p.gr false = t := ⟨_, rfl⟩
  have stx : -1 ≤ tx ∧ tx ≤ 1 := etx ▸ side_lt p.ae true
  have sux : -1 ≤ ux ∧ ux ≤ 1 := eux ▸ side_lt p.gr true
  have sty : -1 ≤ ty ∧ ty ≤ 1 := ety ▸ side_lt p.ae false
  have suy : -1 ≤ uy ∧ uy ≤ 1 := euy ▸ side_lt p.gr false
  have HC := Aside0.mk (show ∀ {w' : World} {M : List Res}, SL w w' M → Calls Tryd.prog 11 #[.agg #[.int .i64 p.w, .int .i64 p.h, .int .i64 p.x0, .int .i64 p.y0, .int .i64 p.x1, .int .i64 p.y1, .int .i64 p.ae, .int .i64 p.gr, .int .i64 p.ad, .int .i64 p.ox, .int .i64 p.oy]] w' fun e w'' => e = .returned (.int .i64 0) ∧ SL w w'' M from fun hs => hc ▸ Check_c hs p)
  have HA := Aside0.mk (show ∀ {w' : World} {M : List Res}, SL w w' M → Calls Tryd.prog 29 #[.agg #[.int .i64 p.w, .int .i64 p.h, .int .i64 p.x0, .int .i64 p.y0, .int .i64 p.x1, .int .i64 p.y1, .int .i64 p.ae, .int .i64 p.gr, .int .i64 p.ad, .int .i64 p.ox, .int .i64 p.oy]] w' fun e w'' => e = .returned (.tuple #[.agg #[.int .i64 p.w, .int .i64 p.x0, .int .i64 p.x1, .int .i64 tx, .int .i64 ux, .int .i64 p.ox], .agg #[.int .i64 p.h, .int .i64 p.y0, .int .i64 p.y1, .int .i64 ty, .int .i64 uy, .int .i64 p.oy]]) ∧ SL w w'' M from fun hs => by
    have := axes_c (hT.sl h) hs p hae.1 hae.2 hgr.1 hgr.2
    rw [etx, eux, ety, euy] at this
    exact this)
  obtain ⟨px, epx⟩ : ∃ t, plX p = t := ⟨_, rfl⟩
  obtain ⟨py, epy⟩ : ∃ t, plY p = t := ⟨_, rfl⟩
  have HPX := Aside0.mk (show ∀ {w' : World} {M : List Res}, SL w w' M → Calls Tryd.prog 30 #[.agg #[.int .i64 p.w, .int .i64 p.x0, .int .i64 p.x1, .int .i64 tx, .int .i64 ux, .int .i64 p.ox]] w' fun e w'' => e = .returned (.int .i64 px) ∧ SL w w'' M from fun hs => by
    have := place_c hs p.x0 p.x1 p.w tx ux p.ox (by omega) (by omega) (by omega) (by omega) (by omega) (by omega) (by omega) (by omega)
    rw [← etx, ← eux] at this
    rw [← epx, ← etx, ← eux]
    exact this)
  have HPY := Aside0.mk (show ∀ {w' : World} {M : List Res}, SL w w' M → Calls Tryd.prog 30 #[.agg #[.int .i64 p.h, .int .i64 p.y0, .int .i64 p.y1, .int .i64 ty, .int .i64 uy, .int .i64 p.oy]] w' fun e w'' => e = .returned (.int .i64 py) ∧ SL w w'' M from fun hs => by
    have := place_c hs p.y0 p.y1 p.h ty uy p.oy (by omega) (by omega) (by omega) (by omega) (by omega) (by omega) (by omega) (by omega)
    rw [← ety, ← euy] at this
    rw [← epy, ← ety, ← euy]
    exact this)
  rw [epx, epy] at B ⊢
  clear etx eux ety euy epx epy
  obtain ⟨pw, ph, x0, y0, x1, y1, ae, gr, ad, ox, oy⟩ := p
  have HS := Aside0.mk (sl_start w)
  have H := Aside0.mk h
  clear h hT hc
  obtain ⟨⟨bx0, bx1⟩, by0, by1⟩ := B
  simp only at hw hh bx0 bx1 by0 by1
  go_enter Tryd.func16, Tryd.ntmps16
  go_upto_region 5 with (first
    | (go_at_call 11; refine (HC.out (by repeat (with_reducible first | exact HS.out | apply sl_drewN | apply sl_drew | apply sl_box))).mono ?_; rintro e w1 ⟨rfl, hs⟩; (try simp only [World.size_alloc] at hs); replace HS := Aside0.mk hs; clear hs; have c0_0 := c_at HS.out 0 rfl 0 rfl; have c0_1 := c_at HS.out 0 rfl 1 rfl; have c0_2 := c_at HS.out 0 rfl 2 rfl; have c0_3 := c_at HS.out 0 rfl 3 rfl; have c0_4 := c_at HS.out 0 rfl 4 rfl; have c0_5 := c_at HS.out 0 rfl 5 rfl; have c0_6 := c_at HS.out 0 rfl 6 rfl; have c0_7 := c_at HS.out 0 rfl 7 rfl; have c0_8 := c_at HS.out 0 rfl 8 rfl; have c0_9 := c_at HS.out 0 rfl 9 rfl; have c0_10 := c_at HS.out 0 rfl 10 rfl; have ltc0 := blk_lt (sl_blk HS.out 0 rfl); have c1_0 := c_at HS.out 1 rfl 0 rfl; have c1_1 := c_at HS.out 1 rfl 1 rfl; have c1_2 := c_at HS.out 1 rfl 2 rfl; have c1_3 := c_at HS.out 1 rfl 3 rfl; have ltc1 := blk_lt (sl_blk HS.out 1 rfl); have fzc1_0 := f_at HS.out 1 rfl 0; have fzc1_1 := f_at HS.out 1 rfl 1; have fzc1_2 := f_at HS.out 1 rfl 2; have fzc1_3 := f_at HS.out 1 rfl 3)
    | (go_at_call 29; refine (HA.out (by repeat (with_reducible first | exact HS.out | apply sl_drewN | apply sl_drew | apply sl_box))).mono ?_; rintro e w1 ⟨rfl, hs⟩; (try simp only [World.size_alloc] at hs); replace HS := Aside0.mk hs; clear hs; have c0_0 := c_at HS.out 0 rfl 0 rfl; have c0_1 := c_at HS.out 0 rfl 1 rfl; have c0_2 := c_at HS.out 0 rfl 2 rfl; have c0_3 := c_at HS.out 0 rfl 3 rfl; have c0_4 := c_at HS.out 0 rfl 4 rfl; have c0_5 := c_at HS.out 0 rfl 5 rfl; have c0_6 := c_at HS.out 0 rfl 6 rfl; have c0_7 := c_at HS.out 0 rfl 7 rfl; have c0_8 := c_at HS.out 0 rfl 8 rfl; have c0_9 := c_at HS.out 0 rfl 9 rfl; have c0_10 := c_at HS.out 0 rfl 10 rfl; have ltc0 := blk_lt (sl_blk HS.out 0 rfl); have c1_0 := c_at HS.out 1 rfl 0 rfl; have c1_1 := c_at HS.out 1 rfl 1 rfl; have c1_2 := c_at HS.out 1 rfl 2 rfl; have c1_3 := c_at HS.out 1 rfl 3 rfl; have ltc1 := blk_lt (sl_blk HS.out 1 rfl); have fzc1_0 := f_at HS.out 1 rfl 0; have fzc1_1 := f_at HS.out 1 rfl 1; have fzc1_2 := f_at HS.out 1 rfl 2; have fzc1_3 := f_at HS.out 1 rfl 3))
  refine world_gen (F := fun w_ => Code.wp Tryd.prog _ _ _ w_) (fun w_ => SL w w_ [cellsR w.heap.size 28 #[.int .i64 pw, .int .i64 ph, .int .i64 x0, .int .i64 y0, .int .i64 x1, .int .i64 y1, .int .i64 ae, .int .i64 gr, .int .i64 ad, .int .i64 ox, .int .i64 oy], cellsR (w.heap.size + 1) 23 #[.int .i64 0, .int .i64 0, .int .i64 0, .int .i64 0], cellsR w1.heap.size 47 #[.int .i64 pw, .int .i64 x0, .int .i64 x1, .int .i64 tx, .int .i64 ux, .int .i64 ox], cellsR (w1.heap.size + 1) 47 #[.int .i64 ph, .int .i64 y0, .int .i64 y1, .int .i64 ty, .int .i64 uy, .int .i64 oy]]) ?hP ?_
  case hP =>
    have hs := sl_box (sl_box HS.out #[.int .i64 pw, .int .i64 x0, .int .i64 x1, .int .i64 tx, .int .i64 ux, .int .i64 ox] 47) #[.int .i64 ph, .int .i64 y0, .int .i64 y1, .int .i64 ty, .int .i64 uy, .int .i64 oy] 47
    (try simp only [World.size_alloc] at hs)
    exact hs
  intro w2 hs
  replace HS := Aside0.mk hs
  clear hs
  refine start_ (n := 6) (S := fun w' => w'.cell? ⟨w1.heap.size, 0, none⟩ = some (.int .i64 pw) ∧ w'.cell? ⟨w1.heap.size, 1, none⟩ = some (.int .i64 x0) ∧ w'.cell? ⟨w1.heap.size, 2, none⟩ = some (.int .i64 x1) ∧ w'.cell? ⟨w1.heap.size, 3, none⟩ = some (.int .i64 tx) ∧ w'.cell? ⟨w1.heap.size, 4, none⟩ = some (.int .i64 ux) ∧ w'.cell? ⟨w1.heap.size, 5, none⟩ = some (.int .i64 ox) ∧ w'.cell? ⟨w1.heap.size + 1, 0, none⟩ = some (.int .i64 ph) ∧ w'.cell? ⟨w1.heap.size + 1, 1, none⟩ = some (.int .i64 y0) ∧ w'.cell? ⟨w1.heap.size + 1, 2, none⟩ = some (.int .i64 y1) ∧ w'.cell? ⟨w1.heap.size + 1, 3, none⟩ = some (.int .i64 ty) ∧ w'.cell? ⟨w1.heap.size + 1, 4, none⟩ = some (.int .i64 uy) ∧ w'.cell? ⟨w1.heap.size + 1, 5, none⟩ = some (.int .i64 oy)) (ds := []) #[false, false, false, false, false, false] (by kernel_rfl) rfl rfl ⟨(blk_cell (sl_blk (sl_drew HS.out) 2 rfl) 0).trans (show _ = some (Value.int .i64 pw) from rfl), (blk_cell (sl_blk (sl_drew HS.out) 2 rfl) 1).trans (show _ = some (Value.int .i64 x0) from rfl), (blk_cell (sl_blk (sl_drew HS.out) 2 rfl) 2).trans (show _ = some (Value.int .i64 x1) from rfl), (blk_cell (sl_blk (sl_drew HS.out) 2 rfl) 3).trans (show _ = some (Value.int .i64 tx) from rfl), (blk_cell (sl_blk (sl_drew HS.out) 2 rfl) 4).trans (show _ = some (Value.int .i64 ux) from rfl), (blk_cell (sl_blk (sl_drew HS.out) 2 rfl) 5).trans (show _ = some (Value.int .i64 ox) from rfl), (blk_cell (sl_blk (sl_drew HS.out) 3 rfl) 0).trans (show _ = some (Value.int .i64 ph) from rfl), (blk_cell (sl_blk (sl_drew HS.out) 3 rfl) 1).trans (show _ = some (Value.int .i64 y0) from rfl), (blk_cell (sl_blk (sl_drew HS.out) 3 rfl) 2).trans (show _ = some (Value.int .i64 y1) from rfl), (blk_cell (sl_blk (sl_drew HS.out) 3 rfl) 3).trans (show _ = some (Value.int .i64 ty) from rfl), (blk_cell (sl_blk (sl_drew HS.out) 3 rfl) 4).trans (show _ = some (Value.int .i64 uy) from rfl), (blk_cell (sl_blk (sl_drew HS.out) 3 rfl) 5).trans (show _ = some (Value.int .i64 oy) from rfl)⟩ (fun hHeld => ?_)
  refine take_ (i := 0) (N := some 20) (v := ?_) (a' := ?_) #[true, false, false, false, false, false] rfl rfl (by kernel_rfl) (fun _ _ _ h => h) (Or.inl ⟨by rfl, ?_⟩) hHeld ?_ ?_
  rotate_left
  · rintro w' ⟨s0, s1, s2, s3, s4, s5, s6, s7, s8, s9, s10, s11⟩
    go_simp
    with_reducible rfl
  rotate_left
  · simp only [Act.put, List.setIfInBounds_toArray, List.set_cons_zero, List.set_cons_succ, i64_w, i32_w, IntKind.wrap_u32, IntKind.wrap_u8, IntKind.wrap_u16]
    rfl
  refine take_ (i := 2) (N := some 22) (v := ?_) (a' := ?_) #[true, false, true, false, false, false] rfl rfl (by kernel_rfl) (fun _ _ _ h => h) (Or.inl ⟨by rfl, ?_⟩) hHeld ?_ ?_
  rotate_left
  · rintro w' ⟨s0, s1, s2, s3, s4, s5, s6, s7, s8, s9, s10, s11⟩
    go_simp
    with_reducible rfl
  rotate_left
  · simp only [Act.put, List.setIfInBounds_toArray, List.set_cons_zero, List.set_cons_succ, i64_w, i32_w, IntKind.wrap_u32, IntKind.wrap_u8, IntKind.wrap_u16]
    rfl
  refine one_ (i := 1) (N := some 21) #[true, true, true, false, false, false] rfl rfl (by kernel_rfl) (by decide) (fun K hK => ?_)
  refine goes_ Tryd.func30 (by kernel_rfl) rfl #[.agg #[.int .i64 pw, .int .i64 x0, .int .i64 x1, .int .i64 tx, .int .i64 ux, .int .i64 ox]] (by rfl) rfl rfl (by (try simp only [List.map_toArray, List.map_cons, List.map_nil]); first | done | rfl) ?_
  with_reducible refine (HPX.out (sl_drew HS.out)).mono ?_
  rintro e w3 ⟨rfl, hs3⟩
  refine ⟨_, rfl, ?_⟩
  refine hK.out _ _ ⟨(blk_cell (sl_blk hs3 2 rfl) 0).trans (show _ = some (Value.int .i64 pw) from rfl), (blk_cell (sl_blk hs3 2 rfl) 1).trans (show _ = some (Value.int .i64 x0) from rfl), (blk_cell (sl_blk hs3 2 rfl) 2).trans (show _ = some (Value.int .i64 x1) from rfl), (blk_cell (sl_blk hs3 2 rfl) 3).trans (show _ = some (Value.int .i64 tx) from rfl), (blk_cell (sl_blk hs3 2 rfl) 4).trans (show _ = some (Value.int .i64 ux) from rfl), (blk_cell (sl_blk hs3 2 rfl) 5).trans (show _ = some (Value.int .i64 ox) from rfl), (blk_cell (sl_blk hs3 3 rfl) 0).trans (show _ = some (Value.int .i64 ph) from rfl), (blk_cell (sl_blk hs3 3 rfl) 1).trans (show _ = some (Value.int .i64 y0) from rfl), (blk_cell (sl_blk hs3 3 rfl) 2).trans (show _ = some (Value.int .i64 y1) from rfl), (blk_cell (sl_blk hs3 3 rfl) 3).trans (show _ = some (Value.int .i64 ty) from rfl), (blk_cell (sl_blk hs3 3 rfl) 4).trans (show _ = some (Value.int .i64 uy) from rfl), (blk_cell (sl_blk hs3 3 rfl) 5).trans (show _ = some (Value.int .i64 oy) from rfl)⟩ (fun hHeld => ?_)
  clear hK K
  refine norm_ (a' := ?_) ?_ ?_
  rotate_left
  · show Act.put _ (some 21) _ = _
    simp only [Act.put, List.setIfInBounds_toArray, List.set_cons_zero, List.set_cons_succ, i64_w, i32_w, IntKind.wrap_u32, IntKind.wrap_u8, IntKind.wrap_u16]
    rfl
  refine one_ (i := 3) (N := some 23) #[true, true, true, true, false, false] rfl rfl (by kernel_rfl) (by decide) (fun K hK => ?_)
  refine goes_ Tryd.func30 (by kernel_rfl) rfl #[.agg #[.int .i64 ph, .int .i64 y0, .int .i64 y1, .int .i64 ty, .int .i64 uy, .int .i64 oy]] (by rfl) rfl rfl (by (try simp only [List.map_toArray, List.map_cons, List.map_nil]); first | done | rfl) ?_
  with_reducible refine (HPY.out hs3).mono ?_
  rintro e w4 ⟨rfl, hs4⟩
  refine ⟨_, rfl, ?_⟩
  refine hK.out _ _ ⟨(blk_cell (sl_blk hs4 2 rfl) 0).trans (show _ = some (Value.int .i64 pw) from rfl), (blk_cell (sl_blk hs4 2 rfl) 1).trans (show _ = some (Value.int .i64 x0) from rfl), (blk_cell (sl_blk hs4 2 rfl) 2).trans (show _ = some (Value.int .i64 x1) from rfl), (blk_cell (sl_blk hs4 2 rfl) 3).trans (show _ = some (Value.int .i64 tx) from rfl), (blk_cell (sl_blk hs4 2 rfl) 4).trans (show _ = some (Value.int .i64 ux) from rfl), (blk_cell (sl_blk hs4 2 rfl) 5).trans (show _ = some (Value.int .i64 ox) from rfl), (blk_cell (sl_blk hs4 3 rfl) 0).trans (show _ = some (Value.int .i64 ph) from rfl), (blk_cell (sl_blk hs4 3 rfl) 1).trans (show _ = some (Value.int .i64 y0) from rfl), (blk_cell (sl_blk hs4 3 rfl) 2).trans (show _ = some (Value.int .i64 y1) from rfl), (blk_cell (sl_blk hs4 3 rfl) 3).trans (show _ = some (Value.int .i64 ty) from rfl), (blk_cell (sl_blk hs4 3 rfl) 4).trans (show _ = some (Value.int .i64 uy) from rfl), (blk_cell (sl_blk hs4 3 rfl) 5).trans (show _ = some (Value.int .i64 oy) from rfl)⟩ (fun hHeld => ?_)
  clear hK K
  refine norm_ (a' := ?_) ?_ ?_
  rotate_left
  · show Act.put _ (some 23) _ = _
    simp only [Act.put, List.setIfInBounds_toArray, List.set_cons_zero, List.set_cons_succ, i64_w, i32_w, IntKind.wrap_u32, IntKind.wrap_u8, IntKind.wrap_u16]
    rfl
  refine pure_ (i := 4) (N := some 7) (v := ?_) (a' := ?_) #[true, true, true, true, true, false] rfl rfl (by kernel_rfl) (fun _ _ _ h => h) (Or.inl ⟨by rfl, ?_⟩) ?_ ?_
  rotate_left
  · intro w'
    go_simp
    with_reducible rfl
  rotate_left
  · simp only [Act.put, List.setIfInBounds_toArray, List.set_cons_zero, List.set_cons_succ, i64_w, i32_w, IntKind.wrap_u32, IntKind.wrap_u8, IntKind.wrap_u16]
    rfl
  refine pure_ (i := 5) (N := some 8) (v := ?_) (a' := ?_) #[true, true, true, true, true, true] rfl rfl (by kernel_rfl) (fun _ _ _ h => h) (Or.inl ⟨by rfl, ?_⟩) ?_ ?_
  rotate_left
  · intro w'
    go_simp
    with_reducible rfl
  rotate_left
  · simp only [Act.put, List.setIfInBounds_toArray, List.set_cons_zero, List.set_cons_succ, i64_w, i32_w, IntKind.wrap_u32, IntKind.wrap_u8, IntKind.wrap_u16]
    rfl
  refine done_ (by kernel_rfl) ?_
  go_upto_region 6 with (fail)
  replace HS := Aside0.mk hs4
  have wx : wrap64 (px + pw) = px + pw := w64 (by omega) (by omega)
  have wy : wrap64 (py + ph) = py + ph := w64 (by omega) (by omega)
  have c0_0 := c_at HS.out 0 rfl 0 rfl
  have c0_1 := c_at HS.out 0 rfl 1 rfl
  have c0_2 := c_at HS.out 0 rfl 2 rfl
  have c0_3 := c_at HS.out 0 rfl 3 rfl
  have c0_4 := c_at HS.out 0 rfl 4 rfl
  have c0_5 := c_at HS.out 0 rfl 5 rfl
  have c0_6 := c_at HS.out 0 rfl 6 rfl
  have c0_7 := c_at HS.out 0 rfl 7 rfl
  have c0_8 := c_at HS.out 0 rfl 8 rfl
  have c0_9 := c_at HS.out 0 rfl 9 rfl
  have c0_10 := c_at HS.out 0 rfl 10 rfl
  have ltc0 := blk_lt (sl_blk HS.out 0 rfl)
  have c1_0 := c_at HS.out 1 rfl 0 rfl
  have c1_1 := c_at HS.out 1 rfl 1 rfl
  have c1_2 := c_at HS.out 1 rfl 2 rfl
  have c1_3 := c_at HS.out 1 rfl 3 rfl
  have ltc1 := blk_lt (sl_blk HS.out 1 rfl)
  have fzc1_0 := f_at HS.out 1 rfl 0
  have fzc1_1 := f_at HS.out 1 rfl 1
  have fzc1_2 := f_at HS.out 1 rfl 2
  have fzc1_3 := f_at HS.out 1 rfl 3
  go_wp2
  have hfin := sl_put (sl_put (sl_put (sl_put HS.out 1 rfl 0 (Value.int .i64 px)) 1 rfl 1 (Value.int .i64 py)) 1 rfl 2 (Value.int .i64 (px + pw))) 1 rfl 3 (Value.int .i64 (py + ph))
  refine bodyPost_ret (results_ct rfl _ _ (w.heap.size + 1) 23 #[Value.int .i64 px, Value.int .i64 py, Value.int .i64 (px + pw), Value.int .i64 (py + ph)] (0, 0) _ (by rfl) (by exact sl_blk hfin 1 rfl) (by exact Tryd.underlying23) (by rfl) (by kernel_rfl)) rfl ?_
  exact ⟨rfl, sl_below H.out (sl_below0 hfin)⟩
theorem Place_c (hT : Tab w0) (h : SL w0 w L) (p : Pos) : Calls Tryd.prog 16 #[.agg #[.int .i64 p.w, .int .i64 p.h, .int .i64 p.x0, .int .i64 p.y0, .int .i64 p.x1, .int .i64 p.y1, .int .i64 p.ae, .int .i64 p.gr, .int .i64 p.ad, .int .i64 p.ox, .int .i64 p.oy]] w fun e w' => e = .returned (.tuple #[.agg #[.int .i64 (plaV p).1, .int .i64 (plaV p).2.1, .int .i64 (plaV p).2.2.1, .int .i64 (plaV p).2.2.2.1], .int .i64 (plaV p).2.2.2.2]) ∧ SL w0 w' L := by
  unfold plaV
  by_cases hc : chk p = 0
  · rw [if_pos hc]
    exact Place_yes hT h p hc
  · rw [if_neg hc]
    exact Place_no h p hc
end
section
variable {w0 w : World} {L : List Res}
set_option maxHeartbeats 4000000 in
set_option maxRecDepth 100000 in
theorem Con_no (h : SL w0 w L) (p : Pos) (b0 b1 b2 b3 : Int) (hc : chk p ≠ 0) : Calls Tryd.prog 18 #[.agg #[.int .i64 p.w, .int .i64 p.h, .int .i64 p.x0, .int .i64 p.y0, .int .i64 p.x1, .int .i64 p.y1, .int .i64 p.ae, .int .i64 p.gr, .int .i64 p.ad, .int .i64 p.ox, .int .i64 p.oy], .agg #[.int .i64 b0, .int .i64 b1, .int .i64 b2, .int .i64 b3]] w fun e w' => e = .returned (.tuple #[.agg #[.int .i64 0, .int .i64 0, .int .i64 0, .int .i64 0], .int .i64 (chk p)]) ∧ SL w0 w' L := by
  obtain ⟨c, ec⟩ : ∃ c, chk p = c := ⟨_, rfl⟩
  have HC := Aside0.mk (show ∀ {w' : World} {M : List Res}, SL w w' M → Calls Tryd.prog 11 #[.agg #[.int .i64 p.w, .int .i64 p.h, .int .i64 p.x0, .int .i64 p.y0, .int .i64 p.x1, .int .i64 p.y1, .int .i64 p.ae, .int .i64 p.gr, .int .i64 p.ad, .int .i64 p.ox, .int .i64 p.oy]] w' fun e w'' => e = .returned (.int .i64 c) ∧ SL w w'' M from fun hs => ec ▸ Check_c hs p)
  rw [ec] at hc ⊢
  obtain ⟨pw, ph, x0, y0, x1, y1, ae, gr, ad, ox, oy⟩ := p
  have HS := Aside0.mk (sl_start w)
  have H := Aside0.mk h
  clear h ec
  go_enter Tryd.func18, Tryd.ntmps18
  go_wp2_with (first
    | (go_at_call 11; refine (HC.out (by repeat (with_reducible first | exact HS.out | apply sl_drewN | apply sl_drew | apply sl_box))).mono ?_; rintro e w1 ⟨rfl, hs⟩; (try simp only [World.size_alloc] at hs); replace HS := Aside0.mk hs; clear hs; have c0_0 := c_at HS.out 0 rfl 0 rfl; have c0_1 := c_at HS.out 0 rfl 1 rfl; have c0_2 := c_at HS.out 0 rfl 2 rfl; have c0_3 := c_at HS.out 0 rfl 3 rfl; have c0_4 := c_at HS.out 0 rfl 4 rfl; have c0_5 := c_at HS.out 0 rfl 5 rfl; have c0_6 := c_at HS.out 0 rfl 6 rfl; have c0_7 := c_at HS.out 0 rfl 7 rfl; have c0_8 := c_at HS.out 0 rfl 8 rfl; have c0_9 := c_at HS.out 0 rfl 9 rfl; have c0_10 := c_at HS.out 0 rfl 10 rfl; have ltc0 := blk_lt (sl_blk HS.out 0 rfl); have c1_0 := c_at HS.out 1 rfl 0 rfl; have c1_1 := c_at HS.out 1 rfl 1 rfl; have c1_2 := c_at HS.out 1 rfl 2 rfl; have c1_3 := c_at HS.out 1 rfl 3 rfl; have ltc1 := blk_lt (sl_blk HS.out 1 rfl); have c2_0 := c_at HS.out 2 rfl 0 rfl; have c2_1 := c_at HS.out 2 rfl 1 rfl; have c2_2 := c_at HS.out 2 rfl 2 rfl; have c2_3 := c_at HS.out 2 rfl 3 rfl; have ltc2 := blk_lt (sl_blk HS.out 2 rfl); have fzc2_0 := f_at HS.out 2 rfl 0; have fzc2_1 := f_at HS.out 2 rfl 1; have fzc2_2 := f_at HS.out 2 rfl 2; have fzc2_3 := f_at HS.out 2 rfl 3)
    | (go_at_call 22; refine (Empty_c (by repeat (with_reducible first | exact HS.out | apply sl_drewN | apply sl_drew | apply sl_box)) b0 b1 b2 b3).mono ?_; rintro e w1 ⟨rfl, hs⟩; (try simp only [World.size_alloc] at hs); replace HS := Aside0.mk hs; clear hs; have c0_0 := c_at HS.out 0 rfl 0 rfl; have c0_1 := c_at HS.out 0 rfl 1 rfl; have c0_2 := c_at HS.out 0 rfl 2 rfl; have c0_3 := c_at HS.out 0 rfl 3 rfl; have c0_4 := c_at HS.out 0 rfl 4 rfl; have c0_5 := c_at HS.out 0 rfl 5 rfl; have c0_6 := c_at HS.out 0 rfl 6 rfl; have c0_7 := c_at HS.out 0 rfl 7 rfl; have c0_8 := c_at HS.out 0 rfl 8 rfl; have c0_9 := c_at HS.out 0 rfl 9 rfl; have c0_10 := c_at HS.out 0 rfl 10 rfl; have ltc0 := blk_lt (sl_blk HS.out 0 rfl); have c1_0 := c_at HS.out 1 rfl 0 rfl; have c1_1 := c_at HS.out 1 rfl 1 rfl; have c1_2 := c_at HS.out 1 rfl 2 rfl; have c1_3 := c_at HS.out 1 rfl 3 rfl; have ltc1 := blk_lt (sl_blk HS.out 1 rfl); have c2_0 := c_at HS.out 2 rfl 0 rfl; have c2_1 := c_at HS.out 2 rfl 1 rfl; have c2_2 := c_at HS.out 2 rfl 2 rfl; have c2_3 := c_at HS.out 2 rfl 3 rfl; have ltc2 := blk_lt (sl_blk HS.out 2 rfl); have fzc2_0 := f_at HS.out 2 rfl 0; have fzc2_1 := f_at HS.out 2 rfl 1; have fzc2_2 := f_at HS.out 2 rfl 2; have fzc2_3 := f_at HS.out 2 rfl 3))
  have hfin := sl_put (sl_put (sl_put (sl_put HS.out 2 rfl 0 (Value.int .i64 0)) 2 rfl 1 (Value.int .i64 0)) 2 rfl 2 (Value.int .i64 0)) 2 rfl 3 (Value.int .i64 0)
  refine bodyPost_ret (results_ct rfl _ _ (w.heap.size + 1 + 1) 23 #[Value.int .i64 0, Value.int .i64 0, Value.int .i64 0, Value.int .i64 0] (0, 0) _ (by rfl) (by exact sl_blk hfin 2 rfl) (by exact Tryd.underlying23) (by rfl) (by kernel_rfl)) rfl ?_
  exact ⟨rfl, sl_below H.out (sl_below0 hfin)⟩
set_option maxHeartbeats 4000000 in
set_option maxRecDepth 100000 in
theorem Con_empty (h : SL w0 w L) (p : Pos) (b0 b1 b2 b3 : Int) (hc : chk p = 0) (hb : okrB b0 b1 b2 b3 = false) : Calls Tryd.prog 18 #[.agg #[.int .i64 p.w, .int .i64 p.h, .int .i64 p.x0, .int .i64 p.y0, .int .i64 p.x1, .int .i64 p.y1, .int .i64 p.ae, .int .i64 p.gr, .int .i64 p.ad, .int .i64 p.ox, .int .i64 p.oy], .agg #[.int .i64 b0, .int .i64 b1, .int .i64 b2, .int .i64 b3]] w fun e w' => e = .returned (.tuple #[.agg #[.int .i64 0, .int .i64 0, .int .i64 0, .int .i64 0], .int .i64 6]) ∧ SL w0 w' L := by
  have HC := Aside0.mk (show ∀ {w' : World} {M : List Res}, SL w w' M → Calls Tryd.prog 11 #[.agg #[.int .i64 p.w, .int .i64 p.h, .int .i64 p.x0, .int .i64 p.y0, .int .i64 p.x1, .int .i64 p.y1, .int .i64 p.ae, .int .i64 p.gr, .int .i64 p.ad, .int .i64 p.ox, .int .i64 p.oy]] w' fun e w'' => e = .returned (.int .i64 0) ∧ SL w w'' M from fun hs => hc ▸ Check_c hs p)
  obtain ⟨pw, ph, x0, y0, x1, y1, ae, gr, ad, ox, oy⟩ := p
  have HS := Aside0.mk (sl_start w)
  have H := Aside0.mk h
  clear h hc
  go_enter Tryd.func18, Tryd.ntmps18
  go_wp2_with (first
    | (go_at_call 11; refine (HC.out (by repeat (with_reducible first | exact HS.out | apply sl_drewN | apply sl_drew | apply sl_box))).mono ?_; rintro e w1 ⟨rfl, hs⟩; (try simp only [World.size_alloc] at hs); replace HS := Aside0.mk hs; clear hs; have c0_0 := c_at HS.out 0 rfl 0 rfl; have c0_1 := c_at HS.out 0 rfl 1 rfl; have c0_2 := c_at HS.out 0 rfl 2 rfl; have c0_3 := c_at HS.out 0 rfl 3 rfl; have c0_4 := c_at HS.out 0 rfl 4 rfl; have c0_5 := c_at HS.out 0 rfl 5 rfl; have c0_6 := c_at HS.out 0 rfl 6 rfl; have c0_7 := c_at HS.out 0 rfl 7 rfl; have c0_8 := c_at HS.out 0 rfl 8 rfl; have c0_9 := c_at HS.out 0 rfl 9 rfl; have c0_10 := c_at HS.out 0 rfl 10 rfl; have ltc0 := blk_lt (sl_blk HS.out 0 rfl); have c1_0 := c_at HS.out 1 rfl 0 rfl; have c1_1 := c_at HS.out 1 rfl 1 rfl; have c1_2 := c_at HS.out 1 rfl 2 rfl; have c1_3 := c_at HS.out 1 rfl 3 rfl; have ltc1 := blk_lt (sl_blk HS.out 1 rfl); have c2_0 := c_at HS.out 2 rfl 0 rfl; have c2_1 := c_at HS.out 2 rfl 1 rfl; have c2_2 := c_at HS.out 2 rfl 2 rfl; have c2_3 := c_at HS.out 2 rfl 3 rfl; have ltc2 := blk_lt (sl_blk HS.out 2 rfl); have fzc2_0 := f_at HS.out 2 rfl 0; have fzc2_1 := f_at HS.out 2 rfl 1; have fzc2_2 := f_at HS.out 2 rfl 2; have fzc2_3 := f_at HS.out 2 rfl 3)
    | (go_at_call 22; refine (Empty_c (by repeat (with_reducible first | exact HS.out | apply sl_drewN | apply sl_drew | apply sl_box)) b0 b1 b2 b3).mono ?_; rintro e w1 ⟨rfl, hs⟩; (try simp only [World.size_alloc] at hs); replace HS := Aside0.mk hs; clear hs; have c0_0 := c_at HS.out 0 rfl 0 rfl; have c0_1 := c_at HS.out 0 rfl 1 rfl; have c0_2 := c_at HS.out 0 rfl 2 rfl; have c0_3 := c_at HS.out 0 rfl 3 rfl; have c0_4 := c_at HS.out 0 rfl 4 rfl; have c0_5 := c_at HS.out 0 rfl 5 rfl; have c0_6 := c_at HS.out 0 rfl 6 rfl; have c0_7 := c_at HS.out 0 rfl 7 rfl; have c0_8 := c_at HS.out 0 rfl 8 rfl; have c0_9 := c_at HS.out 0 rfl 9 rfl; have c0_10 := c_at HS.out 0 rfl 10 rfl; have ltc0 := blk_lt (sl_blk HS.out 0 rfl); have c1_0 := c_at HS.out 1 rfl 0 rfl; have c1_1 := c_at HS.out 1 rfl 1 rfl; have c1_2 := c_at HS.out 1 rfl 2 rfl; have c1_3 := c_at HS.out 1 rfl 3 rfl; have ltc1 := blk_lt (sl_blk HS.out 1 rfl); have c2_0 := c_at HS.out 2 rfl 0 rfl; have c2_1 := c_at HS.out 2 rfl 1 rfl; have c2_2 := c_at HS.out 2 rfl 2 rfl; have c2_3 := c_at HS.out 2 rfl 3 rfl; have ltc2 := blk_lt (sl_blk HS.out 2 rfl); have fzc2_0 := f_at HS.out 2 rfl 0; have fzc2_1 := f_at HS.out 2 rfl 1; have fzc2_2 := f_at HS.out 2 rfl 2; have fzc2_3 := f_at HS.out 2 rfl 3))
  have hfin := sl_put (sl_put (sl_put (sl_put HS.out 2 rfl 0 (Value.int .i64 0)) 2 rfl 1 (Value.int .i64 0)) 2 rfl 2 (Value.int .i64 0)) 2 rfl 3 (Value.int .i64 0)
  refine bodyPost_ret (results_ct rfl _ _ (w.heap.size + 1 + 1) 23 #[Value.int .i64 0, Value.int .i64 0, Value.int .i64 0, Value.int .i64 0] (0, 0) _ (by rfl) (by exact sl_blk hfin 2 rfl) (by exact Tryd.underlying23) (by rfl) (by kernel_rfl)) rfl ?_
  exact ⟨rfl, sl_below H.out (sl_below0 hfin)⟩
set_option maxHeartbeats 8000000 in
set_option maxRecDepth 100000 in
theorem Con_yes (hT : Tab w0) (h : SL w0 w L) (p : Pos) (b0 b1 b2 b3 : Int) (hc : chk p = 0) (hb : okrB b0 b1 b2 b3 = true) : Calls Tryd.prog 18 #[.agg #[.int .i64 p.w, .int .i64 p.h, .int .i64 p.x0, .int .i64 p.y0, .int .i64 p.x1, .int .i64 p.y1, .int .i64 p.ae, .int .i64 p.gr, .int .i64 p.ad, .int .i64 p.ox, .int .i64 p.oy], .agg #[.int .i64 b0, .int .i64 b1, .int .i64 b2, .int .i64 b3]] w fun e w' => e = .returned (.tuple #[.agg #[.int .i64 (conX p b0 b2).1, .int .i64 (conY p b1 b3).1, .int .i64 (conX p b0 b2).2, .int .i64 (conY p b1 b3).2], .int .i64 0]) ∧ SL w0 w' L := by
  have B := sx_lt p hc
  obtain ⟨hw, hh, hr, hox, hoy, hae, hgr, had⟩ := chk_ok hc
  unfold okr at hr
  obtain ⟨tx, etx⟩ : ∃ t, sideV p.ae true = t := ⟨_, rfl⟩
  obtain ⟨ux, eux⟩ : ∃ t, sideV p.gr true = t := ⟨_, rfl⟩
  obtain ⟨ty, ety⟩ : ∃ t, sideV p.ae false = t := ⟨_, rfl⟩
  obtain ⟨uy, euy⟩ : ∃ t, sideV p.gr false = t := ⟨_, rfl⟩
  have stx : -1 ≤ tx ∧ tx ≤ 1 := etx ▸ side_lt p.ae true
  have sux : -1 ≤ ux ∧ ux ≤ 1 := eux ▸ side_lt p.gr true
  have sty : -1 ≤ ty ∧ ty ≤ 1 := ety ▸ side_lt p.ae false
  have suy : -1 ≤ uy ∧ uy ≤ 1 := euy ▸ side_lt p.gr false
  have HC := Aside0.mk (show ∀ {w' : World} {M : List Res}, SL w w' M → Calls Tryd.prog 11 #[.agg #[.int .i64 p.w, .int .i64 p.h, .int .i64 p.x0, .int .i64 p.y0, .int .i64 p.x1, .int .i64 p.y1, .int .i64 p.ae, .int .i64 p.gr, .int .i64 p.ad, .int .i64 p.ox, .int .i64 p.oy]] w' fun e w'' => e = .returned (.int .i64 0) ∧ SL w w'' M from fun hs => hc ▸ Check_c hs p)
  have HA := Aside0.mk (show ∀ {w' : World} {M : List Res}, SL w w' M → Calls Tryd.prog 29 #[.agg #[.int .i64 p.w, .int .i64 p.h, .int .i64 p.x0, .int .i64 p.y0, .int .i64 p.x1, .int .i64 p.y1, .int .i64 p.ae, .int .i64 p.gr, .int .i64 p.ad, .int .i64 p.ox, .int .i64 p.oy]] w' fun e w'' => e = .returned (.tuple #[.agg #[.int .i64 p.w, .int .i64 p.x0, .int .i64 p.x1, .int .i64 tx, .int .i64 ux, .int .i64 p.ox], .agg #[.int .i64 p.h, .int .i64 p.y0, .int .i64 p.y1, .int .i64 ty, .int .i64 uy, .int .i64 p.oy]]) ∧ SL w w'' M from fun hs => by
    have := axes_c (hT.sl h) hs p hae.1 hae.2 hgr.1 hgr.2
    rw [etx, eux, ety, euy] at this
    exact this)
  have hbr : okr b0 b1 b2 b3 := of_decide_eq_true hb
  unfold okr at hbr
  obtain ⟨k4, k1, k16, j4, j1, j16⟩ := bits_4 had.1 had.2
  obtain ⟨X1, eX1⟩ : ∃ t, (conX p b0 b2).1 = t := ⟨_, rfl⟩
  obtain ⟨X2, eX2⟩ : ∃ t, (conX p b0 b2).2 = t := ⟨_, rfl⟩
  obtain ⟨Y1, eY1⟩ : ∃ t, (conY p b1 b3).1 = t := ⟨_, rfl⟩
  obtain ⟨Y2, eY2⟩ : ∃ t, (conY p b1 b3).2 = t := ⟨_, rfl⟩
  have HQX := Aside0.mk (show ∀ {w' : World} {M : List Res}, SL w w' M → Calls Tryd.prog 32 #[.agg #[.int .i64 p.w, .int .i64 p.x0, .int .i64 p.x1, .int .i64 tx, .int .i64 ux, .int .i64 p.ox], .int .i64 p.ad, .int .i64 b0, .int .i64 b2] w' fun e w'' => e = .returned (.tuple #[.int .i64 X1, .int .i64 X2]) ∧ SL w w'' M from fun hs => by
    rw [← eX1, ← eX2, ← etx, ← eux]
    exact adjust_c hs p.x0 p.x1 p.w (sideV p.ae true) (sideV p.gr true) p.ox p.ad b0 b2 (plX p) (flX p) ⟨by omega, by omega, by omega, by omega, by omega, by omega, by omega, by omega, side_lt _ _, side_lt _ _, by omega, by omega, by omega, rfl, rfl⟩ _ _ _ k4 k1 k16)
  have HQY := Aside0.mk (show ∀ {w' : World} {M : List Res}, SL w w' M → Calls Tryd.prog 32 #[.agg #[.int .i64 p.h, .int .i64 p.y0, .int .i64 p.y1, .int .i64 ty, .int .i64 uy, .int .i64 p.oy], .int .i64 (p.ad / 2), .int .i64 b1, .int .i64 b3] w' fun e w'' => e = .returned (.tuple #[.int .i64 Y1, .int .i64 Y2]) ∧ SL w w'' M from fun hs => by
    rw [← eY1, ← eY2, ← ety, ← euy]
    exact adjust_c hs p.y0 p.y1 p.h (sideV p.ae false) (sideV p.gr false) p.oy (p.ad / 2) b1 b3 (plY p) (flY p) ⟨by omega, by omega, by omega, by omega, by omega, by omega, by omega, by omega, side_lt _ _, side_lt _ _, by omega, by omega, by omega, rfl, rfl⟩ _ _ _ j4 j1 j16)
  rw [eX1, eX2, eY1, eY2]
  clear etx eux ety euy eX1 eX2 eY1 eY2 k4 k1 k16 j4 j1 j16
  obtain ⟨pw, ph, x0, y0, x1, y1, ae, gr, ad, ox, oy⟩ := p
  have HS := Aside0.mk (sl_start w)
  have H := Aside0.mk h
  clear h hT hc
  go_enter Tryd.func18, Tryd.ntmps18
  go_wp2_with (first
    | (go_at_call 11; refine (HC.out (by repeat (with_reducible first | exact HS.out | apply sl_drewN | apply sl_drew | apply sl_box))).mono ?_; rintro e w1 ⟨rfl, hs⟩; (try simp only [World.size_alloc] at hs); replace HS := Aside0.mk hs; clear hs; have c0_0 := c_at HS.out 0 rfl 0 rfl; have c0_1 := c_at HS.out 0 rfl 1 rfl; have c0_2 := c_at HS.out 0 rfl 2 rfl; have c0_3 := c_at HS.out 0 rfl 3 rfl; have c0_4 := c_at HS.out 0 rfl 4 rfl; have c0_5 := c_at HS.out 0 rfl 5 rfl; have c0_6 := c_at HS.out 0 rfl 6 rfl; have c0_7 := c_at HS.out 0 rfl 7 rfl; have c0_8 := c_at HS.out 0 rfl 8 rfl; have c0_9 := c_at HS.out 0 rfl 9 rfl; have c0_10 := c_at HS.out 0 rfl 10 rfl; have ltc0 := blk_lt (sl_blk HS.out 0 rfl); have c1_0 := c_at HS.out 1 rfl 0 rfl; have c1_1 := c_at HS.out 1 rfl 1 rfl; have c1_2 := c_at HS.out 1 rfl 2 rfl; have c1_3 := c_at HS.out 1 rfl 3 rfl; have ltc1 := blk_lt (sl_blk HS.out 1 rfl); have c2_0 := c_at HS.out 2 rfl 0 rfl; have c2_1 := c_at HS.out 2 rfl 1 rfl; have c2_2 := c_at HS.out 2 rfl 2 rfl; have c2_3 := c_at HS.out 2 rfl 3 rfl; have ltc2 := blk_lt (sl_blk HS.out 2 rfl); have fzc2_0 := f_at HS.out 2 rfl 0; have fzc2_1 := f_at HS.out 2 rfl 1; have fzc2_2 := f_at HS.out 2 rfl 2; have fzc2_3 := f_at HS.out 2 rfl 3)
    | (go_at_call 22; refine (Empty_c (by repeat (with_reducible first | exact HS.out | apply sl_drewN | apply sl_drew | apply sl_box)) b0 b1 b2 b3).mono ?_; rintro e w1 ⟨rfl, hs⟩; (try simp only [World.size_alloc] at hs); replace HS := Aside0.mk hs; clear hs; have c0_0 := c_at HS.out 0 rfl 0 rfl; have c0_1 := c_at HS.out 0 rfl 1 rfl; have c0_2 := c_at HS.out 0 rfl 2 rfl; have c0_3 := c_at HS.out 0 rfl 3 rfl; have c0_4 := c_at HS.out 0 rfl 4 rfl; have c0_5 := c_at HS.out 0 rfl 5 rfl; have c0_6 := c_at HS.out 0 rfl 6 rfl; have c0_7 := c_at HS.out 0 rfl 7 rfl; have c0_8 := c_at HS.out 0 rfl 8 rfl; have c0_9 := c_at HS.out 0 rfl 9 rfl; have c0_10 := c_at HS.out 0 rfl 10 rfl; have ltc0 := blk_lt (sl_blk HS.out 0 rfl); have c1_0 := c_at HS.out 1 rfl 0 rfl; have c1_1 := c_at HS.out 1 rfl 1 rfl; have c1_2 := c_at HS.out 1 rfl 2 rfl; have c1_3 := c_at HS.out 1 rfl 3 rfl; have ltc1 := blk_lt (sl_blk HS.out 1 rfl); have c2_0 := c_at HS.out 2 rfl 0 rfl; have c2_1 := c_at HS.out 2 rfl 1 rfl; have c2_2 := c_at HS.out 2 rfl 2 rfl; have c2_3 := c_at HS.out 2 rfl 3 rfl; have ltc2 := blk_lt (sl_blk HS.out 2 rfl); have fzc2_0 := f_at HS.out 2 rfl 0; have fzc2_1 := f_at HS.out 2 rfl 1; have fzc2_2 := f_at HS.out 2 rfl 2; have fzc2_3 := f_at HS.out 2 rfl 3)
    | (go_at_call 29; refine (HA.out (by repeat (with_reducible first | exact HS.out | apply sl_drewN | apply sl_drew | apply sl_box))).mono ?_; rintro e w1 ⟨rfl, hs⟩; (try simp only [World.size_alloc] at hs); replace HS := Aside0.mk hs; clear hs; have c0_0 := c_at HS.out 0 rfl 0 rfl; have c0_1 := c_at HS.out 0 rfl 1 rfl; have c0_2 := c_at HS.out 0 rfl 2 rfl; have c0_3 := c_at HS.out 0 rfl 3 rfl; have c0_4 := c_at HS.out 0 rfl 4 rfl; have c0_5 := c_at HS.out 0 rfl 5 rfl; have c0_6 := c_at HS.out 0 rfl 6 rfl; have c0_7 := c_at HS.out 0 rfl 7 rfl; have c0_8 := c_at HS.out 0 rfl 8 rfl; have c0_9 := c_at HS.out 0 rfl 9 rfl; have c0_10 := c_at HS.out 0 rfl 10 rfl; have ltc0 := blk_lt (sl_blk HS.out 0 rfl); have c1_0 := c_at HS.out 1 rfl 0 rfl; have c1_1 := c_at HS.out 1 rfl 1 rfl; have c1_2 := c_at HS.out 1 rfl 2 rfl; have c1_3 := c_at HS.out 1 rfl 3 rfl; have ltc1 := blk_lt (sl_blk HS.out 1 rfl); have c2_0 := c_at HS.out 2 rfl 0 rfl; have c2_1 := c_at HS.out 2 rfl 1 rfl; have c2_2 := c_at HS.out 2 rfl 2 rfl; have c2_3 := c_at HS.out 2 rfl 3 rfl; have ltc2 := blk_lt (sl_blk HS.out 2 rfl); have fzc2_0 := f_at HS.out 2 rfl 0; have fzc2_1 := f_at HS.out 2 rfl 1; have fzc2_2 := f_at HS.out 2 rfl 2; have fzc2_3 := f_at HS.out 2 rfl 3)
    | (go_at_call 32; (first | with_reducible refine (HQX.out (by repeat (with_reducible first | exact HS.out | apply sl_drewN | apply sl_drew | apply sl_box))).mono ?_ | with_reducible refine (HQY.out (by repeat (with_reducible first | exact HS.out | apply sl_drewN | apply sl_drew | apply sl_box))).mono ?_); rintro e w1 ⟨rfl, hs⟩; (try simp only [World.size_alloc] at hs); replace HS := Aside0.mk hs; clear hs; have c0_0 := c_at HS.out 0 rfl 0 rfl; have c0_1 := c_at HS.out 0 rfl 1 rfl; have c0_2 := c_at HS.out 0 rfl 2 rfl; have c0_3 := c_at HS.out 0 rfl 3 rfl; have c0_4 := c_at HS.out 0 rfl 4 rfl; have c0_5 := c_at HS.out 0 rfl 5 rfl; have c0_6 := c_at HS.out 0 rfl 6 rfl; have c0_7 := c_at HS.out 0 rfl 7 rfl; have c0_8 := c_at HS.out 0 rfl 8 rfl; have c0_9 := c_at HS.out 0 rfl 9 rfl; have c0_10 := c_at HS.out 0 rfl 10 rfl; have ltc0 := blk_lt (sl_blk HS.out 0 rfl); have c1_0 := c_at HS.out 1 rfl 0 rfl; have c1_1 := c_at HS.out 1 rfl 1 rfl; have c1_2 := c_at HS.out 1 rfl 2 rfl; have c1_3 := c_at HS.out 1 rfl 3 rfl; have ltc1 := blk_lt (sl_blk HS.out 1 rfl); have c2_0 := c_at HS.out 2 rfl 0 rfl; have c2_1 := c_at HS.out 2 rfl 1 rfl; have c2_2 := c_at HS.out 2 rfl 2 rfl; have c2_3 := c_at HS.out 2 rfl 3 rfl; have ltc2 := blk_lt (sl_blk HS.out 2 rfl); have fzc2_0 := f_at HS.out 2 rfl 0; have fzc2_1 := f_at HS.out 2 rfl 1; have fzc2_2 := f_at HS.out 2 rfl 2; have fzc2_3 := f_at HS.out 2 rfl 3; have c3_0 := c_at HS.out 3 rfl 0 rfl; have c3_1 := c_at HS.out 3 rfl 1 rfl; have c3_2 := c_at HS.out 3 rfl 2 rfl; have c3_3 := c_at HS.out 3 rfl 3 rfl; have c3_4 := c_at HS.out 3 rfl 4 rfl; have c3_5 := c_at HS.out 3 rfl 5 rfl; have ltc3 := blk_lt (sl_blk HS.out 3 rfl); have c4_0 := c_at HS.out 4 rfl 0 rfl; have c4_1 := c_at HS.out 4 rfl 1 rfl; have c4_2 := c_at HS.out 4 rfl 2 rfl; have c4_3 := c_at HS.out 4 rfl 3 rfl; have c4_4 := c_at HS.out 4 rfl 4 rfl; have c4_5 := c_at HS.out 4 rfl 5 rfl; have ltc4 := blk_lt (sl_blk HS.out 4 rfl)))
  have hfin := sl_put (sl_put (sl_put (sl_put HS.out 2 rfl 0 (Value.int .i64 X1)) 2 rfl 1 (Value.int .i64 Y1)) 2 rfl 2 (Value.int .i64 X2)) 2 rfl 3 (Value.int .i64 Y2)
  refine bodyPost_ret (results_ct rfl _ _ (w.heap.size + 1 + 1) 23 #[Value.int .i64 X1, Value.int .i64 Y1, Value.int .i64 X2, Value.int .i64 Y2] (0, 0) _ (by rfl) (by exact sl_blk hfin 2 rfl) (by exact Tryd.underlying23) (by rfl) (by kernel_rfl)) rfl ?_
  exact ⟨rfl, sl_below H.out (sl_below0 hfin)⟩
theorem Con_c (hT : Tab w0) (h : SL w0 w L) (p : Pos) (b0 b1 b2 b3 : Int) : Calls Tryd.prog 18 #[.agg #[.int .i64 p.w, .int .i64 p.h, .int .i64 p.x0, .int .i64 p.y0, .int .i64 p.x1, .int .i64 p.y1, .int .i64 p.ae, .int .i64 p.gr, .int .i64 p.ad, .int .i64 p.ox, .int .i64 p.oy], .agg #[.int .i64 b0, .int .i64 b1, .int .i64 b2, .int .i64 b3]] w fun e w' => e = .returned (.tuple #[.agg #[.int .i64 (conV p b0 b1 b2 b3).1, .int .i64 (conV p b0 b1 b2 b3).2.1, .int .i64 (conV p b0 b1 b2 b3).2.2.1, .int .i64 (conV p b0 b1 b2 b3).2.2.2.1], .int .i64 (conV p b0 b1 b2 b3).2.2.2.2]) ∧ SL w0 w' L := by
  unfold conV
  by_cases hc : chk p = 0
  · rw [if_pos hc]
    cases hb : okrB b0 b1 b2 b3
    · exact Con_empty h p b0 b1 b2 b3 hc hb
    · exact Con_yes hT h p b0 b1 b2 b3 hc hb
  · rw [if_neg hc]
    exact Con_no h p b0 b1 b2 b3 hc
end
end Go.Proofs.YtinchgipfaefbaaDoor.Q
