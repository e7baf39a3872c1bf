import Derived.Test.YtinchgipfaefbaaDoorSl
import Derived.Test.YtinchgipfaefbaaDoorHand
import Derived.Test.YtinchgipfaefbaaDoorQx3
import Derived.Test.YtinchgipfaefbaaDoorQx4
import Derived.Test.YtinchgipfaefbaaDoorQx5
import Derived.Test.YtinchgipfaefbaaDoorQx6
import Derived.Test.YtinchgipfaefbaaDoorQx7
namespace Go.Proofs.YtinchgipfaefbaaDoor.Q
open Go.RowKit Go.Proofs.YtinchgipfaefbaaDoorW.PrintWords Go.Proofs.YtinchgipfaefbaaDoorW.PrintLast Go.Proofs.YtinchgipfaefbaaDoorW.PrintMore Go.Proofs.YtinchgipfaefbaaDoor.Sl Go.Proofs.YtinchgipfaefbaaDoor.Hand 
attribute [local go_sem] max2_int min2_int max_two min_two max_three min_three max_four min_four 
set_option linter.unusedVariables false
set_option linter.unusedSimpArgs false

/-! ### What the popup package computes, in plain numbers -/
structure Pos where
  w : Int
  h : Int
  x0 : Int
  y0 : Int
  x1 : Int
  y1 : Int
  ae : Int
  gr : Int
  ad : Int
  ox : Int
  oy : Int
def okr (x0 y0 x1 y1 : Int) : Prop := -16384 ≤ x0 ∧ x0 ≤ 16384 ∧ -16384 ≤ y0 ∧ y0 ≤ 16384 ∧ -16384 ≤ x1 ∧ x1 ≤ 16384 ∧ -16384 ≤ y1 ∧ y1 ≤ 16384 ∧ x0 < x1 ∧ y0 < y1
instance (x0 y0 x1 y1 : Int) : Decidable (okr x0 y0 x1 y1) := by unfold okr; infer_instance
def sz (n : Int) : Bool := decide (1 ≤ n ∧ n ≤ 16384)
def cd (n : Int) : Bool := decide (-16384 ≤ n ∧ n ≤ 16384)
def eg (n : Int) : Bool := decide (0 ≤ n ∧ n ≤ 8)
def okrB (x0 y0 x1 y1 : Int) : Bool := decide (okr x0 y0 x1 y1)
def bits6 (n : Int) : Bool := decide (0 ≤ n ∧ n ≤ 63)
def okRange (p : Pos) : Bool := sz p.w && (sz p.h && (okrB p.x0 p.y0 p.x1 p.y1 && (cd p.ox && cd p.oy)))
def okArg (p : Pos) : Bool := eg p.ae && (eg p.gr && bits6 p.ad)
def chk (p : Pos) : Int := if okRange p = true then (if okArg p = true then 0 else 2) else 6
def sidesX : List Int := [0, 0, 0, -1, 1, -1, -1, 1, 1]
def sidesY : List Int := [0, -1, 1, 0, 0, -1, 1, -1, 1]
def flipsX : List Int := [0, 1, 2, 4, 3, 7, 8, 5, 6]
def flipsY : List Int := [0, 2, 1, 3, 4, 6, 5, 8, 7]
def sideV (e : Int) (hz : Bool) : Int := if hz then sidesX.getD e.toNat 0 else sidesY.getD e.toNat 0
def flipV (e : Int) (hz : Bool) : Int := if 0 ≤ e ∧ e ≤ 8 then (if hz then flipsX.getD e.toNat 0 else flipsY.getD e.toNat 0) else e
def plc (a0 a1 len an gr off : Int) : Int :=
  (if an = -1 then a0 else if an = 1 then a1 else (a0 + a1) / 2) - (if gr = -1 then len else if gr = 0 then len / 2 else 0) + off
def fit (lo hi len at_ : Int) : Bool := decide (lo ≤ at_) && decide (at_ + len ≤ hi)
def adj (len lo hi at_ fl : Int) (flip slide resize : Bool) : Int × Int :=
  if fit lo hi len at_ then (at_, at_ + len)
  else if flip && fit lo hi len fl then (fl, fl + len)
  else
    if resize && !fit lo hi len (if slide then mx (mn at_ (hi - len)) lo else at_) then
      (if mn ((if slide then mx (mn at_ (hi - len)) lo else at_) + len) hi ≤ lo then (lo, lo + 1) else if hi ≤ mx (if slide then mx (mn at_ (hi - len)) lo else at_) lo then (hi - 1, hi) else (mx (if slide then mx (mn at_ (hi - len)) lo else at_) lo, mn ((if slide then mx (mn at_ (hi - len)) lo else at_) + len) hi))
    else ((if slide then mx (mn at_ (hi - len)) lo else at_), (if slide then mx (mn at_ (hi - len)) lo else at_) + len)
def bt_ (a k : Int) : Bool := decide (a / k % 2 = 1)
def plX (p : Pos) : Int := plc p.x0 p.x1 p.w (sideV p.ae true) (sideV p.gr true) p.ox
def plY (p : Pos) : Int := plc p.y0 p.y1 p.h (sideV p.ae false) (sideV p.gr false) p.oy
def flX (p : Pos) : Int := plc p.x0 p.x1 p.w (-sideV p.ae true) (-sideV p.gr true) (-p.ox)
def flY (p : Pos) : Int := plc p.y0 p.y1 p.h (-sideV p.ae false) (-sideV p.gr false) (-p.oy)
def conX (p : Pos) (lo hi : Int) : Int × Int := adj p.w lo hi (plX p) (flX p) (bt_ p.ad 4) (bt_ p.ad 1) (bt_ p.ad 16)
def conY (p : Pos) (lo hi : Int) : Int × Int := adj p.h lo hi (plY p) (flY p) (bt_ p.ad 8) (bt_ p.ad 2) (bt_ p.ad 32)
theorem some_dd {A B : Prop} [Decidable A] [Decidable B] (h : A ↔ B) : some (decide A) = some (decide B) := by simp [h]
theorem some_td {B : Prop} [Decidable B] (h : B) : some true = some (decide B) := by simp [h]
theorem some_fd {B : Prop} [Decidable B] (h : ¬ B) : some false = some (decide B) := by simp [h]
theorem some_dn {A B : Prop} [Decidable A] [Decidable B] (h : A ↔ ¬ B) : some (decide A) = some (!decide B) := by simp [h]
theorem some_tn {B : Prop} [Decidable B] (h : ¬ B) : some true = some (!decide B) := by simp [h]
theorem some_fn {B : Prop} [Decidable B] (h : B) : some false = some (!decide B) := by simp [h]
/-! ### The printed functions compute these -/
theorem f_size (n : Int) : popup_size.f n = some (sz n) := by unfold popup_size.f sz; split <;> first | exact some_dd (by omega) | exact some_td (by omega) | exact some_fd (by omega) | exact some_dn (by omega) | exact some_tn (by omega) | exact some_fn (by omega)
theorem f_off (n : Int) : popup_offset.f n = some (cd n) := by unfold popup_offset.f cd; split <;> first | exact some_dd (by omega) | exact some_td (by omega) | exact some_fd (by omega) | exact some_dn (by omega) | exact some_tn (by omega) | exact some_fn (by omega)
theorem f_valid (n : Int) : rect_valid.f n = some (cd n) := by unfold rect_valid.f cd; split <;> first | exact some_dd (by omega) | exact some_td (by omega) | exact some_fd (by omega) | exact some_dn (by omega) | exact some_tn (by omega) | exact some_fn (by omega)
theorem f_coord (n : Int) : compositorref04_coordinate.f n = some (cd n) := by unfold compositorref04_coordinate.f cd; split <;> first | exact some_dd (by omega) | exact some_td (by omega) | exact some_fd (by omega) | exact some_dn (by omega) | exact some_tn (by omega) | exact some_fn (by omega)
theorem f_far (n : Int) : compositorref21_far.f n = some (!cd n) := by unfold compositorref21_far.f cd; split <;> first | exact some_dd (by omega) | exact some_td (by omega) | exact some_fd (by omega) | exact some_dn (by omega) | exact some_tn (by omega) | exact some_fn (by omega)
theorem f_edge (n : Int) : popup_edge.f n = some (eg n) := by unfold popup_edge.f eg; split <;> first | exact some_dd (by omega) | exact some_td (by omega) | exact some_fd (by omega) | exact some_dn (by omega) | exact some_tn (by omega) | exact some_fn (by omega)
def okv (x0 y0 x1 y1 : Int) : Bool := cd x0 && (cd y0 && (cd x1 && cd y1))
theorem f_Valid (x0 y0 x1 y1 : Int) : rect_Valid.f x0 y0 x1 y1 = some (okv x0 y0 x1 y1) := by
  unfold rect_Valid.f okv
  simp only [f_valid, Option.bind_some]
  cases cd x0 <;> cases cd y0 <;> cases cd x1 <;> rfl
theorem f_Valid4 (x0 y0 x1 y1 : Int) : compositorref04_Valid.f x0 y0 x1 y1 = some (okv x0 y0 x1 y1) := by
  unfold compositorref04_Valid.f okv
  simp only [f_coord, Option.bind_some]
  cases cd x0 <;> cases cd y0 <;> cases cd x1 <;> rfl
theorem okr_iff (x0 y0 x1 y1 : Int) : okr x0 y0 x1 y1 ↔ okv x0 y0 x1 y1 = true ∧ x0 < x1 ∧ y0 < y1 := by
  unfold okr okv cd
  simp only [Bool.and_eq_true, decide_eq_true_eq]
  omega
theorem f_Empty (x0 y0 x1 y1 : Int) : rect_Empty.f x0 y0 x1 y1 = some (!okrB x0 y0 x1 y1) := by
  unfold rect_Empty.f okrB
  rw [f_Valid]
  simp only [Option.bind_some, okr_iff]
  cases okv x0 y0 x1 y1
  · simp
  · simp only [if_true, true_and]
    split
    · exact some_tn (by omega)
    · exact some_dn (by omega)
theorem f_Empty4 (x0 y0 x1 y1 : Int) : compositorref04_Empty.f x0 y0 x1 y1 = some (!okrB x0 y0 x1 y1) := by
  unfold compositorref04_Empty.f okrB
  rw [f_Valid4]
  simp only [Option.bind_some, okr_iff]
  cases okv x0 y0 x1 y1
  · simp
  · simp only [if_true, true_and]
    split
    · exact some_tn (by omega)
    · exact some_dn (by omega)
theorem f_adj (n : Int) : (if n < 0 then some (2 : Int) else if n > 63 then some 2 else some 0) = some (if bits6 n = true then 0 else 2) := by
  unfold bits6
  simp only [decide_eq_true_eq]
  (repeat' split) <;> first | rfl | (exfalso; omega)
theorem f_Check (p : Pos) : popup_Check.f 1 p.w p.h p.x0 p.y0 p.x1 p.y1 p.ae p.gr p.ad p.ox p.oy = some (chk p) := by
  unfold popup_Check.f
  simp only [f_size, f_Empty, f_off, f_edge, f_adj, Option.bind_some, popup_Check.j0]
  unfold chk okRange okArg
  cases sz p.w <;> cases sz p.h <;> cases okrB p.x0 p.y0 p.x1 p.y1 <;> cases cd p.ox <;> cases cd p.oy <;> try rfl
  cases eg p.ae <;> cases eg p.gr <;> cases bits6 p.ad <;> rfl
theorem f_edgeR (a g n : Int) : (if a < 0 then some (2 : Int) else if a > 8 then some 2 else if g < 0 then some 2 else if g > 8 then some 2 else if n < 0 then some 2 else if n > 63 then some 2 else some 0) = some (if (eg a && (eg g && bits6 n)) = true then 0 else 2) := by
  unfold eg bits6
  simp only [Bool.and_eq_true, decide_eq_true_eq]
  (repeat' split) <;> first | rfl | (exfalso; omega)
theorem sz_lt {n : Int} (h : n < 1) : sz n = false := decide_eq_false (by omega)
theorem sz_cd {n : Int} (h : ¬ n < 1) : sz n = cd n := by
  unfold sz cd
  by_cases h2 : n ≤ 16384
  · rw [decide_eq_true (by omega), decide_eq_true (by omega)]
  · rw [decide_eq_false (by omega), decide_eq_false (by omega)]
theorem okrB_v {x0 y0 x1 y1 : Int} (h : okv x0 y0 x1 y1 = false) : okrB x0 y0 x1 y1 = false := decide_eq_false (by rw [okr_iff, h]; simp)
theorem f_CheckR (p : Pos) : compositorref21_Check.f 1 p.w p.h p.x0 p.y0 p.x1 p.y1 p.ae p.gr p.ad p.ox p.oy = some (chk p) := by
  unfold compositorref21_Check.f
  simp only [f_far, f_Empty4, f_Valid4, Option.bind_some, compositorref21_Check.j0, f_edgeR, if_true]
  unfold chk okRange okArg
  by_cases h1 : p.w < 1
  · rw [if_pos h1, sz_lt h1]; rfl
  rw [if_neg h1, sz_cd h1]
  by_cases h2 : p.h < 1
  · rw [if_pos h2, sz_lt h2]; cases cd p.w <;> rfl
  rw [if_neg h2, sz_cd h2]
  cases hv : okv p.x0 p.y0 p.x1 p.y1
  · rw [okrB_v hv]; cases cd p.w <;> cases cd p.h <;> rfl
  cases cd p.w <;> cases cd p.h <;> cases okrB p.x0 p.y0 p.x1 p.y1 <;> cases cd p.ox <;> cases cd p.oy <;> rfl
theorem side_lt (e : Int) (hz : Bool) : -1 ≤ sideV e hz ∧ sideV e hz ≤ 1 := by
  unfold sideV
  generalize e.toNat = n
  cases hz
  · by_cases h : n < 9
    · have : ∀ n < 9, -1 ≤ sidesY.getD n 0 ∧ sidesY.getD n 0 ≤ 1 := by decide
      exact this n h
    · have : sidesY.getD n 0 = 0 := by rw [List.getD_eq_getElem?_getD, List.getElem?_eq_none (by show 9 ≤ n; omega)]; rfl
      simp only [Bool.false_eq_true, if_false, this]; omega
  · by_cases h : n < 9
    · have : ∀ n < 9, -1 ≤ sidesX.getD n 0 ∧ sidesX.getD n 0 ≤ 1 := by decide
      exact this n h
    · have : sidesX.getD n 0 = 0 := by rw [List.getD_eq_getElem?_getD, List.getElem?_eq_none (by show 9 ≤ n; omega)]; rfl
      simp only [if_true, this]; omega
theorem nat_of {e : Int} (h0 : 0 ≤ e) (h1 : e ≤ 8) : ∃ n : Nat, n < 9 ∧ e = n := ⟨e.toNat, by omega, by omega⟩
theorem f_side (e : Int) (hz : Bool) (h0 : 0 ≤ e) (h1 : e ≤ 8) : ∀ k, compositorref21_side.f (k + 1) e hz = some (sideV e hz) := by
  obtain ⟨n, hn, rfl⟩ := nat_of h0 h1
  intro k
  have : n = 0 ∨ n = 1 ∨ n = 2 ∨ n = 3 ∨ n = 4 ∨ n = 5 ∨ n = 6 ∨ n = 7 ∨ n = 8 := by omega
  rcases this with rfl | rfl | rfl | rfl | rfl | rfl | rfl | rfl | rfl <;> cases hz <;> rfl
theorem f_Flip_in (e : Int) (hz : Bool) (h0 : 0 ≤ e) (h1 : e ≤ 8) : compositorref21_Flip.f 20 e hz = some (flipV e hz) := by
  obtain ⟨n, hn, rfl⟩ := nat_of h0 h1
  have : n = 0 ∨ n = 1 ∨ n = 2 ∨ n = 3 ∨ n = 4 ∨ n = 5 ∨ n = 6 ∨ n = 7 ∨ n = 8 := by omega
  rcases this with rfl | rfl | rfl | rfl | rfl | rfl | rfl | rfl | rfl <;> cases hz <;> decide +kernel
theorem f_Flip_l (e : Int) (hz : Bool) (h : e < 1 ∨ 8 < e) (d : Nat) : ∀ (x : Int), 1 ≤ x → 9 - x = d → compositorref21_Flip.l0 (d + 1) e hz x = some e := by
  induction d with
  | zero => intro x hx hd; unfold compositorref21_Flip.l0; rw [if_neg (by omega)]
  | succ d ih =>
    intro x hx hd
    have hw : wrap64 (x + 1) = x + 1 := by unfold wrap64; omega
    unfold compositorref21_Flip.l0
    rw [if_pos (by omega), hw, ih (x + 1) (by omega) (by omega)]
    by_cases h2 : e ≥ 1
    · rw [if_pos h2, if_neg (by omega)]
    · rw [if_neg h2]
theorem f_Flip (e : Int) (hz : Bool) : ∃ k, compositorref21_Flip.f k e hz = some (flipV e hz) := by
  by_cases h : 0 ≤ e ∧ e ≤ 8
  · exact ⟨20, f_Flip_in e hz h.1 h.2⟩
  · refine ⟨9, ?_⟩
    unfold compositorref21_Flip.f flipV
    rw [if_neg h]
    exact f_Flip_l e hz (by omega) 8 1 (by omega) (by omega)
theorem w64 {x : Int} (h0 : -9223372036854775808 ≤ x) (h1 : x < 9223372036854775808) : wrap64 x = x := by unfold wrap64; omega
theorem f_place (a0 a1 len an gr off : Int) (h0 : -16384 ≤ a0) (h1 : a0 ≤ 16384) (h2 : -16384 ≤ a1) (h3 : a1 ≤ 16384) (h4 : 0 ≤ len) (h5 : len ≤ 16384) (h6 : -16384 ≤ off) (h7 : off ≤ 16384) :
    popup_axis_place.f 1 len a0 a1 an gr off = some (plc a0 a1 len an gr off) := by
  unfold popup_axis_place.f plc
  simp only [popup_axis_place.j0]
  have e1 : Int.tdiv len 2 = len / 2 := Int.tdiv_eq_ediv_of_nonneg h4
  rw [e1]
  unfold wrap64
  (repeat' split) <;> first | exact congrArg some (by omega) | (exfalso; omega)
theorem f_placeR (a0 a1 len an gr off : Int) (h0 : -16384 ≤ a0) (h1 : a0 ≤ 16384) (h2 : -16384 ≤ a1) (h3 : a1 ≤ 16384) (h4 : 0 ≤ len) (h5 : len ≤ 16384) (h6 : -16384 ≤ off) (h7 : off ≤ 16384) (ha : -1 ≤ an ∧ an ≤ 1) (hg : -1 ≤ gr ∧ gr ≤ 1) :
    compositorref21_place.f 2 a0 a1 len an gr off = some (plc a0 a1 len an gr off, plc a0 a1 len an gr off + len) := by
  have e1 : Int.tdiv len 2 = len / 2 := Int.tdiv_eq_ediv_of_nonneg h4
  have e2 : wrap64 (a0 + a1) = a0 + a1 := w64 (by omega) (by omega)
  have e3 : compositorref21_floor2.f (a0 + a1) = some ((a0 + a1) / 2) := by
    unfold compositorref21_floor2.f
    split
    · rw [w64 (x := 1 - (a0 + a1)) (by omega) (by omega), Int.tdiv_eq_ediv_of_nonneg (by omega), w64 (x := (1 - (a0 + a1)) / 2) (by omega) (by omega), w64 (by omega) (by omega)]
      exact congrArg some (by omega)
    · rw [Int.tdiv_eq_ediv_of_nonneg (by omega), w64 (by omega) (by omega)]
  unfold compositorref21_place.f
  rw [e2, e3]
  simp only [Option.bind_some, compositorref21_place.j0, compositorref21_place.j1]
  rw [e1]
  unfold plc wrap64
  (repeat' split) <;> first | exact congrArg some (Prod.ext (by show _ = _; omega) (by show _ = _; omega)) | (exfalso; omega)
theorem f_fits (a b lo hi : Int) : compositorref21_fits.f a b lo hi = some (decide (lo ≤ a) && decide (b ≤ hi)) := by
  unfold compositorref21_fits.f
  split
  · rename_i h
    rw [decide_eq_true (show lo ≤ a from h), Bool.true_and]
  · rename_i h
    rw [decide_eq_false (show ¬ lo ≤ a from h), Bool.false_and]
theorem fit_iff (lo hi len x : Int) : fit lo hi len x = true ↔ lo ≤ x ∧ x + len ≤ hi := by unfold fit; simp
theorem fit_d (lo hi len x : Int) : fit lo hi len x = decide (lo ≤ x ∧ x + len ≤ hi) := by
  unfold fit
  by_cases h : lo ≤ x ∧ x + len ≤ hi
  · rw [decide_eq_true h, decide_eq_true h.1, decide_eq_true h.2]; rfl
  · rw [decide_eq_false h]
    by_cases h1 : lo ≤ x
    · rw [decide_eq_true h1, decide_eq_false (fun h2 => h ⟨h1, h2⟩)]; rfl
    · rw [decide_eq_false h1]; rfl
theorem f_fits' (a b lo hi len : Int) (h : b = a + len) : compositorref21_fits.f a b lo hi = some (fit lo hi len a) := by rw [f_fits, h]; rfl
theorem fit_wide {lo hi len x : Int} (h : hi - lo < len) : fit lo hi len x = false := by rw [fit_d]; exact decide_eq_false (by omega)
/-- The last stage. -/
def res (len lo hi x : Int) (resize : Bool) : Int × Int :=
  if resize && !fit lo hi len x then (if mn (x + len) hi ≤ lo then (lo, lo + 1) else if hi ≤ mx x lo then (hi - 1, hi) else (mx x lo, mn (x + len) hi)) else (x, x + len)
theorem adj_res (len lo hi at_ fl : Int) (flip slide resize : Bool) : adj len lo hi at_ fl flip slide resize =
    if fit lo hi len at_ then (at_, at_ + len) else if flip && fit lo hi len fl then (fl, fl + len) else res len lo hi (if slide then mx (mn at_ (hi - len)) lo else at_) resize := rfl
theorem f_j2 (len lo hi x : Int) (resize : Bool) (l0 : -100000 ≤ lo) (l1 : lo < hi) (l2 : hi ≤ 100000) (x0 : -1000000 ≤ x) (x1 : x ≤ 1000000) (n0 : 1 ≤ len) (n1 : len ≤ 16384) : compositorref21_adjust.j2 2 resize x (x + len) lo hi = some (res len lo hi x resize) := by
  unfold res
  simp only [compositorref21_adjust.j2, compositorref21_adjust.j3, f_fits' x (x + len) lo hi len rfl, Option.bind_some]
  cases hf : fit lo hi len x
  · cases resize
    · rfl
    · simp only [if_true, Bool.not_false, Bool.and_self]
      have e1 : wrap64 (lo + 1) = lo + 1 := w64 (by omega) (by omega)
      have e2 : wrap64 (hi - 1) = hi - 1 := w64 (by omega) (by omega)
      rw [e1, e2, if_neg (by decide)]
      unfold mx mn
      (repeat' split) <;> first | rfl | (exfalso; omega)
  · cases resize <;> rfl
theorem f_adjustR (len lo hi at_ fl : Int) (flip slide resize : Bool) (l0 : -100000 ≤ lo) (l1 : lo < hi) (l2 : hi ≤ 100000) (x0 : -100000 ≤ at_) (x1 : at_ ≤ 100000) (n0 : 1 ≤ len) (n1 : len ≤ 16384) :
    compositorref21_adjust.f 4 at_ (at_ + len) fl (fl + len) lo hi flip slide resize = some (adj len lo hi at_ fl flip slide resize) := by
  rw [adj_res]
  unfold compositorref21_adjust.f
  simp only [f_fits' at_ (at_ + len) lo hi len rfl, f_fits' fl (fl + len) lo hi len rfl, Option.bind_some]
  have e1 : wrap64 (at_ + len - at_) = len := by rw [show at_ + len - at_ = len by omega]; exact w64 (by omega) (by omega)
  have e2 : wrap64 (hi - lo) = hi - lo := w64 (by omega) (by omega)
  have e3 : wrap64 (lo + len) = lo + len := w64 (by omega) (by omega)
  have e4 : wrap64 (hi - len) = hi - len := w64 (by omega) (by omega)
  have key : fit lo hi len at_ = false → compositorref21_adjust.j1 3 resize slide at_ (at_ + len) lo hi = some (res len lo hi (if slide then mx (mn at_ (hi - len)) lo else at_) resize) := by
    intro hf
    rw [fit_d] at hf
    have hf2 := of_decide_eq_false hf
    simp only [compositorref21_adjust.j1]
    cases slide
    · exact f_j2 len lo hi at_ resize l0 l1 l2 (by omega) (by omega) n0 n1
    · simp only [if_true]
      rw [e1, e2, e3, e4]
      by_cases h1 : len > hi - lo
      · rw [if_pos h1, show mx (mn at_ (hi - len)) lo = lo by unfold mx mn; (repeat' split) <;> omega]
        exact f_j2 len lo hi lo resize l0 l1 l2 (by omega) (by omega) n0 n1
      · rw [if_neg h1]
        by_cases h2 : at_ < lo
        · rw [if_pos h2, show mx (mn at_ (hi - len)) lo = lo by unfold mx mn; (repeat' split) <;> omega]
          exact f_j2 len lo hi lo resize l0 l1 l2 (by omega) (by omega) n0 n1
        · rw [if_neg h2, show mx (mn at_ (hi - len)) lo = hi - len by unfold mx mn; (repeat' split) <;> omega]
          have := f_j2 len lo hi (hi - len) resize l0 l1 l2 (by omega) (by omega) n0 n1
          rw [show hi - len + len = hi by omega] at this
          exact this
  cases hf : fit lo hi len at_
  · cases flip
    · simp only [compositorref21_adjust.j0, f_fits' at_ (at_ + len) lo hi len rfl, hf, Option.bind_some, Bool.false_and]
      exact key hf
    · cases hg : fit lo hi len fl
      · simp only [compositorref21_adjust.j0, f_fits' at_ (at_ + len) lo hi len rfl, hf, Option.bind_some, Bool.and_false]
        exact key hf
      · rfl
  · simp only [compositorref21_adjust.j0, f_fits' at_ (at_ + len) lo hi len rfl, hf, Option.bind_some, if_true]
    simp only [compositorref21_adjust.j1, compositorref21_adjust.j2, compositorref21_adjust.j3, f_fits' at_ (at_ + len) lo hi len rfl, hf, Option.bind_some]
    rfl
/-! ### Bounds -/
theorem chk_ok {p : Pos} (h : chk p = 0) : (1 ≤ p.w ∧ p.w ≤ 16384) ∧ (1 ≤ p.h ∧ p.h ≤ 16384) ∧ okr p.x0 p.y0 p.x1 p.y1 ∧ (-16384 ≤ p.ox ∧ p.ox ≤ 16384) ∧ (-16384 ≤ p.oy ∧ p.oy ≤ 16384) ∧ (0 ≤ p.ae ∧ p.ae ≤ 8) ∧ (0 ≤ p.gr ∧ p.gr ≤ 8) ∧ (0 ≤ p.ad ∧ p.ad ≤ 63) := by
  unfold chk at h
  by_cases h1 : okRange p = true
  · rw [if_pos h1] at h
    by_cases h2 : okArg p = true
    · unfold okRange sz okrB cd at h1
      unfold okArg eg bits6 at h2
      simp only [Bool.and_eq_true, decide_eq_true_eq] at h1 h2
      exact ⟨h1.1, h1.2.1, h1.2.2.1, h1.2.2.2.1, h1.2.2.2.2, h2.1, h2.2.1, h2.2.2⟩
    · rw [if_neg h2] at h; omega
  · rw [if_neg h1] at h; omega
theorem plc_lt (a0 a1 len an gr off : Int) (h0 : -16384 ≤ a0) (h1 : a0 ≤ 16384) (h2 : -16384 ≤ a1) (h3 : a1 ≤ 16384) (h4 : 0 ≤ len) (h5 : len ≤ 16384) (h6 : -16384 ≤ off) (h7 : off ≤ 16384) : -100000 ≤ plc a0 a1 len an gr off ∧ plc a0 a1 len an gr off ≤ 100000 := by
  unfold plc
  (repeat' split) <;> omega
/-! ### The tables -/
theorem cell_same {w w' : World} {p : Addr} (h : w'.heap[p.block]? = w.heap[p.block]?) : w'.cell? p = w.cell? p := by unfold World.cell?; rw [h]
structure Tab (w : World) : Prop where
  lt : 3 < w.heap.size
  fx : ∀ m, m < 9 → w.cell? ⟨0, m, none⟩ = some (.int .i64 (flipsX.getD m 0))
  fy : ∀ m, m < 9 → w.cell? ⟨1, m, none⟩ = some (.int .i64 (flipsY.getD m 0))
  sx : ∀ m, m < 9 → w.cell? ⟨2, m, none⟩ = some (.int .i64 (sidesX.getD m 0))
  sy : ∀ m, m < 9 → w.cell? ⟨3, m, none⟩ = some (.int .i64 (sidesY.getD m 0))
theorem Tab.below {w w' : World} (h : Tab w) (hb : Below w.heap.size w w') : Tab w' := by
  have h1 := h.lt
  exact ⟨Nat.lt_of_lt_of_le h1 hb.size, fun m hm => (cell_same (hb.block 0 (by omega))).trans (h.fx m hm), fun m hm => (cell_same (hb.block 1 (by omega))).trans (h.fy m hm), fun m hm => (cell_same (hb.block 2 (by omega))).trans (h.sx m hm), fun m hm => (cell_same (hb.block 3 (by omega))).trans (h.sy m hm)⟩
theorem Tab.sl {w0 w : World} {L : List Res} (h : Tab w0) (hs : SL w0 w L) : Tab w := h.below (sl_below0 hs)
theorem sl_d0 {w0 w w' : World} {L : List Res} (h : SL w0 w L) (hd : Drawn0 w w') : SL w0 w' L := by
  obtain ⟨n, rfl⟩ := hd
  exact sl_drewN h n
section
variable {w0 w : World} {L : List Res}
theorem edge_c (h : SL w0 w L) (n : Int) : Calls Tryd.prog 24 #[.int .i64 n] w fun e w' => e = .returned (.bool (eg n)) ∧ SL w0 w' L := by
  refine (popup_edge.calls n (eg n) w (f_edge n)).mono ?_
  rintro e w' ⟨rfl, hd⟩
  exact ⟨rfl, sl_d0 h hd⟩
set_option maxRecDepth 100000 in
theorem Flip_c (hT : Tab w0) (h : SL w0 w L) (n : Int) (hz : Bool) : Calls Tryd.prog 14 #[.int .i64 n, .bool hz] w fun e w' => e = .returned (.int .i64 (flipV n hz)) ∧ SL w0 w' L := by
  have HS := Aside0.mk h
  have HT := Aside0.mk hT
  clear h hT
  by_cases hn : 0 ≤ n ∧ n ≤ 8
  · obtain ⟨m, hm, rfl⟩ := nat_of hn.1 hn.2
    have e1 : eg (m : Int) = true := decide_eq_true hn
    have E := Aside0.mk (show flipV (m : Int) true = flipsX.getD m 0 ∧ flipV (m : Int) false = flipsY.getD m 0 by unfold flipV; rw [if_pos hn, if_pos hn]; exact ⟨rfl, rfl⟩)
    clear hn
    cases hz
    · go_enter Tryd.func14, Tryd.ntmps14
      go_wp2_with (first | (go_at_call 24; refine (edge_c HS.out _).mono ?_; rintro e w1 ⟨rfl, hs⟩; replace HS := Aside0.mk hs; clear hs; have m0 := (HT.out.sl HS.out).fy m hm))
      go_ret
      exact ⟨by rw [E.out.2]; rfl, HS.out⟩
    · go_enter Tryd.func14, Tryd.ntmps14
      go_wp2_with (first | (go_at_call 24; refine (edge_c HS.out _).mono ?_; rintro e w1 ⟨rfl, hs⟩; replace HS := Aside0.mk hs; clear hs; have m0 := (HT.out.sl HS.out).fx m hm))
      go_ret
      exact ⟨by rw [E.out.1]; rfl, HS.out⟩
  · have e1 : eg n = false := decide_eq_false hn
    have E := Aside0.mk (show flipV n hz = n from if_neg hn)
    clear hn
    go_enter Tryd.func14, Tryd.ntmps14
    go_wp2_with (first | (go_at_call 24; refine (edge_c HS.out _).mono ?_; rintro e w1 ⟨rfl, hs⟩; replace HS := Aside0.mk hs; clear hs))
    go_ret
    exact ⟨by rw [E.out]; rfl, HS.out⟩
end
end Go.Proofs.YtinchgipfaefbaaDoor.Q
