import Derived.Test.YtegkkomlpgappaaU1
import Derived.Test.YtegkkomlpgappaaFr
namespace Go.Proofs.Ytegkkomlpgappaa.Q
open Go.RowKit Go.Proofs.YtegkkomlpgappaaW.PrintWords Go.Proofs.YtegkkomlpgappaaW.PrintLast Go.Proofs.YtegkkomlpgappaaW.PrintMore Go.Proofs.Ytegkkomlpgappaa.Sl Go.Proofs.Ytegkkomlpgappaa.Hand 
attribute [local go_sem] max2_int min2_int max_two min_two max_three min_three max_four min_four 
set_option linter.unusedVariables false
set_option linter.unusedSimpArgs false

/-! ### compositorref11_has: function 30 -/
def compositorref11_has.l0 : Nat → List Int → Int → Int → Option (Bool)
  | 0, _, _, _ => none
  | k + 1, x0, x1, x5 => if x5 < (x0.length : Int) then (if 0 ≤ x5 then (if (rd x0 x5) = x1 then (some true) else (compositorref11_has.l0 k x0 x1 (wrap64 (x5 + 1)))) else (none)) else (some false)
def compositorref11_has.f (k : Nat) (l0 : List Int) (a1 : Int) : Option (Bool) := compositorref11_has.l0 k l0 a1 0
theorem compositorref11_has.mono_l : ∀ k, (∀ y0 y1 y2, LeO (compositorref11_has.l0 k y0 y1 y2) (compositorref11_has.l0 (k + 1) y0 y1 y2))
  | 0 => fun _ _ _ r h => by simp [compositorref11_has.l0] at h
  | k + 1 => by
    have ih0 := compositorref11_has.mono_l k
    · intro y0 y1 y2
      unfold compositorref11_has.l0
      repeat' first
      | (with_reducible exact ih0 _ _ _)
      | (with_reducible exact LeO.refl _)
      | (with_reducible exact LeO.none _)
      | (with_reducible refine LeO.ite ?_ ?_)
      | (with_reducible refine LeO.bind ?_ (fun _ => ?_))
      | exact ih0 _ _ _
      | exact LeO.none _
      | refine LeO.ite ?_ ?_
      | refine LeO.bind ?_ (fun _ => ?_)
theorem compositorref11_has.mono : ∀ a0 a1 k, LeO (compositorref11_has.f k a0 a1) (compositorref11_has.f (k + 1) a0 a1) := by
  intro a0 a1 k
  have ih0 := compositorref11_has.mono_l k
  unfold compositorref11_has.f
  repeat' first
      | (with_reducible exact ih0 _ _ _)
      | (with_reducible exact LeO.refl _)
      | (with_reducible exact LeO.none _)
      | (with_reducible refine LeO.ite ?_ ?_)
      | (with_reducible refine LeO.bind ?_ (fun _ => ?_))
      | exact ih0 _ _ _
      | exact LeO.none _
      | refine LeO.ite ?_ ?_
      | refine LeO.bind ?_ (fun _ => ?_)
set_option maxHeartbeats 8000000 in
set_option maxRecDepth 100000 in
theorem compositorref11_has.calls (k : Nat) (A0 : Option Addr) (c0 : Nat) (l0 : List Int) (a1 : Int) (r : Bool) (w : World) (hr0 : Kd.C (Kd.int .u32) w A0 l0.length l0) (hc0 : l0.length ≤ c0) (h : compositorref11_has.f k l0 a1 = some r) :
    Calls Try.prog 30 #[.slice A0 l0.length c0, .int .u32 a1] w fun e w' => e = .returned (.bool r) ∧ Drawn0 w w' := by
  have HR0 := Aside0.mk hr0
  have HC0 := Aside0.mk hc0
  clear hr0 hc0
  have H : (compositorref11_has.l0 k l0 a1 0) = some r := h
  clear h
  have H' := Aside0.mk H
  clear H
  go_enter Try.func30, Try.ntmps30
  go_wp2
  go_loopg [5] k (fun kq v5 w' => ∃ (x5_1 : Int), v5 = .int .i64 x5_1 ∧ Aside0 (compositorref11_has.l0 kq l0 a1 x5_1 = some r) ∧ Aside0 (kq ≤ k) ∧ Drawn0 w w')
  case atStart => exact ⟨(0), (by first | rfl | (simp; done) | (simp [*]; done)), H', ⟨Nat.le_refl _⟩, by repeat (first | exact Drawn0.refl _ | apply Drawn0.step)⟩
  case round =>
    clear H'
    try clear p2
    obtain ⟨x5_1, rfl, HA, HK1, ⟨m1, rfl⟩⟩ := hrel
    cases gk with
    | zero => exact absurd HA.out (by simp [compositorref11_has.l0])
    | succ k1 =>
      have H := HA.out
      clear HA
      simp only [compositorref11_has.l0] at H
      by_cases c3 : x5_1 < (l0.length : Int)
      · rw [if_pos c3] at H
        have c3b0 : decide (x5_1 < (l0.length : Int)) = true := decide_eq_true c3
        clear c3
        by_cases c4 : 0 ≤ x5_1
        · rw [if_pos c4] at H
          have c4b0 : decide (0 ≤ x5_1) = true := decide_eq_true c4
          clear c4
          by_cases c5 : (rd l0 x5_1) = a1
          · rw [if_pos c5] at H
            have c5b0 : ((rd l0 x5_1) == a1) = true := beq_iff_eq.mpr c5
            have c5b1 : ((rd l0 x5_1) != a1) = false := bne_eq_false_iff_eq.mpr c5
            clear c5
            obtain rfl := Option.some.inj H
            have p102 : 0 ≤ (x5_1 : Int) := of_decide_eq_true (by first | (with_reducible assumption) | assumption)
            have q102 : x5_1 < (l0.length : Int) := of_decide_eq_true (by first | (with_reducible assumption) | assumption)
            obtain ⟨ad102, e102, hx102_0⟩ := Kd.at_int HR0.out x5_1 p102 q102
            cases e102
            replace p102 := eq_true p102
            replace q102 := eq_true q102
            go_wp2
            go_ret
            exact ⟨by first | rfl | (simp; done) | (simp [*]; done), by repeat (first | exact Drawn0.refl _ | apply Drawn0.step)⟩
          · rw [if_neg c5] at H
            have c5b0 : ((rd l0 x5_1) == a1) = false := beq_eq_false_iff_ne.mpr c5
            have c5b1 : ((rd l0 x5_1) != a1) = true := bne_iff_ne.mpr c5
            have H' := Aside0.mk H
            clear H
            have p102 : 0 ≤ (x5_1 : Int) := of_decide_eq_true (by first | (with_reducible assumption) | assumption)
            have q102 : x5_1 < (l0.length : Int) := of_decide_eq_true (by first | (with_reducible assumption) | assumption)
            obtain ⟨ad102, e102, hx102_0⟩ := Kd.at_int HR0.out x5_1 p102 q102
            cases e102
            replace p102 := eq_true p102
            replace q102 := eq_true q102
            go_wp2
            go_roundg k1
            case measure => have := HK1.out; omega
            case rel => exact ⟨(wrap64 (x5_1 + 1)), (by first | rfl | (simp; done) | (simp [*]; done)), H', ⟨by have := HK1.out; omega⟩, by repeat (first | exact Drawn0.refl _ | apply Drawn0.step)⟩
        · rw [if_neg c4] at H
          exact absurd H (by simp)
      · rw [if_neg c3] at H
        have c3b0 : decide (x5_1 < (l0.length : Int)) = false := decide_eq_false c3
        clear c3
        obtain rfl := Option.some.inj H
        go_wp2
        go_ret
        exact ⟨by first | rfl | (simp; done) | (simp [*]; done), by repeat (first | exact Drawn0.refl _ | apply Drawn0.step)⟩

/-! ### compositorref11_with: function 33 -/
def compositorref11_with.f (l0 : List Int) (a1 : Int) : Option (List Int) := if ([] : List Int).length + l0.length < 35184372088832 then ((some (([] : List Int) ++ l0 : List Int)).bind fun y103 => (if y103.length < 35184372088832 then (some (y103 ++ [a1])) else (none))) else (none)
set_option maxHeartbeats 8000000 in
set_option maxRecDepth 100000 in
theorem compositorref11_with.calls (A0 : Option Addr) (c0 : Nat) (l0 : List Int) (a1 : Int) (r : List Int) (w : World) (hr0 : Kd.C (Kd.int .u32) w A0 l0.length l0) (hc0 : l0.length ≤ c0) (h : compositorref11_with.f l0 a1 = some r) :
    Calls Try.prog 33 #[.slice A0 l0.length c0, .int .u32 a1] w fun e w' => ∃ v0_ : Value, e = .returned (v0_) ∧ Kd.R (Kd.int .u32) 24 w' w.heap.size (fun _ => True) v0_ r ∧ Below w.heap.size w w' := by
  have HR0 := Aside0.mk hr0
  have HC0 := Aside0.mk hc0
  clear hr0 hc0
  have HB := Aside0.mk (Below.refl w.heap.size w)
  have H : (if ([] : List Int).length + l0.length < 35184372088832 then ((some (([] : List Int) ++ l0 : List Int)).bind fun y103 => (if y103.length < 35184372088832 then (some (y103 ++ [a1])) else (none))) else (none)) = some r := h
  clear h
  by_cases c3 : ([] : List Int).length + l0.length < 35184372088832
  · rw [if_pos c3] at H
    have LMc3 := Aside0.mk c3
    clear c3
    obtain ⟨y103, hy103⟩ : ∃ y_ : List Int, y_ = (([] : List Int) ++ l0) := ⟨_, rfl⟩
    replace H : (if y103.length < 35184372088832 then (some (y103 ++ [a1])) else (none)) = some r := by first | (rw [hy103]; with_reducible exact H) | (have H2_ := (Option.bind_some _ _).symm.trans H; rw [hy103]; with_reducible exact H2_) | (have H2_ := (Option.bind_some _ _).symm.trans H; with_reducible exact H2_) | with_reducible exact H | (rw [hy103]; exact H) | exact H
    have Ny103 := Aside0.mk hy103
    clear hy103
    by_cases c4 : y103.length < 35184372088832
    · rw [if_pos c4] at H
      have LMc4 := Aside0.mk c4
      clear c4
      obtain ⟨y106, hy106⟩ : ∃ y_ : List Int, y_ = (y103 ++ [a1]) := ⟨_, rfl⟩
      replace H : (some y106) = some r := by first | (rw [hy106]; with_reducible exact H) | (have H2_ := (Option.bind_some _ _).symm.trans H; rw [hy106]; with_reducible exact H2_) | (have H2_ := (Option.bind_some _ _).symm.trans H; with_reducible exact H2_) | with_reducible exact H | (rw [hy106]; exact H) | exact H
      have Ny106 := Aside0.mk hy106
      clear hy106
      obtain rfl := Option.some.inj H
      go_enter Try.func33, Try.ntmps33
      go_wp2_with (first | ((with_reducible refine gate_builtin (b := .append) (xs := #[.tmp 6, .tmp 7]) rfl ?_); at_builtin; refine Kd.R_append_rows (Kd.int .u32) (w0 := w) w.heap.size rfl (.tmp 6) (.tmp 7) 33 24 (.int .u32 0) 4 rfl Try.underlying33 info24 rfl (by decide) (by omega) (.slice none 0 0) ([] : List Int) l0 _ _ _ (fun _ => True) (fun _ => False) rfl rfl ?aO ?aR (fun _ _ h => h) (fun _ h => h.elim) ?aF ?aB ?aS ?aL ?_; (case aR => repeat (first | exact HR0.out | (with_reducible refine Kd.C_alloc ?_ _) | (with_reducible refine Kd.C_drewN ?_ _) | (with_reducible refine Kd.C_drew ?_))); (case aB => exact (by repeat (first | (with_reducible first | exact HB.out | apply below_alloc | apply pw_below_drewN | apply below_drew1) | exact HB.out))); (case aF => exact (fun _ _ => trivial)); (case aO => exact ((Kd.R_nil _ _ _ _ (fun _ => True)))); (case aS => exact (below_size (by repeat (first | (with_reducible first | exact HB.out | apply below_alloc | apply pw_below_drewN | apply below_drew1) | exact HB.out)))); (case aL => have := LMc3.out; omega); intro v104 w5 ho hb hg hat; rw [← Ny103.out] at ho; have n0_ := Aside0.mk (hb); have n1_ := Aside0.mk (ho); clear HB; have HB := n0_; have HO105 := n1_; clear n0_ n1_; clear ho hb hg hat) | ((with_reducible refine gate_builtin (b := .append) (xs := #[.tmp 8, .tmp 10]) rfl ?_); at_builtin; refine Kd.R_append (Kd.int .u32) (w0 := w) w.heap.size rfl (.tmp 8) (.tmp 10) 33 24 (.int .u32 0) 4 rfl Try.underlying33 info24 rfl (by decide) (by omega) v104 y103 a1 [.int .u32 a1] (fun _ => True) (fun _ => False) rfl rfl ?aP (fun _ hk => hk.elim) ?aF ?aO ?aB ?aS ?aL ?_; (case aP => exact rfl); (case aB => exact (by repeat (first | (with_reducible first | exact HB.out | apply below_alloc | apply pw_below_drewN | apply below_drew1) | exact HB.out))); (case aF => exact (fun _ _ => trivial)); (case aO => exact (by (with_reducible repeat (first | apply Kd.R_alloc | apply Kd.R_drewN | apply Kd.R_drew)); exact HO105.out)); (case aS => exact (below_size (by repeat (first | (with_reducible first | exact HB.out | apply below_alloc | apply pw_below_drewN | apply below_drew1) | exact HB.out)))); (case aL => have := LMc4.out; omega); intro v107 w6 ho hb hg hat; rw [← Ny106.out] at ho; have n0_ := Aside0.mk (hb); have n1_ := Aside0.mk (ho); clear HB; clear HO105; have HB := n0_; have HO108 := n1_; clear n0_ n1_; clear ho hb hg hat))
      go_ret
      exact ⟨_, by first | rfl | (simp [errW_none, errW_some] <;> rfl) | (simp [*, errW_none, errW_some] <;> rfl), by (with_reducible repeat (first | apply Kd.R_alloc | apply Kd.R_drewN | apply Kd.R_drew)); exact HO108.out, by repeat (first | (with_reducible first | exact HB.out | apply below_alloc | apply pw_below_drewN | apply below_drew1) | exact HB.out)⟩
    · rw [if_neg c4] at H
      exact absurd H (by simp)
  · rw [if_neg c3] at H
    exact absurd H (by simp)

/-! ### compositorref11_without: function 32 -/
def compositorref11_without.l0 : Nat → List Int → Int → List Int → Int → Option (List Int)
  | 0, _, _, _, _ => none
  | k + 1, x0, x1, x5, x6 => if x6 < (x0.length : Int) then (if 0 ≤ x6 then (if (rd x0 x6) = x1 then (compositorref11_without.l0 k x0 x1 x5 (wrap64 (x6 + 1))) else (if x5.length < 35184372088832 then (compositorref11_without.l0 k x0 x1 (x5 ++ [rd x0 x6]) (wrap64 (x6 + 1))) else (none))) else (none)) else (some x5)
def compositorref11_without.f (k : Nat) (l0 : List Int) (a1 : Int) : Option (List Int) := compositorref11_without.l0 k l0 a1 ([] : List Int) 0
theorem compositorref11_without.mono_l : ∀ k, (∀ y0 y1 y2 y3, LeO (compositorref11_without.l0 k y0 y1 y2 y3) (compositorref11_without.l0 (k + 1) y0 y1 y2 y3))
  | 0 => fun _ _ _ _ r h => by simp [compositorref11_without.l0] at h
  | k + 1 => by
    have ih0 := compositorref11_without.mono_l k
    · intro y0 y1 y2 y3
      unfold compositorref11_without.l0
      repeat' first
      | (with_reducible exact ih0 _ _ _ _)
      | (with_reducible exact LeO.refl _)
      | (with_reducible exact LeO.none _)
      | (with_reducible refine LeO.ite ?_ ?_)
      | (with_reducible refine LeO.bind ?_ (fun _ => ?_))
      | exact ih0 _ _ _ _
      | exact LeO.none _
      | refine LeO.ite ?_ ?_
      | refine LeO.bind ?_ (fun _ => ?_)
theorem compositorref11_without.mono : ∀ a0 a1 k, LeO (compositorref11_without.f k a0 a1) (compositorref11_without.f (k + 1) a0 a1) := by
  intro a0 a1 k
  have ih0 := compositorref11_without.mono_l k
  unfold compositorref11_without.f
  repeat' first
      | (with_reducible exact ih0 _ _ _ _)
      | (with_reducible exact LeO.refl _)
      | (with_reducible exact LeO.none _)
      | (with_reducible refine LeO.ite ?_ ?_)
      | (with_reducible refine LeO.bind ?_ (fun _ => ?_))
      | exact ih0 _ _ _ _
      | exact LeO.none _
      | refine LeO.ite ?_ ?_
      | refine LeO.bind ?_ (fun _ => ?_)
set_option maxHeartbeats 8000000 in
set_option maxRecDepth 100000 in
theorem compositorref11_without.calls (k : Nat) (A0 : Option Addr) (c0 : Nat) (l0 : List Int) (a1 : Int) (r : List Int) (w : World) (hr0 : Kd.C (Kd.int .u32) w A0 l0.length l0) (hc0 : l0.length ≤ c0) (h : compositorref11_without.f k l0 a1 = some r) :
    Calls Try.prog 32 #[.slice A0 l0.length c0, .int .u32 a1] w fun e w' => ∃ v0_ : Value, e = .returned (v0_) ∧ Kd.R (Kd.int .u32) 24 w' w.heap.size (fun _ => True) v0_ r ∧ Below w.heap.size w w' := by
  have HR0 := Aside0.mk hr0
  have HC0 := Aside0.mk hc0
  clear hr0 hc0
  have HB := Aside0.mk (Below.refl w.heap.size w)
  have H : (compositorref11_without.l0 k l0 a1 ([] : List Int) 0) = some r := h
  clear h
  have H' := Aside0.mk H
  clear H
  go_enter Try.func32, Try.ntmps32
  go_wp2
  go_loopg [5, 6] k (fun kq v5 v6 w' => ∃ (x5_1 : List Int) (x6_1 : Int), v6 = .int .i64 x6_1 ∧ Aside0 (compositorref11_without.l0 kq l0 a1 x5_1 x6_1 = some r) ∧ Aside0 (kq ≤ k) ∧ Aside0 (Kd.R (Kd.int .u32) 24 w' w.heap.size (fun _ => True) v5 x5_1) ∧ Aside0 (Below w.heap.size w w'))
  case atStart => exact ⟨(([] : List Int)), (0), (by first | rfl | (simp; done) | (simp [*]; done)), H', ⟨Nat.le_refl _⟩, ⟨by first | exact Kd.R_nil _ _ _ _ _ | exact Kd.N_nil _ _ _ _ _ | exact Kd.V_nil _ _ _ _ _ | exact Kd.Q_nil _ _ _ _ _ | exact Kd.S_nil _ _ _ _ _⟩, ⟨by repeat (first | (with_reducible first | exact HB.out | apply below_alloc | apply pw_below_drewN | apply below_drew1) | exact HB.out)⟩⟩
  case round =>
    clear H'
    try clear p2
    obtain ⟨x5_1, x6_1, rfl, HA, HK1, HO_5, HB⟩ := hrel
    cases gk with
    | zero => exact absurd HA.out (by simp [compositorref11_without.l0])
    | succ k1 =>
      have H := HA.out
      clear HA
      simp only [compositorref11_without.l0] at H
      by_cases c3 : x6_1 < (l0.length : Int)
      · rw [if_pos c3] at H
        have c3b0 : decide (x6_1 < (l0.length : Int)) = true := decide_eq_true c3
        clear c3
        by_cases c4 : 0 ≤ x6_1
        · rw [if_pos c4] at H
          have c4b0 : decide (0 ≤ x6_1) = true := decide_eq_true c4
          clear c4
          by_cases c5 : (rd l0 x6_1) = a1
          · rw [if_pos c5] at H
            have c5b0 : ((rd l0 x6_1) == a1) = true := beq_iff_eq.mpr c5
            have c5b1 : ((rd l0 x6_1) != a1) = false := bne_eq_false_iff_eq.mpr c5
            clear c5
            have H' := Aside0.mk H
            clear H
            have p138 : 0 ≤ (x6_1 : Int) := of_decide_eq_true (by first | (with_reducible assumption) | assumption)
            have q138 : x6_1 < (l0.length : Int) := of_decide_eq_true (by first | (with_reducible assumption) | assumption)
            obtain ⟨ad138, e138, hx138_0⟩ := Kd.at_int HR0.out x6_1 p138 q138
            cases e138
            replace hx138_0 := (HB.out.cell (World.block_lt_of_cell? w _ hx138_0)).trans hx138_0
            replace p138 := eq_true p138
            replace q138 := eq_true q138
            go_wp2
            go_roundg k1
            case measure => have := HK1.out; omega
            case rel => exact ⟨(x5_1), (wrap64 (x6_1 + 1)), (by first | rfl | (simp; done) | (simp [*]; done)), H', ⟨by have := HK1.out; omega⟩, ⟨by (with_reducible repeat (first | apply Kd.R_alloc | apply Kd.R_drewN | apply Kd.R_drew)); exact HO_5.out⟩, ⟨by repeat (first | (with_reducible first | exact HB.out | apply below_alloc | apply pw_below_drewN | apply below_drew1) | exact HB.out)⟩⟩
          · rw [if_neg c5] at H
            have c5b0 : ((rd l0 x6_1) == a1) = false := beq_eq_false_iff_ne.mpr c5
            have c5b1 : ((rd l0 x6_1) != a1) = true := bne_iff_ne.mpr c5
            by_cases c6 : x5_1.length < 35184372088832
            · rw [if_pos c6] at H
              have LMc6 := Aside0.mk c6
              clear c6
              obtain ⟨y140, hy140⟩ : ∃ y_ : List Int, y_ = (x5_1 ++ [rd l0 x6_1]) := ⟨_, rfl⟩
              replace H : (compositorref11_without.l0 k1 l0 a1 y140 (wrap64 (x6_1 + 1))) = some r := by first | (rw [hy140]; with_reducible exact H) | (have H2_ := (Option.bind_some _ _).symm.trans H; rw [hy140]; with_reducible exact H2_) | (have H2_ := (Option.bind_some _ _).symm.trans H; with_reducible exact H2_) | with_reducible exact H | (rw [hy140]; exact H) | exact H
              have Ny140 := Aside0.mk hy140
              clear hy140
              have H' := Aside0.mk H
              clear H
              have p138 : 0 ≤ (x6_1 : Int) := of_decide_eq_true (by first | (with_reducible assumption) | assumption)
              have q138 : x6_1 < (l0.length : Int) := of_decide_eq_true (by first | (with_reducible assumption) | assumption)
              obtain ⟨ad138, e138, hx138_0⟩ := Kd.at_int HR0.out x6_1 p138 q138
              cases e138
              replace hx138_0 := (HB.out.cell (World.block_lt_of_cell? w _ hx138_0)).trans hx138_0
              replace p138 := eq_true p138
              replace q138 := eq_true q138
              have p139 : 0 ≤ (x6_1 : Int) := of_decide_eq_true (by first | (with_reducible assumption) | assumption)
              have q139 : x6_1 < (l0.length : Int) := of_decide_eq_true (by first | (with_reducible assumption) | assumption)
              obtain ⟨ad139, e139, hx139_0⟩ := Kd.at_int HR0.out x6_1 p139 q139
              obtain rfl : ad138 = ad139 := (by injection e139)
              replace hx139_0 := (HB.out.cell (World.block_lt_of_cell? w _ hx139_0)).trans hx139_0
              replace p139 := eq_true p139
              replace q139 := eq_true q139
              go_wp2_with (first | ((with_reducible refine gate_builtin (b := .append) (xs := #[.tmp 19, .tmp 24]) rfl ?_); at_builtin; refine Kd.R_append (Kd.int .u32) (w0 := w) w.heap.size rfl (.tmp 19) (.tmp 24) 33 24 (.int .u32 0) 4 rfl Try.underlying33 info24 rfl (by decide) (by omega) u5 x5_1 (rd l0 x6_1) [.int .u32 (rd l0 x6_1)] (fun _ => True) (fun _ => False) rfl rfl ?aP (fun _ hk => hk.elim) ?aF ?aO ?aB ?aS ?aL ?_; (case aP => exact rfl); (case aB => exact (by repeat (first | (with_reducible first | exact HB.out | apply below_alloc | apply pw_below_drewN | apply below_drew1) | exact HB.out))); (case aF => exact (fun _ _ => trivial)); (case aO => exact (by (with_reducible repeat (first | apply Kd.R_alloc | apply Kd.R_drewN | apply Kd.R_drew)); exact HO_5.out)); (case aS => exact (below_size (by repeat (first | (with_reducible first | exact HB.out | apply below_alloc | apply pw_below_drewN | apply below_drew1) | exact HB.out)))); (case aL => have := LMc6.out; omega); intro v141 w7 ho hb hg hat; rw [← Ny140.out] at ho; have n0_ := Aside0.mk (hb); have n1_ := Aside0.mk (ho); clear HB; clear HO_5; have HB := n0_; have HO142 := n1_; clear n0_ n1_; clear ho hb hg hat))
              go_roundg k1
              case measure => have := HK1.out; omega
              case rel => exact ⟨(y140), (wrap64 (x6_1 + 1)), (by first | rfl | (simp; done) | (simp [*]; done)), H', ⟨by have := HK1.out; omega⟩, ⟨by (with_reducible repeat (first | apply Kd.R_alloc | apply Kd.R_drewN | apply Kd.R_drew)); exact HO142.out⟩, ⟨by repeat (first | (with_reducible first | exact HB.out | apply below_alloc | apply pw_below_drewN | apply below_drew1) | exact HB.out)⟩⟩
            · rw [if_neg c6] at H
              exact absurd H (by simp)
        · rw [if_neg c4] at H
          exact absurd H (by simp)
      · rw [if_neg c3] at H
        have c3b0 : decide (x6_1 < (l0.length : Int)) = false := decide_eq_false c3
        clear c3
        obtain rfl := Option.some.inj H
        go_wp2
        go_ret
        exact ⟨_, by first | rfl | (simp [errW_none, errW_some] <;> rfl) | (simp [*, errW_none, errW_some] <;> rfl), by (with_reducible repeat (first | apply Kd.R_alloc | apply Kd.R_drewN | apply Kd.R_drew)); exact HO_5.out, by repeat (first | (with_reducible first | exact HB.out | apply below_alloc | apply pw_below_drewN | apply below_drew1) | exact HB.out)⟩

theorem rhas_l (l : List Int) (x : Int) (hl : l.length ≤ 1000000) (d : Nat) : ∀ i : Nat, i + d = l.length → compositorref11_has.l0 (d + 1) l x (i : Int) = some (decide (x ∈ l.drop i)) := by
  induction d with
  | zero =>
    intro i hi
    unfold compositorref11_has.l0
    rw [if_neg (by omega), List.drop_eq_nil_of_le (by omega)]
    simp
  | succ d ih =>
    intro i hi
    unfold compositorref11_has.l0
    rw [if_pos (by omega), if_pos (by omega), rd_get (by omega), List.drop_eq_getElem_cons (by omega)]
    by_cases he : l[i]'(by omega) = x
    · rw [if_pos he, decide_eq_true (by rw [he]; simp)]
    · have hw : wrap64 ((i : Int) + 1) = ((i + 1 : Nat) : Int) := by unfold wrap64; omega
      rw [if_neg he, hw, ih (i + 1) (by omega)]
      congr 1
      exact decide_eq_decide.2 ⟨fun h => List.mem_cons_of_mem _ h, fun h => (List.mem_cons.1 h).resolve_left (fun e => he e.symm)⟩
theorem rhas_c {w0 w : World} {L : List Res} (h : SL w0 w L) (A : Option Addr) (c n : Nat) (l : List Int) (x : Int) (hn : n = l.length) (hr : Kd.C (Kd.int .u32) w A l.length l) (hc : l.length ≤ c) (hl : l.length ≤ 1000000) :
    Calls Try.prog 30 #[.slice A n c, .int .u32 x] w fun e w' => e = .returned (.bool (decide (x ∈ l))) ∧ SL w0 w' L := by
  subst hn
  refine (compositorref11_has.calls (l.length + 1) A c l x _ w hr hc (rhas_l l x hl l.length 0 (by omega))).mono ?_
  rintro e w' ⟨rfl, n, rfl⟩
  exact ⟨rfl, sl_drewN h n⟩
theorem rwithout_l (l : List Int) (x : Int) (hl : l.length ≤ 1000000) (d : Nat) : ∀ (i : Nat) (o : List Int), i + d = l.length → o.length ≤ i → compositorref11_without.l0 (d + 1) l x o (i : Int) = some (o ++ delS (l.drop i) x) := by
  induction d with
  | zero =>
    intro i o hi ho
    unfold compositorref11_without.l0
    rw [if_neg (by omega), List.drop_eq_nil_of_le (by omega)]
    simp [delS]
  | succ d ih =>
    intro i o hi ho
    unfold compositorref11_without.l0
    have hw : wrap64 ((i : Int) + 1) = ((i + 1 : Nat) : Int) := by unfold wrap64; omega
    rw [if_pos (by omega), if_pos (by omega), rd_get (by omega), List.drop_eq_getElem_cons (by omega), hw]
    unfold delS
    by_cases he : l[i]'(by omega) = x
    · rw [if_pos he, ih (i + 1) o (by omega) (by omega), List.filter_cons, if_neg (by simp [he])]
      rfl
    · rw [if_neg he, if_pos (by omega), ih (i + 1) (o ++ [l[i]'(by omega)]) (by omega) (by rw [List.length_append, List.length_singleton]; omega), List.filter_cons, if_pos (by simp [he])]
      simp [delS]
theorem rwithout_c {w0 w : World} {L : List Res} (h : SL w0 w L) (A : Option Addr) (c n : Nat) (l : List Int) (x : Int) (hn : n = l.length) (hr : Kd.C (Kd.int .u32) w A l.length l) (hc : l.length ≤ c) (hl : l.length ≤ 1000000) :
    Calls Try.prog 32 #[.slice A n c, .int .u32 x] w fun e w' => ∃ A' c', e = .returned (.slice A' (delS l x).length c') ∧ SL w0 w' (L ++ [row32 (.slice A' (delS l x).length c') (delS l x)]) := by
  subst hn
  refine (compositorref11_without.calls (l.length + 1) A c l x _ w hr hc (by have := rwithout_l l x hl l.length 0 [] (by omega) (Nat.le_refl _); rw [List.nil_append, List.drop_zero] at this; exact this)).mono ?_
  rintro e w' ⟨v, rfl, h2, h3⟩
  obtain ⟨A', c', rfl⟩ := Kd.R_slice h2
  exact ⟨A', c', rfl, sl_new h h3 (F := fun k => w.heap.size ≤ k ∧ k < w'.heap.size) (Kd.R_lower (Kd.R_mono (Kd.R_bound h2) (fun k hk => ⟨hk.2.1, hk.2.2.1⟩)) (Nat.zero_le _)) (fun k hk => hk)⟩
/-! ### The reference's table: slices that are only read -/
abbrev XS := Option Addr × Nat × Option Addr × Nat
def refX (x : XS) (s : TSt) : Res where
  P := fun w F => FR (Kd.int .u32) w F (.slice x.1 s.live.length x.2.1) s.live ∧ FR (Kd.int .u32) w F (.slice x.2.2.1 s.rel.length x.2.2.2) s.rel
  loc := fun ⟨h1, h2⟩ hm => ⟨h1.step' hm, h2.step' hm⟩
abbrev rcX (x : XS) (s : TSt) : Array Value := #[.bool s.srv, .int .i64 s.lar, .slice x.1 s.live.length x.2.1, .slice x.2.2.1 s.rel.length x.2.2.2]
abbrev rvX (x : XS) (s : TSt) : Value := .agg (rcX x s)
abbrev rc0 : Array Value := #[.bool false, .int .i64 0, .slice none 0 0, .slice none 0 0]
theorem fr_slice {w : World} {F : Nat → Prop} {A : Option Addr} {n c : Nat} {xs : List Int} (h : FR (Kd.int .u32) w F (.slice A n c) xs) : n = xs.length ∧ xs.length ≤ c ∧ Kd.C (Kd.int .u32) w A xs.length xs := by
  obtain ⟨A', c', e, hc, hC⟩ := h.reads
  injection e with e1 e2 e3
  subst e1; subst e2; subst e3
  exact ⟨rfl, hc, hC⟩
theorem fr_row {w : World} {F : Nat → Prop} {A : Option Addr} {n c : Nat} {xs : List Int} (h : Kd.R (Kd.int .u32) 24 w 0 F (.slice A n c) xs) : FR (Kd.int .u32) w F (.slice A n c) xs := by
  obtain ⟨h1, h2, h3⟩ := Kd.R_reads' h
  subst h1
  exact ⟨A, c, rfl, h2, fun W' hW => (Kd.R_reads' (Kd.R_step h hW)).2.2⟩
section
variable {w0 w : World} {L : List Res}
theorem sl_ref (h : SL w0 w L) (i : Nat) {x : XS} {s : TSt} (hi : L[i]? = some (refX x s)) : (s.live.length ≤ x.2.1 ∧ Kd.C (Kd.int .u32) w x.1 s.live.length s.live) ∧ s.rel.length ≤ x.2.2.2 ∧ Kd.C (Kd.int .u32) w x.2.2.1 s.rel.length s.rel := by
  obtain ⟨F, h1, _, _⟩ := sl_upd h hi
  exact ⟨(fr_slice h1.1).2, (fr_slice h1.2).2⟩
theorem ref_live (h : SL w0 w L) (i j : Nat) (hij : i ≠ j) {x : XS} {s : TSt} {A : Option Addr} {n c : Nat} {xs : List Int} (m : Int) (hn : n = xs.length) (hi : L[i]? = some (refX x s)) (hj : L[j]? = some (row32 (.slice A n c) xs)) :
    SL w0 w (((L.set i (andR (refX x s) (row32 (.slice A n c) xs))).set j noneR).set i (refX (A, c, x.2.2) ⟨s.srv, xs, s.rel, m⟩)) := by
  have hil : i < L.length := (List.getElem?_eq_some_iff.1 hi).1
  subst hn
  refine sl_imp (sl_merge h i j hij hi hj) (by rw [List.getElem?_set_ne (Ne.symm hij), List.getElem?_set_self hil]) (fun F hP => ?_)
  obtain ⟨F1, F2, h1, h2, h3, h4, h5⟩ := hP
  exact ⟨(fr_row h2).mono fun k hk _ => h4 k hk, h1.2.mono fun k hk _ => h3 k hk⟩
theorem ref_rel (h : SL w0 w L) (i j : Nat) (hij : i ≠ j) {x : XS} {s : TSt} {A : Option Addr} {n c : Nat} {xs : List Int} (hn : n = xs.length) (hi : L[i]? = some (refX x s)) (hj : L[j]? = some (row32 (.slice A n c) xs)) :
    SL w0 w (((L.set i (andR (refX x s) (row32 (.slice A n c) xs))).set j noneR).set i (refX (x.1, x.2.1, A, c) ⟨s.srv, s.live, xs, s.lar⟩)) := by
  have hil : i < L.length := (List.getElem?_eq_some_iff.1 hi).1
  subst hn
  refine sl_imp (sl_merge h i j hij hi hj) (by rw [List.getElem?_set_ne (Ne.symm hij), List.getElem?_set_self hil]) (fun F hP => ?_)
  obtain ⟨F1, F2, h1, h2, h3, h4, h5⟩ := hP
  exact ⟨h1.1.mono fun k hk _ => h3 k hk, (fr_row h2).mono fun k hk _ => h4 k hk⟩
theorem liftX {P : Program} {f : FuncId} {args : Array Value} {X : Type} {ret : X → Ending} {A : Res} {B : X → Res} (h : SL w0 w L) (i : Nat) (hi : L[i]? = some A) (hc : ∀ {R : Res}, SL w0 w [A, R] → Calls P f args w fun e w' => ∃ x, e = ret x ∧ SL w0 w' [B x, R]) :
    Calls P f args w fun e w' => ∃ x, e = ret x ∧ SL w0 w' (L.set i (B x)) := by
  obtain ⟨S, h1, h2⟩ := sl_lift h hi
  refine (hc h1).mono ?_
  rintro e w' ⟨x, rfl, h4⟩
  have := h2 _ _ [] h4
  rw [List.append_nil] at this
  exact ⟨x, rfl, this⟩
theorem with_c (h : SL w0 w L) (A : Option Addr) (c n : Nat) (l : List Int) (x : Int) (hn : n = l.length) (hr : Kd.C (Kd.int .u32) w A l.length l) (hc : l.length ≤ c) (hl : l.length ≤ 1000000) :
    Calls Try.prog 33 #[.slice A n c, .int .u32 x] w fun e w' => ∃ A' c', e = .returned (.slice A' (l.length + 1) c') ∧ SL w0 w' (L ++ [row32 (.slice A' (l.length + 1) c') (l ++ [x])]) := by
  subst hn
  refine (compositorref11_with.calls A c l x (l ++ [x]) w hr hc (by
    unfold compositorref11_with.f
    rw [if_pos (by simp; omega)]
    simp only [List.nil_append, Option.bind_some]
    rw [if_pos (by omega)])).mono ?_
  rintro e w' ⟨v, rfl, h2, h3⟩
  obtain ⟨A', c', rfl⟩ := Kd.R_slice h2
  rw [List.length_append, List.length_singleton] at h2 ⊢
  exact ⟨A', c', rfl, sl_new h h3 (F := fun k => w.heap.size ≤ k ∧ k < w'.heap.size) (Kd.R_lower (Kd.R_mono (Kd.R_bound h2) (fun k hk => ⟨hk.2.1, hk.2.2.1⟩)) (Nat.zero_le _)) (fun k hk => hk)⟩
theorem rhas_live (h : SL w0 w L) (i : Nat) {x : XS} {s : TSt} (hi : L[i]? = some (refX x s)) (id : Int) (hl : s.live.length ≤ 1000000) {b : Bool} (hb : decide (id ∈ s.live) = b) : Calls Try.prog 30 #[.slice x.1 s.live.length x.2.1, .int .u32 id] w fun e w' => e = .returned (.bool b) ∧ SL w0 w' L := by
  subst hb
  obtain ⟨⟨h1, h2⟩, _⟩ := sl_ref h i hi
  exact rhas_c h x.1 x.2.1 _ s.live id rfl h2 h1 hl
theorem rhas_rel (h : SL w0 w L) (i : Nat) {x : XS} {s : TSt} (hi : L[i]? = some (refX x s)) (id : Int) (hl : s.rel.length ≤ 1000000) {b : Bool} (hb : decide (id ∈ s.rel) = b) : Calls Try.prog 30 #[.slice x.2.2.1 s.rel.length x.2.2.2, .int .u32 id] w fun e w' => e = .returned (.bool b) ∧ SL w0 w' L := by
  subst hb
  obtain ⟨_, h1, h2⟩ := sl_ref h i hi
  exact rhas_c h x.2.2.1 x.2.2.2 _ s.rel id rfl h2 h1 hl
end
section
variable {w0 w : World} {R : Res}
set_option maxHeartbeats 1000000 in
theorem used_in (x : XS) (s : TSt) (id : Int) (hs : SL w0 w [refX x s, R]) (hl : s.live.length ≤ 1000000) (h0 : 0 ≤ id) (h1 : id < 4294967296) : Calls Try.prog 31 #[rvX x s, .int .u32 id] w fun e w' => ∃ y, e = .returned (rvX y ⟨s.srv, s.live ++ [id], s.rel, mxI s.lar id⟩) ∧ SL w0 w' [refX y ⟨s.srv, s.live ++ [id], s.rel, mxI s.lar id⟩, R] := by
  have HS := Aside0.mk hs
  have HLn := Aside0.mk hl
  clear hs hl
  by_cases c : s.lar < id
  · have c2 : ¬ id ≤ s.lar := by omega
    rw [show mxI s.lar id = id by unfold mxI; split <;> omega]
    go_enter Try.func31, Try.ntmps31
    go_wp2_with (first
      | (go_at_call 33; (first | refine (with_c (by repeat (with_reducible first | exact HS.out | apply sl_drewN | apply sl_drew | apply sl_box | apply sl_alloc)) x.1 x.2.1 _ s.live id rfl (sl_ref (by repeat (with_reducible first | exact HS.out | apply sl_drewN | apply sl_drew | apply sl_box | apply sl_alloc)) 0 rfl).1.2 (sl_ref (by repeat (with_reducible first | exact HS.out | apply sl_drewN | apply sl_drew | apply sl_box | apply sl_alloc)) 0 rfl).1.1 HLn.out).mono ?_); rintro e w1 ⟨A3, c3, rfl, hs⟩; (try simp only [World.size_alloc] at hs); replace HS := Aside0.mk hs; clear hs; (try clear a0 a1 a2 a3 fa1 fa2 fa3 la); (try (have a0 := c_at HS.out 2 rfl 0 rfl; have a1 := c_at HS.out 2 rfl 1 rfl; have a2 := c_at HS.out 2 rfl 2 rfl; have a3 := c_at HS.out 2 rfl 3 rfl; have fa1 := f_at HS.out 2 rfl 1; have fa2 := f_at HS.out 2 rfl 2; have fa3 := f_at HS.out 2 rfl 3; have la := blk_lt (sl_blk HS.out 2 rfl))))
      | (refine wpList_store_row rfl 35 _ _ rfl _ (#[.bool s.srv, .int .i64 id, .slice A3 (s.live.length + 1) c3, .slice x.2.2.1 s.rel.length x.2.2.2]) rfl rfl 35 (rc0) (sl_blk (sl_put (sl_put HS.out 2 rfl 2 (.slice A3 (s.live.length + 1) c3)) 2 rfl 1 (.int .i64 id)) 3 rfl) (by kernel_rfl) rfl (by simp [Value.oneCell']) ?_; have hs := sl_row (sl_put (sl_put HS.out 2 rfl 2 (.slice A3 (s.live.length + 1) c3)) 2 rfl 1 (.int .i64 id)) 3 rfl (#[.bool s.srv, .int .i64 id, .slice A3 (s.live.length + 1) c3, .slice x.2.2.1 s.rel.length x.2.2.2]); (try simp only [World.size_alloc] at hs); replace HS := Aside0.mk hs; clear hs))
    try rw [Exit.noGoto_ret]
    refine bodyPost_ret (results_cell_row rfl _ _ _ 35 (#[.bool s.srv, .int .i64 id, .slice A3 (s.live.length + 1) c3, .slice x.2.2.1 s.rel.length x.2.2.2]) (0, 0) _ rfl (sl_blk HS.out 3 rfl) Try.underlying35 rfl (by kernel_rfl)) rfl ?_
    exact ⟨(A3, c3, x.2.2), by simp only [rvX, rcX, List.length_append, List.length_singleton], sl_take (ref_live HS.out 0 4 (by decide) id (by simp) rfl rfl) 2⟩
  · have c2 : id ≤ s.lar := by omega
    rw [show mxI s.lar id = s.lar by unfold mxI; split <;> omega]
    go_enter Try.func31, Try.ntmps31
    go_wp2_with (first
      | (go_at_call 33; (first | refine (with_c (by repeat (with_reducible first | exact HS.out | apply sl_drewN | apply sl_drew | apply sl_box | apply sl_alloc)) x.1 x.2.1 _ s.live id rfl (sl_ref (by repeat (with_reducible first | exact HS.out | apply sl_drewN | apply sl_drew | apply sl_box | apply sl_alloc)) 0 rfl).1.2 (sl_ref (by repeat (with_reducible first | exact HS.out | apply sl_drewN | apply sl_drew | apply sl_box | apply sl_alloc)) 0 rfl).1.1 HLn.out).mono ?_); rintro e w1 ⟨A3, c3, rfl, hs⟩; (try simp only [World.size_alloc] at hs); replace HS := Aside0.mk hs; clear hs; (try clear a0 a1 a2 a3 fa1 fa2 fa3 la); (try (have a0 := c_at HS.out 2 rfl 0 rfl; have a1 := c_at HS.out 2 rfl 1 rfl; have a2 := c_at HS.out 2 rfl 2 rfl; have a3 := c_at HS.out 2 rfl 3 rfl; have fa1 := f_at HS.out 2 rfl 1; have fa2 := f_at HS.out 2 rfl 2; have fa3 := f_at HS.out 2 rfl 3; have la := blk_lt (sl_blk HS.out 2 rfl))))
      | (refine wpList_store_row rfl 35 _ _ rfl _ (#[.bool s.srv, .int .i64 s.lar, .slice A3 (s.live.length + 1) c3, .slice x.2.2.1 s.rel.length x.2.2.2]) rfl rfl 35 (rc0) (sl_blk (sl_put (sl_put HS.out 2 rfl 2 (.slice A3 (s.live.length + 1) c3)) 2 rfl 1 (.int .i64 s.lar)) 3 rfl) (by kernel_rfl) rfl (by simp [Value.oneCell']) ?_; have hs := sl_row (sl_put (sl_put HS.out 2 rfl 2 (.slice A3 (s.live.length + 1) c3)) 2 rfl 1 (.int .i64 s.lar)) 3 rfl (#[.bool s.srv, .int .i64 s.lar, .slice A3 (s.live.length + 1) c3, .slice x.2.2.1 s.rel.length x.2.2.2]); (try simp only [World.size_alloc] at hs); replace HS := Aside0.mk hs; clear hs))
    try rw [Exit.noGoto_ret]
    refine bodyPost_ret (results_cell_row rfl _ _ _ 35 (#[.bool s.srv, .int .i64 s.lar, .slice A3 (s.live.length + 1) c3, .slice x.2.2.1 s.rel.length x.2.2.2]) (0, 0) _ rfl (sl_blk HS.out 3 rfl) Try.underlying35 rfl (by kernel_rfl)) rfl ?_
    exact ⟨(A3, c3, x.2.2), by simp only [rvX, rcX, List.length_append, List.length_singleton], sl_take (ref_live HS.out 0 4 (by decide) s.lar (by simp) rfl rfl) 2⟩
theorem rCount_c {w0 w : World} {L : List Res} (h : SL w0 w L) (x : XS) (s : TSt) : Calls Try.prog 18 #[rvX x s] w fun e w' => e = .returned (.int .i64 (s.live.length : Int)) ∧ SL w0 w' L := by
  have HS := Aside0.mk h
  clear h
  go_enter Try.func18, Try.ntmps18
  go_wp2_with (fail)
  go_ret
  exact ⟨rfl, (by repeat (with_reducible first | exact HS.out | apply sl_drewN | apply sl_drew | apply sl_alloc))⟩
theorem rLive_c {w0 w : World} {L : List Res} (h : SL w0 w L) (i : Nat) {x : XS} {s : TSt} (hi : L[i]? = some (refX x s)) (id : Int) (hl : s.live.length ≤ 1000000) : Calls Try.prog 20 #[rvX x s, .int .u32 id] w fun e w' => e = .returned (.bool (decide (id ∈ s.live))) ∧ SL w0 w' L := by
  have HS := Aside0.mk h
  have HI := Aside0.mk hi
  have HLn := Aside0.mk hl
  clear h hi hl
  go_enter Try.func20, Try.ntmps20
  go_wp2_with (first | (go_at_call 30; refine (rhas_live (by repeat (with_reducible first | exact HS.out | apply sl_drewN | apply sl_drew | apply sl_alloc)) i HI.out id HLn.out rfl).mono ?_; rintro e w1 ⟨rfl, hs⟩; replace HS := Aside0.mk hs; clear hs))
  go_ret
  exact ⟨rfl, (by repeat (with_reducible first | exact HS.out | apply sl_drewN | apply sl_drew | apply sl_alloc))⟩
theorem rNew_c {w0 w : World} {L : List Res} (h : SL w0 w L) (b : Bool) : Calls Try.prog 15 #[.bool b] w fun e w' => ∃ x : XS, e = .returned (rvX x ⟨b, [], [], fstI b - 1⟩) ∧ SL w0 w' (L ++ [refX x ⟨b, [], [], fstI b - 1⟩]) := by
  have HS := Aside0.mk h
  clear h
  have hn : ∀ {w' : World}, SL w0 w' L → SL w0 w' (L ++ [refX (none, 0, none, 0) ⟨b, [], [], fstI b - 1⟩]) := fun h => sl_new h (Below.refl _ _) (F := fun _ => False) ⟨FR.nil _ _ _, FR.nil _ _ _⟩ (fun k hk => hk.elim)
  cases b
  · go_enter Try.func15, Try.ntmps15
    go_wp2_with (fail)
    refine bodyPost_ret (results_cell_row rfl _ _ w.heap.size 35 #[.bool false, .int .i64 0, .slice none 0 0, .slice none 0 0] (0, 0) _ rfl (by first | exact heap_alloc_new _ _ | (simp; done)) Try.underlying35 rfl (by kernel_rfl)) rfl ?_
    exact ⟨(none, 0, none, 0), rfl, hn (by repeat (with_reducible first | exact HS.out | apply sl_drewN | apply sl_drew | apply sl_alloc))⟩
  · go_enter Try.func15, Try.ntmps15
    go_wp2_with (fail)
    refine bodyPost_ret (results_cell_row rfl _ _ w.heap.size 35 #[.bool true, .int .i64 4278190079, .slice none 0 0, .slice none 0 0] (0, 0) _ rfl (by first | exact heap_alloc_new _ _ | (simp; done)) Try.underlying35 rfl (by kernel_rfl)) rfl ?_
    exact ⟨(none, 0, none, 0), rfl, hn (by repeat (with_reducible first | exact HS.out | apply sl_drewN | apply sl_drew | apply sl_alloc))⟩
end
end Go.Proofs.Ytegkkomlpgappaa.Q
