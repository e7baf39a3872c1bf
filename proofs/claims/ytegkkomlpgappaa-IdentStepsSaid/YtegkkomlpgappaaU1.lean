import Derived.Test.YtegkkomlpgappaaG1
namespace Go.Proofs.Ytegkkomlpgappaa.Q
open Go.RowKit Go.Proofs.YtegkkomlpgappaaW.PrintWords Go.Proofs.YtegkkomlpgappaaW.PrintLast Go.Proofs.YtegkkomlpgappaaW.PrintMore Go.Proofs.Ytegkkomlpgappaa.Sl Go.Proofs.Ytegkkomlpgappaa.Hand 
attribute [local go_sem] max2_int min2_int max_two min_two max_three min_three max_four min_four 
set_option linter.unusedVariables false
set_option linter.unusedSimpArgs false

/-! ### compositorlaw11_has: function 21 -/
def compositorlaw11_has.l0 : Nat → List Int → Int → Int → Int → Option (Bool)
  | 0, _, _, _, _ => none
  | k + 1, x0, x1, x7, x8 => if x8 < x7 then (if 0 ≤ x8 then (if x8 < (x0.length : Int) then (if (rd x0 x8) = x1 then (some true) else (compositorlaw11_has.l0 k x0 x1 x7 (wrap64 (x8 + 1)))) else (none)) else (none)) else (some false)
def compositorlaw11_has.f (k : Nat) (l0 : List Int) (a1 : Int) : Option (Bool) := compositorlaw11_has.l0 k l0 a1 (l0.length : Int) 0
theorem compositorlaw11_has.mono_l : ∀ k, (∀ y0 y1 y2 y3, LeO (compositorlaw11_has.l0 k y0 y1 y2 y3) (compositorlaw11_has.l0 (k + 1) y0 y1 y2 y3))
  | 0 => fun _ _ _ _ r h => by simp [compositorlaw11_has.l0] at h
  | k + 1 => by
    have ih0 := compositorlaw11_has.mono_l k
    · intro y0 y1 y2 y3
      unfold compositorlaw11_has.l0
      repeat' first
      | (with_reducible exact ih0 _ _ _ _)
      | (with_reducible exact LeO.refl _)
      | (with_reducible exact LeO.none _)
      | (with_reducible refine LeO.ite ?_ ?_)
      | (with_reducible refine LeO.bind ?_ (fun _ => ?_))
      | exact ih0 _ _ _ _
      | exact LeO.none _
      | refine LeO.ite ?_ ?_
      | refine LeO.bind ?_ (fun _ => ?_)
theorem compositorlaw11_has.mono : ∀ a0 a1 k, LeO (compositorlaw11_has.f k a0 a1) (compositorlaw11_has.f (k + 1) a0 a1) := by
  intro a0 a1 k
  have ih0 := compositorlaw11_has.mono_l k
  unfold compositorlaw11_has.f
  repeat' first
      | (with_reducible exact ih0 _ _ _ _)
      | (with_reducible exact LeO.refl _)
      | (with_reducible exact LeO.none _)
      | (with_reducible refine LeO.ite ?_ ?_)
      | (with_reducible refine LeO.bind ?_ (fun _ => ?_))
      | exact ih0 _ _ _ _
      | exact LeO.none _
      | refine LeO.ite ?_ ?_
      | refine LeO.bind ?_ (fun _ => ?_)
set_option maxHeartbeats 8000000 in
set_option maxRecDepth 100000 in
theorem compositorlaw11_has.calls (k : Nat) (A0 : Option Addr) (c0 : Nat) (l0 : List Int) (a1 : Int) (r : Bool) (w : World) (hr0 : Kd.C (Kd.int .u32) w A0 l0.length l0) (hc0 : l0.length ≤ c0) (h : compositorlaw11_has.f k l0 a1 = some r) :
    Calls Try.prog 21 #[.slice A0 l0.length c0, .int .u32 a1] w fun e w' => e = .returned (.bool r) ∧ Drawn0 w w' := by
  have HR0 := Aside0.mk hr0
  have HC0 := Aside0.mk hc0
  clear hr0 hc0
  have H : (compositorlaw11_has.l0 k l0 a1 (l0.length : Int) 0) = some r := h
  clear h
  have H' := Aside0.mk H
  clear H
  go_enter Try.func21, Try.ntmps21
  go_wp2
  go_loopg [8] k (fun kq v8 w' => ∃ (x8_1 : Int), v8 = .int .i64 x8_1 ∧ Aside0 (compositorlaw11_has.l0 kq l0 a1 (l0.length : Int) x8_1 = some r) ∧ Aside0 (kq ≤ k) ∧ Drawn0 w w')
  case atStart => exact ⟨(0), (by first | rfl | (simp; done) | (simp [*]; done)), H', ⟨Nat.le_refl _⟩, by repeat (first | exact Drawn0.refl _ | apply Drawn0.step)⟩
  case round =>
    clear H'
    try clear c2
    try clear p2
    obtain ⟨x8_1, rfl, HA, HK1, ⟨m1, rfl⟩⟩ := hrel
    cases gk with
    | zero => exact absurd HA.out (by simp [compositorlaw11_has.l0])
    | succ k1 =>
      have H := HA.out
      clear HA
      simp only [compositorlaw11_has.l0] at H
      by_cases c3 : x8_1 < (l0.length : Int)
      · rw [if_pos c3] at H
        have c3b0 : decide (x8_1 < (l0.length : Int)) = true := decide_eq_true c3
        clear c3
        by_cases c4 : 0 ≤ x8_1
        · rw [if_pos c4] at H
          have c4b0 : decide (0 ≤ x8_1) = true := decide_eq_true c4
          clear c4
          by_cases c5 : x8_1 < (l0.length : Int)
          · rw [if_pos c5] at H
            have c5b0 : decide (x8_1 < (l0.length : Int)) = true := decide_eq_true c5
            clear c5
            by_cases c6 : (rd l0 x8_1) = a1
            · rw [if_pos c6] at H
              have c6b0 : ((rd l0 x8_1) == a1) = true := beq_iff_eq.mpr c6
              have c6b1 : ((rd l0 x8_1) != a1) = false := bne_eq_false_iff_eq.mpr c6
              clear c6
              obtain rfl := Option.some.inj H
              have p201 : 0 ≤ (x8_1 : Int) := of_decide_eq_true (by first | (with_reducible assumption) | assumption)
              have q201 : x8_1 < (l0.length : Int) := of_decide_eq_true (by first | (with_reducible assumption) | assumption)
              obtain ⟨ad201, e201, hx201_0⟩ := Kd.at_int HR0.out x8_1 p201 q201
              cases e201
              replace p201 := eq_true p201
              replace q201 := eq_true q201
              go_wp2
              go_ret
              exact ⟨by first | rfl | (simp; done) | (simp [*]; done), by repeat (first | exact Drawn0.refl _ | apply Drawn0.step)⟩
            · rw [if_neg c6] at H
              have c6b0 : ((rd l0 x8_1) == a1) = false := beq_eq_false_iff_ne.mpr c6
              have c6b1 : ((rd l0 x8_1) != a1) = true := bne_iff_ne.mpr c6
              have H' := Aside0.mk H
              clear H
              have p201 : 0 ≤ (x8_1 : Int) := of_decide_eq_true (by first | (with_reducible assumption) | assumption)
              have q201 : x8_1 < (l0.length : Int) := of_decide_eq_true (by first | (with_reducible assumption) | assumption)
              obtain ⟨ad201, e201, hx201_0⟩ := Kd.at_int HR0.out x8_1 p201 q201
              cases e201
              replace p201 := eq_true p201
              replace q201 := eq_true q201
              go_wp2
              go_roundg k1
              case measure => have := HK1.out; omega
              case rel => exact ⟨(wrap64 (x8_1 + 1)), (by first | rfl | (simp; done) | (simp [*]; done)), H', ⟨by have := HK1.out; omega⟩, by repeat (first | exact Drawn0.refl _ | apply Drawn0.step)⟩
          · rw [if_neg c5] at H
            exact absurd H (by simp)
        · rw [if_neg c4] at H
          exact absurd H (by simp)
      · rw [if_neg c3] at H
        have c3b0 : decide (x8_1 < (l0.length : Int)) = false := decide_eq_false c3
        clear c3
        obtain rfl := Option.some.inj H
        go_wp2
        go_ret
        exact ⟨by first | rfl | (simp; done) | (simp [*]; done), by repeat (first | exact Drawn0.refl _ | apply Drawn0.step)⟩

/-! ### compositorlaw11_without: function 22 -/
def compositorlaw11_without.l0 : Nat → List Int → Int → List Int → Int → Int → Option (List Int)
  | 0, _, _, _, _, _ => none
  | k + 1, x0, x1, x5, x8, x9 => if x9 < x8 then (if 0 ≤ x9 then (if x9 < (x0.length : Int) then (if (rd x0 x9) = x1 then (compositorlaw11_without.l0 k x0 x1 x5 x8 (wrap64 (x9 + 1))) else (if x5.length < 35184372088832 then (compositorlaw11_without.l0 k x0 x1 (x5 ++ [rd x0 x9]) x8 (wrap64 (x9 + 1))) else (none))) else (none)) else (none)) else (some x5)
def compositorlaw11_without.f (k : Nat) (l0 : List Int) (a1 : Int) : Option (List Int) := compositorlaw11_without.l0 k l0 a1 ([] : List Int) (l0.length : Int) 0
theorem compositorlaw11_without.mono_l : ∀ k, (∀ y0 y1 y2 y3 y4, LeO (compositorlaw11_without.l0 k y0 y1 y2 y3 y4) (compositorlaw11_without.l0 (k + 1) y0 y1 y2 y3 y4))
  | 0 => fun _ _ _ _ _ r h => by simp [compositorlaw11_without.l0] at h
  | k + 1 => by
    have ih0 := compositorlaw11_without.mono_l k
    · intro y0 y1 y2 y3 y4
      unfold compositorlaw11_without.l0
      repeat' first
      | (with_reducible exact ih0 _ _ _ _ _)
      | (with_reducible exact LeO.refl _)
      | (with_reducible exact LeO.none _)
      | (with_reducible refine LeO.ite ?_ ?_)
      | (with_reducible refine LeO.bind ?_ (fun _ => ?_))
      | exact ih0 _ _ _ _ _
      | exact LeO.none _
      | refine LeO.ite ?_ ?_
      | refine LeO.bind ?_ (fun _ => ?_)
theorem compositorlaw11_without.mono : ∀ a0 a1 k, LeO (compositorlaw11_without.f k a0 a1) (compositorlaw11_without.f (k + 1) a0 a1) := by
  intro a0 a1 k
  have ih0 := compositorlaw11_without.mono_l k
  unfold compositorlaw11_without.f
  repeat' first
      | (with_reducible exact ih0 _ _ _ _ _)
      | (with_reducible exact LeO.refl _)
      | (with_reducible exact LeO.none _)
      | (with_reducible refine LeO.ite ?_ ?_)
      | (with_reducible refine LeO.bind ?_ (fun _ => ?_))
      | exact ih0 _ _ _ _ _
      | exact LeO.none _
      | refine LeO.ite ?_ ?_
      | refine LeO.bind ?_ (fun _ => ?_)
set_option maxHeartbeats 8000000 in
set_option maxRecDepth 100000 in
theorem compositorlaw11_without.calls (k : Nat) (A0 : Option Addr) (c0 : Nat) (l0 : List Int) (a1 : Int) (r : List Int) (w : World) (hr0 : Kd.C (Kd.int .u32) w A0 l0.length l0) (hc0 : l0.length ≤ c0) (h : compositorlaw11_without.f k l0 a1 = some r) :
    Calls Try.prog 22 #[.slice A0 l0.length c0, .int .u32 a1] w fun e w' => ∃ v0_ : Value, e = .returned (v0_) ∧ Kd.R (Kd.int .u32) 24 w' w.heap.size (fun _ => True) v0_ r ∧ Below w.heap.size w w' := by
  have HR0 := Aside0.mk hr0
  have HC0 := Aside0.mk hc0
  clear hr0 hc0
  have HB := Aside0.mk (Below.refl w.heap.size w)
  have H : (compositorlaw11_without.l0 k l0 a1 ([] : List Int) (l0.length : Int) 0) = some r := h
  clear h
  have H' := Aside0.mk H
  clear H
  go_enter Try.func22, Try.ntmps22
  go_wp2
  go_loopg [5, 9] k (fun kq v5 v9 w' => ∃ (x5_1 : List Int) (x9_1 : Int), v9 = .int .i64 x9_1 ∧ Aside0 (compositorlaw11_without.l0 kq l0 a1 x5_1 (l0.length : Int) x9_1 = some r) ∧ Aside0 (kq ≤ k) ∧ Aside0 (Kd.R (Kd.int .u32) 24 w' w.heap.size (fun _ => True) v5 x5_1) ∧ Aside0 (Below w.heap.size w w'))
  case atStart => exact ⟨(([] : List Int)), (0), (by first | rfl | (simp; done) | (simp [*]; done)), H', ⟨Nat.le_refl _⟩, ⟨by first | exact Kd.R_nil _ _ _ _ _ | exact Kd.N_nil _ _ _ _ _ | exact Kd.V_nil _ _ _ _ _ | exact Kd.Q_nil _ _ _ _ _ | exact Kd.S_nil _ _ _ _ _⟩, ⟨by repeat (first | (with_reducible first | exact HB.out | apply below_alloc | apply pw_below_drewN | apply below_drew1) | exact HB.out)⟩⟩
  case round =>
    clear H'
    try clear c2
    try clear p2
    obtain ⟨x5_1, x9_1, rfl, HA, HK1, HO_5, HB⟩ := hrel
    cases gk with
    | zero => exact absurd HA.out (by simp [compositorlaw11_without.l0])
    | succ k1 =>
      have H := HA.out
      clear HA
      simp only [compositorlaw11_without.l0] at H
      by_cases c3 : x9_1 < (l0.length : Int)
      · rw [if_pos c3] at H
        have c3b0 : decide (x9_1 < (l0.length : Int)) = true := decide_eq_true c3
        clear c3
        by_cases c4 : 0 ≤ x9_1
        · rw [if_pos c4] at H
          have c4b0 : decide (0 ≤ x9_1) = true := decide_eq_true c4
          clear c4
          by_cases c5 : x9_1 < (l0.length : Int)
          · rw [if_pos c5] at H
            have c5b0 : decide (x9_1 < (l0.length : Int)) = true := decide_eq_true c5
            clear c5
            by_cases c6 : (rd l0 x9_1) = a1
            · rw [if_pos c6] at H
              have c6b0 : ((rd l0 x9_1) == a1) = true := beq_iff_eq.mpr c6
              have c6b1 : ((rd l0 x9_1) != a1) = false := bne_eq_false_iff_eq.mpr c6
              clear c6
              have H' := Aside0.mk H
              clear H
              have p202 : 0 ≤ (x9_1 : Int) := of_decide_eq_true (by first | (with_reducible assumption) | assumption)
              have q202 : x9_1 < (l0.length : Int) := of_decide_eq_true (by first | (with_reducible assumption) | assumption)
              obtain ⟨ad202, e202, hx202_0⟩ := Kd.at_int HR0.out x9_1 p202 q202
              cases e202
              replace hx202_0 := (HB.out.cell (World.block_lt_of_cell? w _ hx202_0)).trans hx202_0
              replace p202 := eq_true p202
              replace q202 := eq_true q202
              go_wp2
              go_roundg k1
              case measure => have := HK1.out; omega
              case rel => exact ⟨(x5_1), (wrap64 (x9_1 + 1)), (by first | rfl | (simp; done) | (simp [*]; done)), H', ⟨by have := HK1.out; omega⟩, ⟨by (with_reducible repeat (first | apply Kd.R_alloc | apply Kd.R_drewN | apply Kd.R_drew)); exact HO_5.out⟩, ⟨by repeat (first | (with_reducible first | exact HB.out | apply below_alloc | apply pw_below_drewN | apply below_drew1) | exact HB.out)⟩⟩
            · rw [if_neg c6] at H
              have c6b0 : ((rd l0 x9_1) == a1) = false := beq_eq_false_iff_ne.mpr c6
              have c6b1 : ((rd l0 x9_1) != a1) = true := bne_iff_ne.mpr c6
              by_cases c7 : x5_1.length < 35184372088832
              · rw [if_pos c7] at H
                have LMc7 := Aside0.mk c7
                clear c7
                obtain ⟨y204, hy204⟩ : ∃ y_ : List Int, y_ = (x5_1 ++ [rd l0 x9_1]) := ⟨_, rfl⟩
                replace H : (compositorlaw11_without.l0 k1 l0 a1 y204 (l0.length : Int) (wrap64 (x9_1 + 1))) = some r := by first | (rw [hy204]; with_reducible exact H) | (have H2_ := (Option.bind_some _ _).symm.trans H; rw [hy204]; with_reducible exact H2_) | (have H2_ := (Option.bind_some _ _).symm.trans H; with_reducible exact H2_) | with_reducible exact H | (rw [hy204]; exact H) | exact H
                have Ny204 := Aside0.mk hy204
                clear hy204
                have H' := Aside0.mk H
                clear H
                have p202 : 0 ≤ (x9_1 : Int) := of_decide_eq_true (by first | (with_reducible assumption) | assumption)
                have q202 : x9_1 < (l0.length : Int) := of_decide_eq_true (by first | (with_reducible assumption) | assumption)
                obtain ⟨ad202, e202, hx202_0⟩ := Kd.at_int HR0.out x9_1 p202 q202
                cases e202
                replace hx202_0 := (HB.out.cell (World.block_lt_of_cell? w _ hx202_0)).trans hx202_0
                replace p202 := eq_true p202
                replace q202 := eq_true q202
                have p203 : 0 ≤ (x9_1 : Int) := of_decide_eq_true (by first | (with_reducible assumption) | assumption)
                have q203 : x9_1 < (l0.length : Int) := of_decide_eq_true (by first | (with_reducible assumption) | assumption)
                obtain ⟨ad203, e203, hx203_0⟩ := Kd.at_int HR0.out x9_1 p203 q203
                obtain rfl : ad202 = ad203 := (by injection e203)
                replace hx203_0 := (HB.out.cell (World.block_lt_of_cell? w _ hx203_0)).trans hx203_0
                replace p203 := eq_true p203
                replace q203 := eq_true q203
                go_wp2_with (first | ((with_reducible refine gate_builtin (b := .append) (xs := #[.tmp 18, .tmp 23]) rfl ?_); at_builtin; refine Kd.R_append (Kd.int .u32) (w0 := w) w.heap.size rfl (.tmp 18) (.tmp 23) 33 24 (.int .u32 0) 4 rfl Try.underlying33 info24 rfl (by decide) (by omega) u5 x5_1 (rd l0 x9_1) [.int .u32 (rd l0 x9_1)] (fun _ => True) (fun _ => False) rfl rfl ?aP (fun _ hk => hk.elim) ?aF ?aO ?aB ?aS ?aL ?_; (case aP => exact rfl); (case aB => exact (by repeat (first | (with_reducible first | exact HB.out | apply below_alloc | apply pw_below_drewN | apply below_drew1) | exact HB.out))); (case aF => exact (fun _ _ => trivial)); (case aO => exact (by (with_reducible repeat (first | apply Kd.R_alloc | apply Kd.R_drewN | apply Kd.R_drew)); exact HO_5.out)); (case aS => exact (below_size (by repeat (first | (with_reducible first | exact HB.out | apply below_alloc | apply pw_below_drewN | apply below_drew1) | exact HB.out)))); (case aL => have := LMc7.out; omega); intro v205 w8 ho hb hg hat; rw [← Ny204.out] at ho; have n0_ := Aside0.mk (hb); have n1_ := Aside0.mk (ho); clear HB; clear HO_5; have HB := n0_; have HO206 := n1_; clear n0_ n1_; clear ho hb hg hat))
                go_roundg k1
                case measure => have := HK1.out; omega
                case rel => exact ⟨(y204), (wrap64 (x9_1 + 1)), (by first | rfl | (simp; done) | (simp [*]; done)), H', ⟨by have := HK1.out; omega⟩, ⟨by (with_reducible repeat (first | apply Kd.R_alloc | apply Kd.R_drewN | apply Kd.R_drew)); exact HO206.out⟩, ⟨by repeat (first | (with_reducible first | exact HB.out | apply below_alloc | apply pw_below_drewN | apply below_drew1) | exact HB.out)⟩⟩
              · rw [if_neg c7] at H
                exact absurd H (by simp)
          · rw [if_neg c5] at H
            exact absurd H (by simp)
        · rw [if_neg c4] at H
          exact absurd H (by simp)
      · rw [if_neg c3] at H
        have c3b0 : decide (x9_1 < (l0.length : Int)) = false := decide_eq_false c3
        clear c3
        obtain rfl := Option.some.inj H
        go_wp2
        go_ret
        exact ⟨_, by first | rfl | (simp [errW_none, errW_some] <;> rfl) | (simp [*, errW_none, errW_some] <;> rfl), by (with_reducible repeat (first | apply Kd.R_alloc | apply Kd.R_drewN | apply Kd.R_drew)); exact HO_5.out, by repeat (first | (with_reducible first | exact HB.out | apply below_alloc | apply pw_below_drewN | apply below_drew1) | exact HB.out)⟩

-- NOT PRINTED: function 5 (compositorlaw11_IdentUnique)

-- NOT PRINTED: function 6 (compositorlaw11_IdentGaps)

-- NOT PRINTED: function 7 (compositorlaw11_IdentNil)

/-! ### The law's own lists -/
theorem rd_get {l : List Int} {i : Nat} (h : i < l.length) : rd l (i : Int) = l[i] := by
  unfold rd
  rw [Int.toNat_natCast, List.getD_eq_getElem?_getD, List.getElem?_eq_getElem h]
  rfl
theorem has_l (l : List Int) (x : Int) (hl : l.length ≤ 1000000) (d : Nat) : ∀ i : Nat, i + d = l.length → compositorlaw11_has.l0 (d + 1) l x (l.length : Int) (i : Int) = some (decide (x ∈ l.drop i)) := by
  induction d with
  | zero =>
    intro i hi
    unfold compositorlaw11_has.l0
    rw [if_neg (by omega), List.drop_eq_nil_of_le (by omega)]
    simp
  | succ d ih =>
    intro i hi
    unfold compositorlaw11_has.l0
    rw [if_pos (by omega), if_pos (by omega), if_pos (by omega), rd_get (by omega), List.drop_eq_getElem_cons (by omega)]
    by_cases he : l[i]'(by omega) = x
    · rw [if_pos he, decide_eq_true (by rw [he]; simp)]
    · have hw : wrap64 ((i : Int) + 1) = ((i + 1 : Nat) : Int) := by unfold wrap64; omega
      rw [if_neg he, hw, ih (i + 1) (by omega)]
      congr 1
      exact decide_eq_decide.2 ⟨fun h => List.mem_cons_of_mem _ h, fun h => (List.mem_cons.1 h).resolve_left (fun e => he e.symm)⟩
theorem has_c {w0 w : World} {L : List Res} (h : SL w0 w L) (A : Option Addr) (c n : Nat) (l : List Int) (x : Int) (hn : n = l.length) (hr : Kd.C (Kd.int .u32) w A l.length l) (hc : l.length ≤ c) (hl : l.length ≤ 1000000) :
    Calls Try.prog 21 #[.slice A n c, .int .u32 x] w fun e w' => e = .returned (.bool (decide (x ∈ l))) ∧ SL w0 w' L := by
  subst hn
  refine (compositorlaw11_has.calls (l.length + 1) A c l x _ w hr hc (has_l l x hl l.length 0 (by omega))).mono ?_
  rintro e w' ⟨rfl, n, rfl⟩
  exact ⟨rfl, sl_drewN h n⟩
theorem without_l (l : List Int) (x : Int) (hl : l.length ≤ 1000000) (d : Nat) : ∀ (i : Nat) (o : List Int), i + d = l.length → o.length ≤ i → compositorlaw11_without.l0 (d + 1) l x o (l.length : Int) (i : Int) = some (o ++ delS (l.drop i) x) := by
  induction d with
  | zero =>
    intro i o hi ho
    unfold compositorlaw11_without.l0
    rw [if_neg (by omega), List.drop_eq_nil_of_le (by omega)]
    simp [delS]
  | succ d ih =>
    intro i o hi ho
    unfold compositorlaw11_without.l0
    have hw : wrap64 ((i : Int) + 1) = ((i + 1 : Nat) : Int) := by unfold wrap64; omega
    rw [if_pos (by omega), if_pos (by omega), if_pos (by omega), rd_get (by omega), List.drop_eq_getElem_cons (by omega), hw]
    unfold delS
    by_cases he : l[i]'(by omega) = x
    · rw [if_pos he, ih (i + 1) o (by omega) (by omega), List.filter_cons, if_neg (by simp [he])]
      rfl
    · rw [if_neg he, if_pos (by omega), ih (i + 1) (o ++ [l[i]'(by omega)]) (by omega) (by rw [List.length_append, List.length_singleton]; omega), List.filter_cons, if_pos (by simp [he])]
      simp [delS]
abbrev row32 (v : Value) (xs : List Int) : Res := rowR (Kd.int .u32) 24 v xs
theorem sl_read32 {w0 w : World} {L : List Res} {A : Option Addr} {n c : Nat} {xs : List Int} (h : SL w0 w L) (i : Nat) (hi : L[i]? = some (row32 (.slice A n c) xs)) : n = xs.length ∧ n ≤ c ∧ Kd.C (Kd.int .u32) w A xs.length xs := by
  obtain ⟨F, h1, _, _⟩ := sl_upd h hi
  exact Kd.R_reads' h1
theorem without_c {w0 w : World} {L : List Res} (h : SL w0 w L) (A : Option Addr) (c n : Nat) (l : List Int) (x : Int) (hn : n = l.length) (hr : Kd.C (Kd.int .u32) w A l.length l) (hc : l.length ≤ c) (hl : l.length ≤ 1000000) :
    Calls Try.prog 22 #[.slice A n c, .int .u32 x] w fun e w' => ∃ A' c', e = .returned (.slice A' (delS l x).length c') ∧ SL w0 w' (L ++ [row32 (.slice A' (delS l x).length c') (delS l x)]) := by
  subst hn
  refine (compositorlaw11_without.calls (l.length + 1) A c l x _ w hr hc (by have := without_l l x hl l.length 0 [] (by omega) (Nat.le_refl _); rw [List.nil_append, List.drop_zero] at this; exact this)).mono ?_
  rintro e w' ⟨v, rfl, h2, h3⟩
  obtain ⟨A', c', rfl⟩ := Kd.R_slice h2
  exact ⟨A', c', rfl, sl_new h h3 (F := fun k => w.heap.size ≤ k ∧ k < w'.heap.size) (Kd.R_lower (Kd.R_mono (Kd.R_bound h2) (fun k hk => ⟨hk.2.1, hk.2.2.1⟩)) (Nat.zero_le _)) (fun k hk => hk)⟩
theorem sl_nil32 {w0 w : World} {L : List Res} (h : SL w0 w L) : SL w0 w (L ++ [row32 (.slice none 0 0) []]) :=
  sl_new h (Below.refl _ _) (F := fun _ => False) (Kd.R_nil _ _ _ _ _) (fun k hk => hk.elim)
section
variable {w0 w : World} {L : List Res} {ops : Array Oper} {rest : List Oper} {o : Oper} {a : Act} {Q : Exit → Act → World → Prop}
theorem app32 (h : SL w0 w L) (i : Nat) (v : Value) (xs : List Int) (k : Int) (hgd : o.guard = none) (s x : Operand) (ho : o.op = .call { callee := .builtin .append, args := #[s, x], argTypes := #[33, 33] })
    (hs : a.eval s = v) (hx : a.eval x = .slice (some ⟨w.heap.size, 0, none⟩) 1 1) (hi : L[i]? = some (row32 v xs)) (hl : xs.length + 1 ≤ 1000000)
    (hk : ∀ A c w1, SL w0 w1 (L.set i (row32 (.slice A (xs.length + 1) c) (xs ++ [k]))) → wpList Try.prog ops Q rest (a.put o.dst (.slice A (xs.length + 1) c)) w1) :
    wpList Try.prog ops Q (o :: rest) a (w.alloc (.cells #[.int .u32 k] 24)) := by
  obtain ⟨F, h1, h2, h3⟩ := sl_upd h hi
  have h1 : (Kd.int .u32).R 24 w 0 F v xs := h1
  refine Kd.R_append (Kd.int .u32) (w0 := w) 0 hgd s x 33 24 (.int .u32 0) 4 ho Try.underlying33 info24 rfl (by decide) (by decide) v xs k [.int .u32 k] (fun k => F k ∨ w.heap.size ≤ k) (fun _ => False) hs hx rfl (fun _ hk => hk.elim) (fun k hk => .inr hk) (Kd.R_mono h1 fun k hk => .inl hk) (Below.refl _ _) (Nat.zero_le _) (by omega) ?_
  intro v1 w1 hr _ hg _
  obtain ⟨A, c1, rfl⟩ := Kd.R_slice hr
  rw [List.length_append, List.length_singleton] at hr ⊢
  exact hk A c1 w1 (h3 w1 _ (fun k => (F k ∨ w.heap.size ≤ k) ∧ k < w1.heap.size) (Kd.R_mono (Kd.R_bound hr) (fun k hk => ⟨hk.1, hk.2.2.1⟩)) (fun k hk => hk) ((Chg.refl F w).grown hg (fun k hk => .inl (h1.1 k hk))))
end
/-! ### What every sequence of calls keeps -/
def SideOk (b : Bool) (x : Int) : Prop := ¬ (x = 0 ∨ b ≠ decide (4278190080 ≤ x)) ∧ 0 ≤ x ∧ x < 4294967296
structure UI (s : TSt) (i : Nat) : Prop where
  ll : s.live.length ≤ 256
  rl : s.rel.length ≤ i
  l0 : 0 ≤ s.lar
  l1 : s.lar < 4294967296
  dj : ∀ x ∈ s.live, x ∉ s.rel
  el : ∀ x ∈ s.live, SideOk s.srv x
  er : ∀ x ∈ s.rel, SideOk s.srv x
theorem UI.ok {s : TSt} {i : Nat} (h : UI s i) (hi : i ≤ 1000) : TOk s := ⟨h.ll, by have := h.rl; omega, h.l0, h.l1⟩
theorem UI.start (b : Bool) : UI ⟨b, [], [], fstI b - 1⟩ 0 := by
  have := fst_range b
  exact ⟨Nat.zero_le _, Nat.zero_le _, by show 0 ≤ fstI b - 1; omega, by show fstI b - 1 < 4294967296; omega, fun x hx => by simp at hx, fun x hx => by simp at hx, fun x hx => by simp at hx⟩
theorem UI.same {s : TSt} {i : Nat} (h : UI s i) : UI s (i + 1) := ⟨h.ll, Nat.le_succ_of_le h.rl, h.l0, h.l1, h.dj, h.el, h.er⟩
theorem UI.used {s : TSt} {i : Nat} (h : UI s i) {id : Int} (h1 : id ∉ s.live) (h2 : id ∉ s.rel) (h3 : s.live.length < 256) (h4 : SideOk s.srv id) : UI (used s id) (i + 1) ∧ (used s id).live = s.live ++ [id] ∧ (used s id).rel = s.rel := by
  have ha : addS s.live id = s.live ++ [id] := if_neg h1
  refine ⟨⟨?_, Nat.le_succ_of_le h.rl, ?_, ?_, fun x hx => ?_, fun x hx => ?_, h.er⟩, ha, rfl⟩
  · show (addS s.live id).length ≤ 256
    rw [ha, List.length_append, List.length_singleton]
    omega
  · show 0 ≤ mxI s.lar id
    have := h.l0
    unfold mxI
    split <;> omega
  · show mxI s.lar id < 4294967296
    have := h.l1
    have := h4.2.2
    unfold mxI
    split <;> omega
  · have hx : x ∈ addS s.live id := hx
    rcases mem_addS.1 hx with hx | rfl
    · exact h.dj x hx
    · exact h2
  · have hx : x ∈ addS s.live id := hx
    rcases mem_addS.1 hx with hx | rfl
    · exact h.el x hx
    · exact h4
/-- What a call that succeeds does. -/
structure Did (s : TSt) (k V : Int) (S : TSt) : Prop where
  a : (k = 0 ∨ k = 1) → V ∉ s.live ∧ V ∉ s.rel ∧ SideOk s.srv V ∧ s.live.length < 256 ∧ S.live = s.live ++ [V] ∧ S.rel = s.rel
  r : k = 2 → V ∈ s.live ∧ S.live = delS s.live V ∧ S.rel = s.rel ++ [V]
  c : ¬ (k = 0 ∨ k = 1) → k ≠ 2 → V ∈ s.rel ∧ S.live = s.live ∧ S.rel = delS s.rel V
theorem UI.step {s : TSt} {i : Nat} (h : UI s i) (hi : i ≤ 1000) (k id : Int) (h0 : 0 ≤ id) (h1 : id < 4294967296) :
    UI (doS s k id) (i + 1) ∧ (doS s k id).srv = s.srv ∧ (0 ≤ doV s k id ∧ doV s k id < 4294967296) ∧ (doE s k id = 0 → Did s k (doV s k id) (doS s k id)) ∧ (doE s k id ≠ 0 → doS s k id = s) := by
  by_cases k0 : k = 0
  · subst k0
    have e1 : doS s 0 id = allS s := rfl
    have e2 : doE s 0 id = allE s := rfl
    have e3 : doV s 0 id = allV s := rfl
    rw [e1, e2, e3]
    unfold allS allE allV
    by_cases hc : 256 ≤ s.live.length
    · simp only [if_pos hc]
      exact ⟨h.same, (by first | rfl | trivial), by omega, fun h => by omega, fun _ => (by first | rfl | trivial)⟩
    · simp only [if_neg hc]
      have hn := nxt_range (h.ok hi)
      have hg := (gapI_is s).2
      have n1 : nxtI s ∉ s.live := fun h => hg (List.mem_append.2 (.inl h))
      have n2 : nxtI s ∉ s.rel := fun h => hg (List.mem_append.2 (.inr h))
      have n3 : SideOk s.srv (nxtI s) := ⟨side s.srv (d := (gapI s : Int)) (by omega) (by have := gapI_le s; have := h.ll; have := h.rl; omega), by omega, hn.2⟩
      obtain ⟨g1, g2, g3⟩ := h.used n1 n2 (by omega) n3
      exact ⟨g1, (by first | rfl | trivial), by omega, fun _ => ⟨fun _ => ⟨n1, n2, n3, by omega, g2, g3⟩, fun h => by omega, fun h => absurd (.inl rfl) h⟩, fun h => absurd rfl h⟩
  by_cases k1 : k = 1
  · subst k1
    have e1 : doS s 1 id = takeS s id := rfl
    have e2 : doE s 1 id = takeE s id := rfl
    have e3 : doV s 1 id = id := rfl
    rw [e1, e2, e3]
    unfold takeS
    by_cases hz : takeE s id = 0
    · simp only [if_pos hz]
      have hz2 := hz
      unfold takeE at hz2
      by_cases q1 : id = 0 ∨ s.srv ≠ decide (4278190080 ≤ id)
      · rw [if_pos q1] at hz2; cases hz2
      rw [if_neg q1] at hz2
      by_cases q2 : id ∈ s.live ∨ id ∈ s.rel
      · rw [if_pos q2] at hz2; cases hz2
      rw [if_neg q2] at hz2
      by_cases q3 : 256 ≤ s.live.length
      · rw [if_pos q3] at hz2; cases hz2
      have n1 : id ∉ s.live := fun h => q2 (.inl h)
      have n2 : id ∉ s.rel := fun h => q2 (.inr h)
      have n3 : SideOk s.srv id := ⟨q1, h0, h1⟩
      obtain ⟨g1, g2, g3⟩ := h.used n1 n2 (by omega) n3
      exact ⟨g1, (by first | rfl | trivial), ⟨h0, h1⟩, fun _ => ⟨fun _ => ⟨n1, n2, n3, by omega, g2, g3⟩, fun h => by omega, fun h => absurd (.inr rfl) h⟩, fun h => absurd hz h⟩
    · simp only [if_neg hz]
      exact ⟨h.same, (by first | rfl | trivial), ⟨h0, h1⟩, fun h => absurd h hz, fun _ => (by first | rfl | trivial)⟩
  have hk : ¬ (k = 0 ∨ k = 1) := fun h => h.elim k0 k1
  by_cases k2 : k = 2
  · subst k2
    have e1 : doS s 2 id = relS s id := rfl
    have e2 : doE s 2 id = relE s id := rfl
    have e3 : doV s 2 id = id := rfl
    rw [e1, e2, e3]
    unfold relS relE
    by_cases hin : id ∈ s.live
    · simp only [if_pos hin]
      have hnr := h.dj id hin
      have ha : addS s.rel id = s.rel ++ [id] := if_neg hnr
      refine ⟨⟨?_, ?_, h.l0, h.l1, fun x hx => ?_, fun x hx => h.el x (mem_delS.1 hx).1, fun x hx => ?_⟩, (by first | rfl | trivial), ⟨h0, h1⟩, fun _ => ⟨fun h => by omega, fun _ => ⟨hin, rfl, ha⟩, fun _ h => absurd rfl h⟩, fun h => absurd rfl h⟩
      · show (delS s.live id).length ≤ 256
        exact Nat.le_trans (List.length_filter_le _ _) h.ll
      · show (addS s.rel id).length ≤ i + 1
        rw [ha, List.length_append, List.length_singleton]
        have := h.rl
        omega
      · have hx : x ∈ delS s.live id := hx
        obtain ⟨x1, x2⟩ := mem_delS.1 hx
        show x ∉ addS s.rel id
        intro hc
        rcases mem_addS.1 hc with hc | hc
        · exact h.dj x x1 hc
        · exact x2 hc
      · have hx : x ∈ addS s.rel id := hx
        rcases mem_addS.1 hx with hx | rfl
        · exact h.er x hx
        · exact h.el x hin
    · simp only [if_neg hin]
      exact ⟨h.same, (by first | rfl | trivial), ⟨h0, h1⟩, fun h => by omega, fun _ => (by first | rfl | trivial)⟩
  · have e1 : doS s k id = conS s id := by unfold doS; rw [if_neg k0, if_neg k1, if_neg k2]
    have e2 : doE s k id = conE s id := by unfold doE; rw [if_neg k0, if_neg k1, if_neg k2]
    have e3 : doV s k id = id := if_neg k0
    rw [e1, e2, e3]
    unfold conS conE
    by_cases hin : id ∈ s.rel
    · simp only [if_pos hin]
      exact ⟨⟨h.ll, Nat.le_succ_of_le (Nat.le_trans (List.length_filter_le _ _) h.rl), h.l0, h.l1, fun x hx hc => h.dj x hx (mem_delS.1 hc).1, h.el, fun x hx => h.er x (mem_delS.1 hx).1⟩, (by first | rfl | trivial), ⟨h0, h1⟩, fun _ => ⟨fun h => absurd h hk, fun h => absurd h k2, fun _ _ => ⟨hin, rfl, rfl⟩⟩, fun h => absurd rfl h⟩
    · simp only [if_neg hin]
      exact ⟨h.same, (by first | rfl | trivial), ⟨h0, h1⟩, fun h => by omega, fun _ => (by first | rfl | trivial)⟩
theorem UI.last {s : TSt} {i : Nat} (h : UI s i) {x : Int} (hx : x ∈ s.rel) : decide (x ∈ s.live) = false ∧ takeE s x = 7 ∧ takeS s x = s := by
  have e : takeE s x = 7 := by
    unfold takeE
    rw [if_neg (h.er x hx).1, if_pos (.inr hx)]
  exact ⟨decide_eq_false fun hl => h.dj x hl hx, e, by unfold takeS; rw [e]; rfl⟩
end Go.Proofs.Ytegkkomlpgappaa.Q
