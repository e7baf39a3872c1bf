-- Written by wip/myprint.py out of the translation; not trusted: Lean checks it.
import Derived.Test.YtipmcklkflgppaaQx0
import Derived.Test.YtipmcklkflgppaaQx9
namespace Go.Proofs.Ytipmcklkflgppaa.Q
open Go.Proofs.Ytipmcklkflgppaa.Hand
open Go.RowKit Go.Proofs.YtipmcklkflgppaaW.PrintWords Go.Proofs.YtipmcklkflgppaaW.PrintLast Go.Proofs.YtipmcklkflgppaaW.PrintMore
attribute [local go_sem] max2_int min2_int max_two min_two max_three min_three max_four min_four   -- for this text's walks alone
attribute [local go_sem] sg_u32 sg_u8 sg_u16 sg_u64
set_option linter.unusedVariables false
set_option linter.unusedSimpArgs false

/-! ### compositorref02_Split: function 14 -/
mutual
def compositorref02_Split.l0 : Nat → List Int → List (S25) → Int → Option ((List (S25)) × Int × Int)
  | 0, _, _, _ => none
  | k + 1, x0, x5, x6 => if (wrap64 ((x0.length : Int) - x6)) ≥ 8 then ((compositorref02_number.f x0 (wrap64 (x6 + 4))).bind fun t145 => (if (wrap64 (Int.tdiv t145 65536)) < 8 then (compositorref02_Split.j1 k x0 x5 x6 (wrap64 (Int.tdiv t145 65536)) true) else (compositorref02_Split.j1 k x0 x5 x6 (wrap64 (Int.tdiv t145 65536)) ((Int.tmod (wrap64 (Int.tdiv t145 65536)) 4) != 0)))) else (some (x5, x6, 0))
def compositorref02_Split.j1 : Nat → List Int → List (S25) → Int → Int → Bool → Option ((List (S25)) × Int × Int)
  | 0, _, _, _, _, _ => none
  | k + 1, x0, x5, x6, x7, x25 => if x25 = true then (some (x5, x6, 3)) else (if x7 > 4096 then (some (x5, x6, 5)) else (if (wrap64 ((x0.length : Int) - x6)) < x7 then (some (x5, x6, 0)) else (if 0 ≤ (wrap64 (x6 + 8)) then (if (wrap64 (x6 + 8)) ≤ (wrap64 (x6 + x7)) then (if (wrap64 (x6 + x7)) ≤ (x0.length : Int) then (if ([] : List Int).length + ((x0.take ((wrap64 (x6 + x7)) : Int).toNat).drop ((wrap64 (x6 + 8)) : Int).toNat).length < 140737488355328 then ((compositorref02_number.f x0 x6).bind fun t150 => ((compositorref02_number.f x0 (wrap64 (x6 + 4))).bind fun t151 => (if x5.length < 3518437208883 then (compositorref02_Split.l0 k x0 (x5 ++ [(⟨(t150) % 4294967296, Int.tmod t151 65536, (([] : List Int) ++ ((x0.take ((wrap64 (x6 + x7)) : Int).toNat).drop ((wrap64 (x6 + 8)) : Int).toNat))⟩ : S25)]) (wrap64 (x6 + x7))) else (none)))) else (none)) else (none)) else (none)) else (none))))
end
def compositorref02_Split.f (k : Nat) (l0 : List Int) : Option ((List (S25)) × Int × Int) := compositorref02_Split.l0 k l0 ([] : List (S25)) 0
theorem compositorref02_Split.mono_l : ∀ k, (∀ y0 y1 y2, LeO (compositorref02_Split.l0 k y0 y1 y2) (compositorref02_Split.l0 (k + 1) y0 y1 y2)) ∧ (∀ y0 y1 y2 y3 y4, LeO (compositorref02_Split.j1 k y0 y1 y2 y3 y4) (compositorref02_Split.j1 (k + 1) y0 y1 y2 y3 y4))
  | 0 => ⟨fun _ _ _ r h => by simp [compositorref02_Split.l0] at h, fun _ _ _ _ _ r h => by simp [compositorref02_Split.j1] at h⟩
  | k + 1 => by
    obtain ⟨ih0, ih1⟩ := compositorref02_Split.mono_l k
    refine ⟨?_, ?_⟩
    · intro y0 y1 y2
      unfold compositorref02_Split.l0
      repeat' first
      | (with_reducible exact ih0 _ _ _)
      | (with_reducible exact ih1 _ _ _ _ _)
      | (with_reducible exact LeO.refl _)
      | (with_reducible exact LeO.none _)
      | (with_reducible refine LeO.ite ?_ ?_)
      | (with_reducible refine LeO.bind ?_ (fun _ => ?_))
      | exact ih0 _ _ _
      | exact ih1 _ _ _ _ _
      | exact LeO.none _
      | refine LeO.ite ?_ ?_
      | refine LeO.bind ?_ (fun _ => ?_)
    · intro y0 y1 y2 y3 y4
      unfold compositorref02_Split.j1
      repeat' first
      | (with_reducible exact ih0 _ _ _)
      | (with_reducible exact ih1 _ _ _ _ _)
      | (with_reducible exact LeO.refl _)
      | (with_reducible exact LeO.none _)
      | (with_reducible refine LeO.ite ?_ ?_)
      | (with_reducible refine LeO.bind ?_ (fun _ => ?_))
      | exact ih0 _ _ _
      | exact ih1 _ _ _ _ _
      | exact LeO.none _
      | refine LeO.ite ?_ ?_
      | refine LeO.bind ?_ (fun _ => ?_)
theorem compositorref02_Split.mono : ∀ a0 k, LeO (compositorref02_Split.f k a0) (compositorref02_Split.f (k + 1) a0) := by
  intro a0 k
  obtain ⟨ih0, ih1⟩ := compositorref02_Split.mono_l k
  unfold compositorref02_Split.f
  repeat' first
      | (with_reducible exact ih0 _ _ _)
      | (with_reducible exact ih1 _ _ _ _ _)
      | (with_reducible exact LeO.refl _)
      | (with_reducible exact LeO.none _)
      | (with_reducible refine LeO.ite ?_ ?_)
      | (with_reducible refine LeO.bind ?_ (fun _ => ?_))
      | exact ih0 _ _ _
      | exact ih1 _ _ _ _ _
      | exact LeO.none _
      | refine LeO.ite ?_ ?_
      | refine LeO.bind ?_ (fun _ => ?_)
set_option maxHeartbeats 8000000 in
set_option maxRecDepth 100000 in
theorem compositorref02_Split.calls (k : Nat) (A0 : Option Addr) (c0 : Nat) (l0 : List Int) (r1 : List (S25)) (r2 : Int) (r3 : Int) (w : World) (hr0 : Kd.C (Kd.int .u8) w A0 l0.length l0) (hc0 : l0.length ≤ c0) (h : compositorref02_Split.f k l0 = some (r1, r2, r3)) :
    Calls Try.prog 14 #[.slice A0 l0.length c0] w fun e w' => ∃ v0_ : Value, e = .returned (.tuple #[v0_, .int .i64 r2, .int .i64 r3]) ∧ Kd.S k25 25 w' w.heap.size (fun _ => True) v0_ r1 ∧ Below w.heap.size w w' := by
  have hu25 := Try.underlying25
  have HR0 := Aside0.mk hr0
  have HC0 := Aside0.mk hc0
  clear hr0 hc0
  have HB := Aside0.mk (Below.refl w.heap.size w)
  have H : (compositorref02_Split.l0 k l0 ([] : List (S25)) 0) = some (r1, r2, r3) := h
  clear h
  have H' := Aside0.mk H
  clear H
  go_enter Try.func14, Try.ntmps14
  go_wp2
  go_loopg [5, 6] k (fun kq v5 v6 w' => ∃ (x5_1 : List (S25)) (x6_1 : Int), v6 = .int .i64 x6_1 ∧ Aside0 (compositorref02_Split.l0 kq l0 x5_1 x6_1 = some (r1, r2, r3)) ∧ Aside0 (kq ≤ k) ∧ Aside0 (Kd.S k25 25 w' w.heap.size (fun _ => True) v5 x5_1) ∧ Aside0 (Below w.heap.size w w'))
  case atStart => exact ⟨(([] : List (S25))), (0), (by first | rfl | (simp; done) | (simp [*]; done)), H', ⟨Nat.le_refl _⟩, ⟨by first | exact Kd.S_nil _ _ _ _ _ | exact Kd.N_nil _ _ _ _ _ | exact Kd.V_nil _ _ _ _ _ | exact Kd.Q_nil _ _ _ _ _ | exact Kd.R_nil _ _ _ _ _⟩, ⟨by repeat (first | (with_reducible first | exact HB.out | apply below_alloc | apply pw_below_drewN | apply below_drew1) | exact HB.out)⟩⟩
  case round =>
    clear H'
    try clear c1
    obtain ⟨x5_1, x6_1, rfl, HA, HK1, HO_5, HB⟩ := hrel
    cases gk with
    | zero => exact absurd HA.out (by simp [compositorref02_Split.l0])
    | succ k1 =>
      have H := HA.out
      clear HA
      simp only [compositorref02_Split.l0] at H
      by_cases c2 : (wrap64 ((l0.length : Int) - x6_1)) ≥ 8
      · rw [if_pos c2] at H
        have c2b0 : decide (8 ≤ (wrap64 ((l0.length : Int) - x6_1))) = true := decide_eq_true c2
        clear c2
        replace H := Option.bind_eq_some_iff.mp H
        obtain ⟨t145, A30, H⟩ := H
        replace H : (if (wrap64 (Int.tdiv t145 65536)) < 8 then (compositorref02_Split.j1 k1 l0 x5_1 x6_1 (wrap64 (Int.tdiv t145 65536)) true) else (compositorref02_Split.j1 k1 l0 x5_1 x6_1 (wrap64 (Int.tdiv t145 65536)) ((Int.tmod (wrap64 (Int.tdiv t145 65536)) 4) != 0))) = some (r1, r2, r3) := H
        have A3 := Aside0.mk A30
        clear A30
        have HC4 := Aside0.mk H
        clear H
        go_upto_region 5 with (first | ((with_reducible refine gate_callee (f := 27) rfl ?_); refine goesL_ (some 17) rfl rfl Try.func27 (by kernel_rfl) rfl #[.slice A0 l0.length c0, .int .i64 (wrap64 (x6_1 + 4))] rfl (by (try simp only [List.map_toArray, List.map_cons, List.map_nil]); first | done | rfl | (simp only [List.length_drop, List.length_take]; rfl)) ?_; (with_reducible refine (compositorref02_number.calls _ _ l0 (wrap64 (x6_1 + 4)) t145 _ ?side1 ?side2 A3.out).mono ?_); (case side1 => repeat (first | exact (Kd.C_below HR0.out HB.out) | (with_reducible refine Kd.C_alloc ?_ _) | (with_reducible refine Kd.C_drewN ?_ _) | (with_reducible refine Kd.C_drew ?_))); (case side2 => exact HC0.out); rintro e w' ⟨rfl, ⟨nd, rfl⟩⟩; refine ⟨_, rfl, ?_⟩))
        (try simp only [Act.put, List.setIfInBounds_toArray, List.set_cons_zero, List.set_cons_succ])
        go_cut [25] (fun v25 wc => ∃ (kq : Nat) (x25_3 : Bool), v25 = .bool x25_3 ∧ Aside0 (compositorref02_Split.j1 kq l0 x5_1 x6_1 (wrap64 (Int.tdiv t145 65536)) x25_3 = some (r1, r2, r3)) ∧ Aside0 (kq ≤ k1) ∧ Aside0 (Kd.S k25 25 wc w.heap.size (fun _ => True) u5 x5_1) ∧ Aside0 (Below w.heap.size w wc))
        case first =>
          have H := HC4.out
          clear HC4
          by_cases c5 : (wrap64 (Int.tdiv t145 65536)) < 8
          · rw [if_pos c5] at H
            have c5b0 : decide ((wrap64 (Int.tdiv t145 65536)) < 8) = true := decide_eq_true c5
            clear c5
            (first | rw [c5b0] | (simp only [i64_w, i32_w]; rw [c5b0]) | skip)
            have H' := Aside0.mk H
            clear H
            go_wp2
            go_meet
            case rel => exact ⟨_, (true), (by first | rfl | (simp; done) | (simp [*]; done)), H', ⟨by have := HK1.out; first | omega | exact Nat.le_refl _⟩, ⟨by (with_reducible repeat (first | apply Kd.S_alloc | apply Kd.S_drewN | apply Kd.S_drew)); exact HO_5.out⟩, ⟨by repeat (first | (with_reducible first | exact HB.out | apply below_alloc | apply pw_below_drewN | apply below_drew1) | exact HB.out)⟩⟩
          · rw [if_neg c5] at H
            have c5b0 : decide ((wrap64 (Int.tdiv t145 65536)) < 8) = false := decide_eq_false c5
            clear c5
            (first | rw [c5b0] | (simp only [i64_w, i32_w]; rw [c5b0]) | skip)
            have H' := Aside0.mk H
            clear H
            go_wp2
            go_meet
            case rel => exact ⟨_, (((Int.tmod (wrap64 (Int.tdiv t145 65536)) 4) != 0)), (by first | rfl | (simp; done) | (simp [*]; done)), H', ⟨by have := HK1.out; first | omega | exact Nat.le_refl _⟩, ⟨by (with_reducible repeat (first | apply Kd.S_alloc | apply Kd.S_drewN | apply Kd.S_drew)); exact HO_5.out⟩, ⟨by repeat (first | (with_reducible first | exact HB.out | apply below_alloc | apply pw_below_drewN | apply below_drew1) | exact HB.out)⟩⟩
        case rest =>
          clear HC4
          try clear c1
          try clear c2
          try clear c2b0
          try clear p2
          try clear c5
          try clear c5b0
          obtain ⟨kq, x25_3, rfl, HA, HJ3, HO_5, HB⟩ := hcut
          cases kq with
          | zero => exact absurd HA.out (by simp [compositorref02_Split.j1])
          | succ kj3 =>
            have H := HA.out
            clear HA
            simp only [compositorref02_Split.j1] at H
            by_cases c6 : x25_3 = true
            · subst c6
              have H1 : (some (x5_1, x6_1, 3)) = some (r1, r2, r3) := by rw [if_pos rfl] at H; exact H
              clear H
              have H := H1
              clear H1
              simp only [Option.some.injEq, Prod.mk.injEq] at H
              obtain ⟨rfl, rfl, rfl⟩ := H
              go_wp2
              go_ret3
              exact ⟨_, by first | rfl | (simp [errW_none, errW_some] <;> rfl) | (simp [*, errW_none, errW_some] <;> rfl), by (with_reducible repeat (first | apply Kd.S_alloc | apply Kd.S_drewN | apply Kd.S_drew)); exact HO_5.out, by repeat (first | (with_reducible first | exact HB.out | apply below_alloc | apply pw_below_drewN | apply below_drew1) | exact HB.out)⟩
            · replace c6 := Bool.eq_false_iff.mpr c6
              subst c6
              have H1 : (if (wrap64 (Int.tdiv t145 65536)) > 4096 then (some (x5_1, x6_1, 5)) else (if (wrap64 ((l0.length : Int) - x6_1)) < (wrap64 (Int.tdiv t145 65536)) then (some (x5_1, x6_1, 0)) else (if 0 ≤ (wrap64 (x6_1 + 8)) then (if (wrap64 (x6_1 + 8)) ≤ (wrap64 (x6_1 + (wrap64 (Int.tdiv t145 65536)))) then (if (wrap64 (x6_1 + (wrap64 (Int.tdiv t145 65536)))) ≤ (l0.length : Int) then (if ([] : List Int).length + ((l0.take ((wrap64 (x6_1 + (wrap64 (Int.tdiv t145 65536)))) : Int).toNat).drop ((wrap64 (x6_1 + 8)) : Int).toNat).length < 140737488355328 then ((compositorref02_number.f l0 x6_1).bind fun t150 => ((compositorref02_number.f l0 (wrap64 (x6_1 + 4))).bind fun t151 => (if x5_1.length < 3518437208883 then (compositorref02_Split.l0 kj3 l0 (x5_1 ++ [(⟨(t150) % 4294967296, Int.tmod t151 65536, (([] : List Int) ++ ((l0.take ((wrap64 (x6_1 + (wrap64 (Int.tdiv t145 65536)))) : Int).toNat).drop ((wrap64 (x6_1 + 8)) : Int).toNat))⟩ : S25)]) (wrap64 (x6_1 + (wrap64 (Int.tdiv t145 65536))))) else (none)))) else (none)) else (none)) else (none)) else (none)))) = some (r1, r2, r3) := by rw [if_neg (show ¬ (false = true) by decide)] at H; exact H
              clear H
              have H := H1
              clear H1
              by_cases c7 : (wrap64 (Int.tdiv t145 65536)) > 4096
              · rw [if_pos c7] at H
                have c7b0 : decide (4096 < (wrap64 (Int.tdiv t145 65536))) = true := decide_eq_true c7
                clear c7
                simp only [Option.some.injEq, Prod.mk.injEq] at H
                obtain ⟨rfl, rfl, rfl⟩ := H
                go_wp2
                go_ret3
                exact ⟨_, by first | rfl | (simp [errW_none, errW_some] <;> rfl) | (simp [*, errW_none, errW_some] <;> rfl), by (with_reducible repeat (first | apply Kd.S_alloc | apply Kd.S_drewN | apply Kd.S_drew)); exact HO_5.out, by repeat (first | (with_reducible first | exact HB.out | apply below_alloc | apply pw_below_drewN | apply below_drew1) | exact HB.out)⟩
              · rw [if_neg c7] at H
                have c7b0 : decide (4096 < (wrap64 (Int.tdiv t145 65536))) = false := decide_eq_false c7
                clear c7
                by_cases c8 : (wrap64 ((l0.length : Int) - x6_1)) < (wrap64 (Int.tdiv t145 65536))
                · rw [if_pos c8] at H
                  have c8b0 : decide ((wrap64 ((l0.length : Int) - x6_1)) < (wrap64 (Int.tdiv t145 65536))) = true := decide_eq_true c8
                  clear c8
                  simp only [Option.some.injEq, Prod.mk.injEq] at H
                  obtain ⟨rfl, rfl, rfl⟩ := H
                  go_wp2
                  go_ret3
                  exact ⟨_, by first | rfl | (simp [errW_none, errW_some] <;> rfl) | (simp [*, errW_none, errW_some] <;> rfl), by (with_reducible repeat (first | apply Kd.S_alloc | apply Kd.S_drewN | apply Kd.S_drew)); exact HO_5.out, by repeat (first | (with_reducible first | exact HB.out | apply below_alloc | apply pw_below_drewN | apply below_drew1) | exact HB.out)⟩
                · rw [if_neg c8] at H
                  have c8b0 : decide ((wrap64 ((l0.length : Int) - x6_1)) < (wrap64 (Int.tdiv t145 65536))) = false := decide_eq_false c8
                  clear c8
                  obtain ⟨ji9, hji9⟩ : ∃ j_ : Int, (wrap64 (x6_1 + 8)) = j_ := ⟨_, rfl⟩
                  replace H : (if 0 ≤ (ji9) then (if (ji9) ≤ (wrap64 (x6_1 + (wrap64 (Int.tdiv t145 65536)))) then (if (wrap64 (x6_1 + (wrap64 (Int.tdiv t145 65536)))) ≤ (l0.length : Int) then (if ([] : List Int).length + ((l0.take ((wrap64 (x6_1 + (wrap64 (Int.tdiv t145 65536)))) : Int).toNat).drop ((ji9) : Int).toNat).length < 140737488355328 then ((compositorref02_number.f l0 x6_1).bind fun t150 => ((compositorref02_number.f l0 (wrap64 (x6_1 + 4))).bind fun t151 => (if x5_1.length < 3518437208883 then (compositorref02_Split.l0 kj3 l0 (x5_1 ++ [(⟨(t150) % 4294967296, Int.tmod t151 65536, (([] : List Int) ++ ((l0.take ((wrap64 (x6_1 + (wrap64 (Int.tdiv t145 65536)))) : Int).toNat).drop ((ji9) : Int).toNat))⟩ : S25)]) (wrap64 (x6_1 + (wrap64 (Int.tdiv t145 65536))))) else (none)))) else (none)) else (none)) else (none)) else (none)) = some (r1, r2, r3) := by first | (rw [hji9] at H; exact H) | (simp only [hji9] at H ⊢; exact H)
                  have hji9w : (IntKind.i64.wrap (x6_1 + 8)) = ji9 := (i64_w _).trans hji9
                  by_cases c10 : 0 ≤ (ji9)
                  · rw [if_pos c10] at H
                    have c10b0 := eq_true c10
                    have c10b1 : decide (0 ≤ (ji9)) = true := decide_eq_true c10
                    clear c10
                    by_cases c11 : (ji9) ≤ (wrap64 (x6_1 + (wrap64 (Int.tdiv t145 65536))))
                    · rw [if_pos c11] at H
                      have c11b0 := eq_true c11
                      have c11b1 : decide ((ji9) ≤ (wrap64 (x6_1 + (wrap64 (Int.tdiv t145 65536))))) = true := decide_eq_true c11
                      by_cases c12 : (wrap64 (x6_1 + (wrap64 (Int.tdiv t145 65536)))) ≤ (l0.length : Int)
                      · rw [if_pos c12] at H
                        have c12b0 := eq_true c12
                        have c12b1 : decide ((wrap64 (x6_1 + (wrap64 (Int.tdiv t145 65536)))) ≤ (l0.length : Int)) = true := decide_eq_true c12
                        by_cases c13 : ([] : List Int).length + ((l0.take ((wrap64 (x6_1 + (wrap64 (Int.tdiv t145 65536)))) : Int).toNat).drop ((ji9) : Int).toNat).length < 140737488355328
                        · rw [if_pos c13] at H
                          have LMc13 := Aside0.mk c13
                          clear c13
                          obtain ⟨y147, hy147⟩ : ∃ y_ : List Int, y_ = (([] : List Int) ++ ((l0.take ((wrap64 (x6_1 + (wrap64 (Int.tdiv t145 65536)))) : Int).toNat).drop ((ji9) : Int).toNat)) := ⟨_, rfl⟩
                          replace H : ((compositorref02_number.f l0 x6_1).bind fun t150 => ((compositorref02_number.f l0 (wrap64 (x6_1 + 4))).bind fun t151 => (if x5_1.length < 3518437208883 then (compositorref02_Split.l0 kj3 l0 (x5_1 ++ [(⟨(t150) % 4294967296, Int.tmod t151 65536, y147⟩ : S25)]) (wrap64 (x6_1 + (wrap64 (Int.tdiv t145 65536))))) else (none)))) = some (r1, r2, r3) := by first | (rw [hy147]; with_reducible exact H) | (have H2_ := (Option.bind_some _ _).symm.trans H; rw [hy147]; with_reducible exact H2_) | (have H2_ := (Option.bind_some _ _).symm.trans H; with_reducible exact H2_) | with_reducible exact H | (rw [hy147]; exact H) | exact H
                          have Ny147 := Aside0.mk hy147
                          clear hy147
                          replace H := Option.bind_eq_some_iff.mp H
                          obtain ⟨t150, A140, H⟩ := H
                          replace H : ((compositorref02_number.f l0 (wrap64 (x6_1 + 4))).bind fun t151 => (if x5_1.length < 3518437208883 then (compositorref02_Split.l0 kj3 l0 (x5_1 ++ [(⟨(t150) % 4294967296, Int.tmod t151 65536, y147⟩ : S25)]) (wrap64 (x6_1 + (wrap64 (Int.tdiv t145 65536))))) else (none))) = some (r1, r2, r3) := H
                          have A14 := Aside0.mk A140
                          clear A140
                          replace H := Option.bind_eq_some_iff.mp H
                          obtain ⟨t151, A150, H⟩ := H
                          replace H : (if x5_1.length < 3518437208883 then (compositorref02_Split.l0 kj3 l0 (x5_1 ++ [(⟨(t150) % 4294967296, Int.tmod t151 65536, y147⟩ : S25)]) (wrap64 (x6_1 + (wrap64 (Int.tdiv t145 65536))))) else (none)) = some (r1, r2, r3) := H
                          have A15 := Aside0.mk A150
                          clear A150
                          by_cases c16 : x5_1.length < 3518437208883
                          · rw [if_pos c16] at H
                            have LMc16 := Aside0.mk c16
                            clear c16
                            obtain ⟨y152, hy152⟩ : ∃ y_ : List (S25), y_ = (x5_1 ++ [(⟨(t150) % 4294967296, Int.tmod t151 65536, y147⟩ : S25)]) := ⟨_, rfl⟩
                            replace H : (compositorref02_Split.l0 kj3 l0 y152 (wrap64 (x6_1 + (wrap64 (Int.tdiv t145 65536))))) = some (r1, r2, r3) := by first | (rw [hy152]; with_reducible exact H) | (have H2_ := (Option.bind_some _ _).symm.trans H; rw [hy152]; with_reducible exact H2_) | (have H2_ := (Option.bind_some _ _).symm.trans H; with_reducible exact H2_) | with_reducible exact H | (rw [hy152]; exact H) | exact H
                            have Ny152 := Aside0.mk hy152
                            clear hy152
                            have H' := Aside0.mk H
                            clear H
                            obtain ⟨i017, hi017, _, hsz17, _⟩ := info_parts info5
                            obtain ⟨A17, hcut17, hA17, hC17⟩ := print_mid_of (P := Try.prog) (Value.int .u8) 0 23 5 .i64 .i64 Try.underlying23 hi017 hsz17 A0 c0 l0 (ji9) (wrap64 (x6_1 + (wrap64 (Int.tdiv t145 65536)))) (of_decide_eq_true (by first | (with_reducible assumption) | assumption)) (by first | omega | exact of_decide_eq_true (by first | (with_reducible assumption) | assumption)) (of_decide_eq_true (by first | (with_reducible assumption) | assumption)) HC0.out
                            have HR146 := Aside0.mk (Kd.C_of_reads (h1 := fun _ => rfl) (hA17 _ (Kd.reads_of_C HR0.out)))
                            have HC146 := Aside0.mk hC17
                            clear hA17 hC17 hi017 hsz17
                            go_wp2_with (first | ((with_reducible refine gate_builtin (b := .append) (xs := #[.tmp 40, .tmp 47]) rfl ?_); at_builtin; refine Kd.R_append_rows (Kd.int .u8) (w0 := w) w.heap.size rfl (.tmp 40) (.tmp 47) 23 5 (.int .u8 0) 1 rfl Try.underlying23 info5 rfl (by decide) (by omega) (.slice none 0 0) ([] : List Int) ((l0.take ((wrap64 (x6_1 + (wrap64 (Int.tdiv t145 65536)))) : Int).toNat).drop ((ji9) : Int).toNat) _ _ _ (fun _ => True) (fun _ => False) rfl rfl ?aO ?aR (fun _ _ h => h) (fun _ h => h.elim) ?aF ?aB ?aS ?aL ?_; (case aR => first | (refine C_cast (show ((l0.take ((wrap64 (x6_1 + (wrap64 (Int.tdiv t145 65536)))) : Int).toNat).drop ((ji9) : Int).toNat).length = ((wrap64 (x6_1 + (wrap64 (Int.tdiv t145 65536)))).toNat - (ji9).toNat) from (by rw [List.length_drop, List.length_take]; have h_ : ((wrap64 (x6_1 + (wrap64 (Int.tdiv t145 65536)))) : Int) ≤ (l0.length : Int) := of_decide_eq_true (by first | (with_reducible assumption) | assumption); omega)) ?_; repeat (first | exact (Kd.C_below HR146.out HB.out) | (with_reducible refine Kd.C_alloc ?_ _) | (with_reducible refine Kd.C_drewN ?_ _) | (with_reducible refine Kd.C_drew ?_)); done) | (rw [← show ((l0.take ((wrap64 (x6_1 + (wrap64 (Int.tdiv t145 65536)))) : Int).toNat).drop ((ji9) : Int).toNat).length = ((wrap64 (x6_1 + (wrap64 (Int.tdiv t145 65536)))).toNat - (ji9).toNat) from (by rw [List.length_drop, List.length_take]; have h_ : ((wrap64 (x6_1 + (wrap64 (Int.tdiv t145 65536)))) : Int) ≤ (l0.length : Int) := of_decide_eq_true (by first | (with_reducible assumption) | assumption); omega)]; repeat (first | exact (Kd.C_below HR146.out HB.out) | (with_reducible refine Kd.C_alloc ?_ _) | (with_reducible refine Kd.C_drewN ?_ _) | (with_reducible refine Kd.C_drew ?_)); done) | (repeat (first | exact (Kd.C_below HR146.out HB.out) | (with_reducible refine Kd.C_alloc ?_ _) | (with_reducible refine Kd.C_drewN ?_ _) | (with_reducible refine Kd.C_drew ?_)); done)); (case aB => exact (by repeat (first | (with_reducible first | exact HB.out | apply below_alloc | apply pw_below_drewN | apply below_drew1) | exact HB.out))); (case aF => exact (fun _ _ => trivial)); (case aO => exact ((Kd.R_nil _ _ _ _ (fun _ => True)))); (case aS => exact (below_size (by repeat (first | (with_reducible first | exact HB.out | apply below_alloc | apply pw_below_drewN | apply below_drew1) | exact HB.out)))); (case aL => have := LMc13.out; have hlx_ := (show ((l0.take ((wrap64 (x6_1 + (wrap64 (Int.tdiv t145 65536)))) : Int).toNat).drop ((ji9) : Int).toNat).length = ((wrap64 (x6_1 + (wrap64 (Int.tdiv t145 65536)))).toNat - (ji9).toNat) from (by rw [List.length_drop, List.length_take]; have h_ : ((wrap64 (x6_1 + (wrap64 (Int.tdiv t145 65536)))) : Int) ≤ (l0.length : Int) := of_decide_eq_true (by first | (with_reducible assumption) | assumption); omega)); omega); intro v148 w18 ho hb hg hat; rw [← Ny147.out] at ho; have n0_ := Aside0.mk (Kd.S_after (Kd.S_apart_nil (by (with_reducible repeat (first | apply Kd.S_alloc | apply Kd.S_drewN | apply Kd.S_drew)); exact HO_5.out)) hg hat); have n1_ := Aside0.mk (hb); have n2_ := Aside0.mk (ho); clear HO_5; clear HB; have HO_5 := n0_; have HB := n1_; have HO149 := n2_; clear n0_ n1_ n2_; clear ho hb hg hat) | ((with_reducible refine gate_callee (f := 27) rfl ?_); refine goesL_ (some 52) rfl rfl Try.func27 (by kernel_rfl) rfl #[.slice A0 l0.length c0, .int .i64 x6_1] rfl (by (try simp only [List.map_toArray, List.map_cons, List.map_nil]); first | done | rfl | (simp only [List.length_drop, List.length_take]; rfl)) ?_; (with_reducible refine (compositorref02_number.calls _ _ l0 x6_1 t150 _ ?side1 ?side2 A14.out).mono ?_); (case side1 => repeat (first | exact (Kd.C_below HR0.out HB.out) | (with_reducible refine Kd.C_alloc ?_ _) | (with_reducible refine Kd.C_drewN ?_ _) | (with_reducible refine Kd.C_drew ?_))); (case side2 => exact HC0.out); rintro e w' ⟨rfl, ⟨nd, rfl⟩⟩; refine ⟨_, rfl, ?_⟩) | ((with_reducible refine gate_callee (f := 27) rfl ?_); refine goesL_ (some 57) rfl rfl Try.func27 (by kernel_rfl) rfl #[.slice A0 l0.length c0, .int .i64 (wrap64 (x6_1 + 4))] rfl (by (try simp only [List.map_toArray, List.map_cons, List.map_nil]); first | done | rfl | (simp only [List.length_drop, List.length_take]; rfl)) ?_; (with_reducible refine (compositorref02_number.calls _ _ l0 (wrap64 (x6_1 + 4)) t151 _ ?side1 ?side2 A15.out).mono ?_); (case side1 => repeat (first | exact (Kd.C_below HR0.out (by repeat (first | (with_reducible first | exact HB.out | apply below_alloc | apply pw_below_drewN | apply below_drew1) | exact HB.out))) | (with_reducible refine Kd.C_alloc ?_ _) | (with_reducible refine Kd.C_drewN ?_ _) | (with_reducible refine Kd.C_drew ?_))); (case side2 => exact HC0.out); rintro e w' ⟨rfl, ⟨nd, rfl⟩⟩; refine ⟨_, rfl, ?_⟩; obtain ⟨Ao19, co19, eo19⟩ := Kd.R_slice HO149.out; subst eo19) | ((with_reducible refine gate_builtin (b := .append) (xs := #[.tmp 49, .tmp 61]) rfl ?_); at_builtin; refine Kd.S_append k25 (w0 := w) w.heap.size rfl (.tmp 49) (.tmp 61) 31 25 (.agg #[(.int .u32 0), (.int .i64 0), (.slice none 0 0)]) 40 rfl Try.underlying31 info25 rfl (by decide) (by omega) u5 x5_1 (⟨(t150) % 4294967296, Int.tmod t151 65536, y147⟩ : S25) [.int .u32 ((t150) % 4294967296), .int .i64 (Int.tmod t151 65536), .slice Ao19 y147.length co19] (fun _ => True) (fun k_ => some k_ = (.slice Ao19 y147.length co19 : Value).ownBlock) rfl rfl ?aP (fun k_ hk_ => ((Kd.R_mono (ok' := fun k_ => ((fun _ => True)) k_ ∧ some k_ ≠ (u5 : Value).ownBlock) (Kd.R_apart' (HO149.out) (Kd.S_typed HO_5.out) (by decide)) (fun k_ hk => ⟨trivial, hk.2⟩))).1 k_ hk_.symm) ?aF ?aO ?aB ?aS ?aL ?_; (case aP => exact k25_mkM _ _ _ (⟨(t150) % 4294967296, Int.tmod t151 65536, y147⟩ : S25) (Kd.R_mono (Kd.R_tight rfl (Kd.R_mono (ok' := fun k_ => ((fun _ => True)) k_ ∧ some k_ ≠ (u5 : Value).ownBlock) (Kd.R_apart' (HO149.out) (Kd.S_typed HO_5.out) (by decide)) (fun k_ hk => ⟨trivial, hk.2⟩))) (fun _ h_ => h_))); (case aB => exact (by repeat (first | (with_reducible first | exact HB.out | apply below_alloc | apply pw_below_drewN | apply below_drew1) | exact HB.out))); (case aF => exact (fun _ _ => trivial)); (case aO => exact (by (with_reducible repeat (first | apply Kd.S_alloc | apply Kd.S_drewN | apply Kd.S_drew)); exact Kd.S_mono HO_5.out (fun k_ hk => ⟨trivial, fun e_ => hk.2 e_⟩))); (case aS => exact (below_size (by repeat (first | (with_reducible first | exact HB.out | apply below_alloc | apply pw_below_drewN | apply below_drew1) | exact HB.out)))); (case aL => have := LMc16.out; omega); intro v153 w20 ho hb hg hat; rw [← Ny152.out] at ho; have n0_ := Aside0.mk (hb); have n1_ := Aside0.mk (ho); clear HB; clear HO_5; clear HO149; have HB := n0_; have HO154 := n1_; clear n0_ n1_; clear ho hb hg hat))
                            go_roundg kj3
                            case measure => have := HK1.out; have := HJ3.out; omega
                            case rel => exact ⟨(y152), (wrap64 (x6_1 + (wrap64 (Int.tdiv t145 65536)))), (by first | rfl | (simp; done) | (simp [*]; done)), H', ⟨by have := HK1.out; have := HJ3.out; omega⟩, ⟨by (with_reducible repeat (first | apply Kd.S_alloc | apply Kd.S_drewN | apply Kd.S_drew)); exact HO154.out⟩, ⟨by repeat (first | (with_reducible first | exact HB.out | apply below_alloc | apply pw_below_drewN | apply below_drew1) | exact HB.out)⟩⟩
                          · rw [if_neg c16] at H
                            exact absurd H (by simp)
                        · rw [if_neg c13] at H
                          exact absurd H (by simp)
                      · rw [if_neg c12] at H
                        exact absurd H (by simp)
                    · rw [if_neg c11] at H
                      exact absurd H (by simp)
                  · rw [if_neg c10] at H
                    exact absurd H (by simp)
      · rw [if_neg c2] at H
        have c2b0 : decide (8 ≤ (wrap64 ((l0.length : Int) - x6_1))) = false := decide_eq_false c2
        clear c2
        simp only [Option.some.injEq, Prod.mk.injEq] at H
        obtain ⟨rfl, rfl, rfl⟩ := H
        go_wp2
        go_ret3
        exact ⟨_, by first | rfl | (simp [errW_none, errW_some] <;> rfl) | (simp [*, errW_none, errW_some] <;> rfl), by (with_reducible repeat (first | apply Kd.S_alloc | apply Kd.S_drewN | apply Kd.S_drew)); exact HO_5.out, by repeat (first | (with_reducible first | exact HB.out | apply below_alloc | apply pw_below_drewN | apply below_drew1) | exact HB.out)⟩

end Go.Proofs.Ytipmcklkflgppaa.Q
