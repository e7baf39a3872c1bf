-- Written by wip/myprint.py out of the translation; not trusted: Lean checks it.
import Derived.Test.YtgabllnijkodbaaQx0
import Derived.Test.YtgabllnijkodbaaQx6
import Derived.Test.YtgabllnijkodbaaQx7
import Derived.Test.YtgabllnijkodbaaQx8
import Derived.Test.YtgabllnijkodbaaQx15
import Derived.Test.YtgabllnijkodbaaQx16
import Derived.Test.YtgabllnijkodbaaQx21
namespace Go.Proofs.Ytgabllnijkodbaa.Q
open Go.Proofs.Ytgabllnijkodbaa.Hand
open Go.RowKit Go.Proofs.YtgabllnijkodbaaW.PrintWords Go.Proofs.YtgabllnijkodbaaW.PrintLast Go.Proofs.YtgabllnijkodbaaW.PrintMore
attribute [local go_sem] max2_int min2_int max_two min_two max_three min_three max_four min_four   -- for this text's walks alone
attribute [local go_sem] sg_u32 sg_u8 sg_u16 sg_u64
set_option linter.unusedVariables false
set_option linter.unusedSimpArgs false

/-! ### compositorlaw03_ChecksumAppend: function 8 -/
def compositorlaw03_ChecksumAppend.j0 : Nat → Int → List Int → Bool → Option (Bool)
  | 0, _, _, _ => none
  | k + 1, x1, x6, x51 => if x51 = true then (some false) else (if (wrap64 (8 * (x6.length : Int))) = 0 then (none) else (if 0 ≤ (wrap64 (Int.tdiv (Int.tmod (wrap64 (x1)) (wrap64 (8 * (x6.length : Int)))) 8)) then (if (wrap64 (Int.tdiv (Int.tmod (wrap64 (x1)) (wrap64 (8 * (x6.length : Int)))) 8)) < (x6.length : Int) then (if 0 ≤ (IntKind.u64.wrap (Int.tmod (Int.tmod (wrap64 (x1)) (wrap64 (8 * (x6.length : Int)))) 8)) then ((checksum_Verify.f (x6.set ((wrap64 (Int.tdiv (Int.tmod (wrap64 (x1)) (wrap64 (8 * (x6.length : Int)))) 8)) : Int).toNat (Go.bits .xor .u8 (rd x6 (wrap64 (Int.tdiv (Int.tmod (wrap64 (x1)) (wrap64 (8 * (x6.length : Int)))) 8))) (shl .u8 1 (IntKind.u64.wrap (Int.tmod (Int.tmod (wrap64 (x1)) (wrap64 (8 * (x6.length : Int)))) 8)))))).bind fun bt220 => (if bt220.2 = 19 then (if (bt220.1.length : Int) = 0 then ((compositorlaw03_exampleHolds.f).bind fun t224 => (some t224)) else (some false)) else (some false))) else (none)) else (none)) else (none)))
def compositorlaw03_ChecksumAppend.f (k : Nat) (l0 : List Int) (a1 : Int) : Option (Bool) := if (l0.length : Int) > 1000 then ((compositorlaw03_exampleHolds.f).bind fun t201 => (some t201)) else ((compositorlaw03_joined.f l0 ([] : List Int)).bind fun t202 => ((checksum_Append.f l0).bind fun t205 => ((checksum_Verify.f t205).bind fun bt208 => (if (t205.length : Int) = (wrap64 ((l0.length : Int) + 4)) then (if bt208.2 = 0 then ((compositorref03_Same.f k bt208.1 t202).bind fun t212 => (if t212 = true then ((compositorref03_Same.f k l0 t202).bind fun t213 => (if t213 = true then ((compositorref03_Append.f k t202).bind fun t214 => ((compositorref03_Same.f k t205 t214).bind fun t217 => (compositorlaw03_ChecksumAppend.j0 k a1 t205 (!t217)))) else (compositorlaw03_ChecksumAppend.j0 k a1 t205 true))) else (compositorlaw03_ChecksumAppend.j0 k a1 t205 true))) else (compositorlaw03_ChecksumAppend.j0 k a1 t205 true)) else (compositorlaw03_ChecksumAppend.j0 k a1 t205 true)))))
theorem compositorlaw03_ChecksumAppend.mono_l : ∀ k, (∀ y0 y1 y2, LeO (compositorlaw03_ChecksumAppend.j0 k y0 y1 y2) (compositorlaw03_ChecksumAppend.j0 (k + 1) y0 y1 y2))
  | 0 => fun _ _ _ r h => by simp [compositorlaw03_ChecksumAppend.j0] at h
  | k + 1 => by
    have ih0 := compositorlaw03_ChecksumAppend.mono_l k
    · intro y0 y1 y2
      unfold compositorlaw03_ChecksumAppend.j0
      repeat' first
      | (with_reducible exact ih0 _ _ _)
      | (with_reducible exact compositorref03_Append.mono _ _)
      | (with_reducible exact compositorref03_Same.mono _ _ _)
      | (with_reducible exact LeO.refl _)
      | (with_reducible exact LeO.none _)
      | (with_reducible refine LeO.ite ?_ ?_)
      | (with_reducible refine LeO.bind ?_ (fun _ => ?_))
      | exact ih0 _ _ _
      | exact compositorref03_Append.mono _ _
      | exact compositorref03_Same.mono _ _ _
      | exact LeO.none _
      | refine LeO.ite ?_ ?_
      | refine LeO.bind ?_ (fun _ => ?_)
theorem compositorlaw03_ChecksumAppend.mono : ∀ a0 a1 k, LeO (compositorlaw03_ChecksumAppend.f k a0 a1) (compositorlaw03_ChecksumAppend.f (k + 1) a0 a1) := by
  intro a0 a1 k
  have ih0 := compositorlaw03_ChecksumAppend.mono_l k
  unfold compositorlaw03_ChecksumAppend.f
  repeat' first
      | (with_reducible exact ih0 _ _ _)
      | (with_reducible exact compositorref03_Append.mono _ _)
      | (with_reducible exact compositorref03_Same.mono _ _ _)
      | (with_reducible exact LeO.refl _)
      | (with_reducible exact LeO.none _)
      | (with_reducible refine LeO.ite ?_ ?_)
      | (with_reducible refine LeO.bind ?_ (fun _ => ?_))
      | exact ih0 _ _ _
      | exact compositorref03_Append.mono _ _
      | exact compositorref03_Same.mono _ _ _
      | exact LeO.none _
      | refine LeO.ite ?_ ?_
      | refine LeO.bind ?_ (fun _ => ?_)
set_option maxHeartbeats 8000000 in
set_option maxRecDepth 100000 in
theorem compositorlaw03_ChecksumAppend.calls (k : Nat) (A0 : Option Addr) (c0 : Nat) (l0 : List Int) (a1 : Int) (r : Bool) (w : World) (hr0 : Kd.C (Kd.int .u8) w A0 l0.length l0) (hc0 : l0.length ≤ c0) (h : compositorlaw03_ChecksumAppend.f k l0 a1 = some r) :
    Calls Try.prog 8 #[.slice A0 l0.length c0, .int .u16 a1] w fun e w' => e = .returned (.bool r) ∧ Below w.heap.size w w' := by
  have HR0 := Aside0.mk hr0
  have HC0 := Aside0.mk hc0
  clear hr0 hc0
  have HB := Aside0.mk (Below.refl w.heap.size w)
  have H : (if (l0.length : Int) > 1000 then ((compositorlaw03_exampleHolds.f).bind fun t201 => (some t201)) else ((compositorlaw03_joined.f l0 ([] : List Int)).bind fun t202 => ((checksum_Append.f l0).bind fun t205 => ((checksum_Verify.f t205).bind fun bt208 => (if (t205.length : Int) = (wrap64 ((l0.length : Int) + 4)) then (if bt208.2 = 0 then ((compositorref03_Same.f k bt208.1 t202).bind fun t212 => (if t212 = true then ((compositorref03_Same.f k l0 t202).bind fun t213 => (if t213 = true then ((compositorref03_Append.f k t202).bind fun t214 => ((compositorref03_Same.f k t205 t214).bind fun t217 => (compositorlaw03_ChecksumAppend.j0 k a1 t205 (!t217)))) else (compositorlaw03_ChecksumAppend.j0 k a1 t205 true))) else (compositorlaw03_ChecksumAppend.j0 k a1 t205 true))) else (compositorlaw03_ChecksumAppend.j0 k a1 t205 true)) else (compositorlaw03_ChecksumAppend.j0 k a1 t205 true)))))) = some r := h
  clear h
  by_cases c3 : (l0.length : Int) > 1000
  · rw [if_pos c3] at H
    have c3b0 : decide (1000 < (l0.length : Int)) = true := decide_eq_true c3
    have c3b1 : decide (1000 < l0.length) = true := decide_eq_true (by omega)
    clear c3
    replace H := Option.bind_eq_some_iff.mp H
    obtain ⟨t201, A40, H⟩ := H
    replace H : (some t201) = some r := H
    have A4 := Aside0.mk A40
    clear A40
    obtain rfl := Option.some.inj H
    go_enter Try.func8, Try.ntmps8
    go_wp2_with (first | ((with_reducible refine gate_callee (f := 12) rfl ?_); refine goesL_ (some 13) rfl rfl Try.func12 (by kernel_rfl) rfl #[] rfl (by (try simp only [List.map_toArray, List.map_cons, List.map_nil]); first | done | rfl | (simp only [List.length_drop, List.length_take]; rfl)) ?_; (with_reducible refine (compositorlaw03_exampleHolds.calls  t201 _ A4.out).mono ?_); rintro e w5 ⟨rfl, hb⟩; refine ⟨_, rfl, ?_⟩; have n0_ := Aside0.mk (below_step (by repeat (first | (with_reducible first | exact HB.out | apply below_alloc | apply pw_below_drewN | apply below_drew1) | exact HB.out)) hb); clear HB; have HB := n0_; clear n0_; (try clear hb); (try clear hb2); (try clear hk); (try clear hi)))
    go_ret
    exact ⟨by first | rfl | (simp [errW_none, errW_some] <;> rfl) | (simp [*, errW_none, errW_some] <;> rfl), by repeat (first | (with_reducible first | exact HB.out | apply below_alloc | apply pw_below_drewN | apply below_drew1) | exact HB.out)⟩
  · rw [if_neg c3] at H
    have c3b0 : decide (1000 < (l0.length : Int)) = false := decide_eq_false c3
    have c3b1 : decide (1000 < l0.length) = false := decide_eq_false (by omega)
    clear c3
    replace H := Option.bind_eq_some_iff.mp H
    obtain ⟨t202, A60, H⟩ := H
    replace H : ((checksum_Append.f l0).bind fun t205 => ((checksum_Verify.f t205).bind fun bt208 => (if (t205.length : Int) = (wrap64 ((l0.length : Int) + 4)) then (if bt208.2 = 0 then ((compositorref03_Same.f k bt208.1 t202).bind fun t212 => (if t212 = true then ((compositorref03_Same.f k l0 t202).bind fun t213 => (if t213 = true then ((compositorref03_Append.f k t202).bind fun t214 => ((compositorref03_Same.f k t205 t214).bind fun t217 => (compositorlaw03_ChecksumAppend.j0 k a1 t205 (!t217)))) else (compositorlaw03_ChecksumAppend.j0 k a1 t205 true))) else (compositorlaw03_ChecksumAppend.j0 k a1 t205 true))) else (compositorlaw03_ChecksumAppend.j0 k a1 t205 true)) else (compositorlaw03_ChecksumAppend.j0 k a1 t205 true)))) = some r := H
    have A6 := Aside0.mk A60
    clear A60
    replace H := Option.bind_eq_some_iff.mp H
    obtain ⟨t205, A70, H⟩ := H
    replace H : ((checksum_Verify.f t205).bind fun bt208 => (if (t205.length : Int) = (wrap64 ((l0.length : Int) + 4)) then (if bt208.2 = 0 then ((compositorref03_Same.f k bt208.1 t202).bind fun t212 => (if t212 = true then ((compositorref03_Same.f k l0 t202).bind fun t213 => (if t213 = true then ((compositorref03_Append.f k t202).bind fun t214 => ((compositorref03_Same.f k t205 t214).bind fun t217 => (compositorlaw03_ChecksumAppend.j0 k a1 t205 (!t217)))) else (compositorlaw03_ChecksumAppend.j0 k a1 t205 true))) else (compositorlaw03_ChecksumAppend.j0 k a1 t205 true))) else (compositorlaw03_ChecksumAppend.j0 k a1 t205 true)) else (compositorlaw03_ChecksumAppend.j0 k a1 t205 true))) = some r := H
    have A7 := Aside0.mk A70
    clear A70
    replace H := Option.bind_eq_some_iff.mp H
    obtain ⟨⟨t208, t209⟩, A80, H⟩ := H
    replace H : (if (t205.length : Int) = (wrap64 ((l0.length : Int) + 4)) then (if t209 = 0 then ((compositorref03_Same.f k t208 t202).bind fun t212 => (if t212 = true then ((compositorref03_Same.f k l0 t202).bind fun t213 => (if t213 = true then ((compositorref03_Append.f k t202).bind fun t214 => ((compositorref03_Same.f k t205 t214).bind fun t217 => (compositorlaw03_ChecksumAppend.j0 k a1 t205 (!t217)))) else (compositorlaw03_ChecksumAppend.j0 k a1 t205 true))) else (compositorlaw03_ChecksumAppend.j0 k a1 t205 true))) else (compositorlaw03_ChecksumAppend.j0 k a1 t205 true)) else (compositorlaw03_ChecksumAppend.j0 k a1 t205 true)) = some r := H
    have A8 := Aside0.mk A80
    clear A80
    have HC9 := Aside0.mk H
    clear H
    go_enter Try.func8, Try.ntmps8
    go_upto_region 6 with (first | ((with_reducible refine gate_callee (f := 21) rfl ?_); refine goesL_ (some 15) rfl rfl Try.func21 (by kernel_rfl) rfl #[.slice A0 l0.length c0, .slice none 0 0] rfl (by (try simp only [List.map_toArray, List.map_cons, List.map_nil]); first | done | rfl | (simp only [List.length_drop, List.length_take]; rfl)) ?_; (refine (compositorlaw03_joined.calls _ _ l0 _ _ ([] : List Int) t202 _ ?side1 ?side2 ?side3 ?side4 A6.out).mono ?_); (case side1 => repeat (first | exact HR0.out | (with_reducible refine Kd.C_alloc ?_ _) | (with_reducible refine Kd.C_drewN ?_ _) | (with_reducible refine Kd.C_drew ?_))); (case side2 => exact HC0.out); (case side3 => exact Kd.C_nil _ _); (case side4 => exact Nat.le_refl _); rintro e w10 ⟨v203, rfl, ho0, hb⟩; refine ⟨_, rfl, ?_⟩; have n0_ := Aside0.mk (Kd.R_lower ho0 (below_size (by repeat (first | (with_reducible first | exact HB.out | apply below_alloc | apply pw_below_drewN | apply below_drew1) | exact HB.out)))); have n1_ := Aside0.mk (below_step (by repeat (first | (with_reducible first | exact HB.out | apply below_alloc | apply pw_below_drewN | apply below_drew1) | exact HB.out)) hb); clear HB; have HO204 := n0_; have HB := n1_; clear n0_ n1_; (try clear hb); (try clear hb2); (try clear hk); (try clear hi); (try clear ho0)) | ((with_reducible refine gate_callee (f := 23) rfl ?_); refine goesL_ (some 17) rfl rfl Try.func23 (by kernel_rfl) rfl #[.slice A0 l0.length c0] rfl (by (try simp only [List.map_toArray, List.map_cons, List.map_nil]); first | done | rfl | (simp only [List.length_drop, List.length_take]; rfl)) ?_; (with_reducible refine (checksum_Append.calls _ _ l0 t205 _ ?side1 ?side2 A7.out).mono ?_); (case side1 => repeat (first | exact (Kd.C_below HR0.out HB.out) | (with_reducible refine Kd.C_alloc ?_ _) | (with_reducible refine Kd.C_drewN ?_ _) | (with_reducible refine Kd.C_drew ?_))); (case side2 => exact HC0.out); rintro e w11 ⟨v206, rfl, ho0, hb⟩; refine ⟨_, rfl, ?_⟩; have n0_ := Aside0.mk (Kd.R_elder' (by (with_reducible repeat (first | apply Kd.R_alloc | apply Kd.R_drewN | apply Kd.R_drew)); exact HO204.out) (Kd.R_base ho0) hb); have n1_ := Aside0.mk (Kd.R_lower (Kd.R_new' ho0 (Kd.R_lt (by (with_reducible repeat (first | apply Kd.R_alloc | apply Kd.R_drewN | apply Kd.R_drew)); exact HO204.out))) (below_size (by repeat (first | (with_reducible first | exact HB.out | apply below_alloc | apply pw_below_drewN | apply below_drew1) | exact HB.out)))); have n2_ := Aside0.mk (below_step (by repeat (first | (with_reducible first | exact HB.out | apply below_alloc | apply pw_below_drewN | apply below_drew1) | exact HB.out)) hb); clear HO204; clear HB; have HO204 := n0_; have HO207 := n1_; have HB := n2_; clear n0_ n1_ n2_; (try clear hb); (try clear hb2); (try clear hk); (try clear hi); (try clear ho0); obtain ⟨Ao12, co12, eo12⟩ := Kd.R_slice HO207.out; subst eo12) | ((with_reducible refine gate_callee (f := 24) rfl ?_); refine goesL_ (some 20) rfl rfl Try.func24 (by kernel_rfl) rfl #[.slice Ao12 t205.length co12] rfl (by (try simp only [List.map_toArray, List.map_cons, List.map_nil]); first | done | rfl | (simp only [List.length_drop, List.length_take]; rfl)) ?_; (with_reducible refine (checksum_Verify.calls _ _ t205 t208 t209 _ ?side1 ?side2 A8.out).mono ?_); (case side1 => repeat (first | exact (Kd.R_reads' HO207.out).2.2 | (with_reducible refine Kd.C_alloc ?_ _) | (with_reducible refine Kd.C_drewN ?_ _) | (with_reducible refine Kd.C_drew ?_))); (case side2 => exact (Kd.R_reads' HO207.out).2.1); rintro e w13 ⟨v210, rfl, ho0, hb⟩; refine ⟨_, rfl, ?_⟩; have n0_ := Aside0.mk (Kd.R_elder' (by (with_reducible repeat (first | apply Kd.R_alloc | apply Kd.R_drewN | apply Kd.R_drew)); exact HO204.out) (Kd.R_base ho0) hb); have n1_ := Aside0.mk (Kd.R_elder' (by (with_reducible repeat (first | apply Kd.R_alloc | apply Kd.R_drewN | apply Kd.R_drew)); exact HO207.out) (Kd.R_base ho0) hb); have n2_ := Aside0.mk (Kd.R_lower (Kd.R_new' (Kd.R_new' ho0 (Kd.R_lt (by (with_reducible repeat (first | apply Kd.R_alloc | apply Kd.R_drewN | apply Kd.R_drew)); exact HO204.out))) (Kd.R_lt (by (with_reducible repeat (first | apply Kd.R_alloc | apply Kd.R_drewN | apply Kd.R_drew)); exact HO207.out))) (below_size (by repeat (first | (with_reducible first | exact HB.out | apply below_alloc | apply pw_below_drewN | apply below_drew1) | exact HB.out)))); have n3_ := Aside0.mk (below_step (by repeat (first | (with_reducible first | exact HB.out | apply below_alloc | apply pw_below_drewN | apply below_drew1) | exact HB.out)) hb); clear HO204; clear HO207; clear HB; have HO204 := n0_; have HO207 := n1_; have HO211 := n2_; have HB := n3_; clear n0_ n1_ n2_ n3_; (try clear hb); (try clear hb2); (try clear hk); (try clear hi); (try clear ho0)))
    (try simp only [Act.put, List.setIfInBounds_toArray, List.set_cons_zero, List.set_cons_succ])
    go_cut [51] (fun v51 wc => ∃ (kq : Nat) (x51_8 : Bool), v51 = .bool x51_8 ∧ Aside0 (compositorlaw03_ChecksumAppend.j0 kq a1 t205 x51_8 = some r) ∧ Aside0 (kq ≤ k) ∧ Aside0 (Kd.R (Kd.int .u8) 5 wc w.heap.size (fun _ => True) (.slice Ao12 t205.length co12) t205) ∧ Aside0 (Below w.heap.size w wc))
    case first =>
      have H := HC9.out
      clear HC9
      by_cases c14 : (t205.length : Int) = (wrap64 ((l0.length : Int) + 4))
      · rw [if_pos c14] at H
        have c14b0 : ((t205.length : Int) == (wrap64 ((l0.length : Int) + 4))) = true := beq_iff_eq.mpr c14
        have c14b1 : ((t205.length : Int) != (wrap64 ((l0.length : Int) + 4))) = false := bne_eq_false_iff_eq.mpr c14
        clear c14
        (first | rw [c14b0] | (simp only [i64_w, i32_w]; rw [c14b0]) | skip)
        by_cases c15 : t209 = 0
        · rw [if_pos c15] at H
          have c15b0 : (t209 == 0) = true := beq_iff_eq.mpr c15
          have c15b1 : (t209 != 0) = false := bne_eq_false_iff_eq.mpr c15
          clear c15
          replace H := Option.bind_eq_some_iff.mp H
          obtain ⟨t212, A160, H⟩ := H
          replace H : (if t212 = true then ((compositorref03_Same.f k l0 t202).bind fun t213 => (if t213 = true then ((compositorref03_Append.f k t202).bind fun t214 => ((compositorref03_Same.f k t205 t214).bind fun t217 => (compositorlaw03_ChecksumAppend.j0 k a1 t205 (!t217)))) else (compositorlaw03_ChecksumAppend.j0 k a1 t205 true))) else (compositorlaw03_ChecksumAppend.j0 k a1 t205 true)) = some r := H
          have A16 := Aside0.mk A160
          clear A160
          by_cases c17 : t212 = true
          · subst c17
            have H1 : ((compositorref03_Same.f k l0 t202).bind fun t213 => (if t213 = true then ((compositorref03_Append.f k t202).bind fun t214 => ((compositorref03_Same.f k t205 t214).bind fun t217 => (compositorlaw03_ChecksumAppend.j0 k a1 t205 (!t217)))) else (compositorlaw03_ChecksumAppend.j0 k a1 t205 true))) = some r := by rw [if_pos rfl] at H; exact H
            clear H
            have H := H1
            clear H1
            replace H := Option.bind_eq_some_iff.mp H
            obtain ⟨t213, A180, H⟩ := H
            replace H : (if t213 = true then ((compositorref03_Append.f k t202).bind fun t214 => ((compositorref03_Same.f k t205 t214).bind fun t217 => (compositorlaw03_ChecksumAppend.j0 k a1 t205 (!t217)))) else (compositorlaw03_ChecksumAppend.j0 k a1 t205 true)) = some r := H
            have A18 := Aside0.mk A180
            clear A180
            by_cases c19 : t213 = true
            · subst c19
              have H1 : ((compositorref03_Append.f k t202).bind fun t214 => ((compositorref03_Same.f k t205 t214).bind fun t217 => (compositorlaw03_ChecksumAppend.j0 k a1 t205 (!t217)))) = some r := by rw [if_pos rfl] at H; exact H
              clear H
              have H := H1
              clear H1
              replace H := Option.bind_eq_some_iff.mp H
              obtain ⟨t214, A200, H⟩ := H
              replace H : ((compositorref03_Same.f k t205 t214).bind fun t217 => (compositorlaw03_ChecksumAppend.j0 k a1 t205 (!t217))) = some r := H
              have A20 := Aside0.mk A200
              clear A200
              replace H := Option.bind_eq_some_iff.mp H
              obtain ⟨t217, A210, H⟩ := H
              replace H : (compositorlaw03_ChecksumAppend.j0 k a1 t205 (!t217)) = some r := H
              have A21 := Aside0.mk A210
              clear A210
              have H' := Aside0.mk H
              clear H
              obtain ⟨Ao22, co22, eo22⟩ := Kd.R_slice HO211.out
              subst eo22
              obtain ⟨Ao23, co23, eo23⟩ := Kd.R_slice HO204.out
              subst eo23
              go_wp2_with (first | (go_at_call 22; (with_reducible refine (compositorref03_Same.calls k _ _ t208 _ _ t202 true _ ?side1 ?side2 ?side3 ?side4 A16.out).mono ?_); (case side1 => repeat (first | exact (Kd.R_reads' HO211.out).2.2 | (with_reducible refine Kd.C_alloc ?_ _) | (with_reducible refine Kd.C_drewN ?_ _) | (with_reducible refine Kd.C_drew ?_))); (case side2 => exact (Kd.R_reads' HO211.out).2.1); (case side3 => repeat (first | exact (Kd.R_reads' HO204.out).2.2 | (with_reducible refine Kd.C_alloc ?_ _) | (with_reducible refine Kd.C_drewN ?_ _) | (with_reducible refine Kd.C_drew ?_))); (case side4 => exact (Kd.R_reads' HO204.out).2.1); rintro e w' ⟨rfl, ⟨nd, rfl⟩⟩) | (go_at_call 22; (with_reducible refine (compositorref03_Same.calls k _ _ l0 _ _ t202 true _ ?side1 ?side2 ?side3 ?side4 A18.out).mono ?_); (case side1 => repeat (first | exact (Kd.C_below HR0.out (by repeat (first | (with_reducible first | exact HB.out | apply below_alloc | apply pw_below_drewN | apply below_drew1) | exact HB.out))) | (with_reducible refine Kd.C_alloc ?_ _) | (with_reducible refine Kd.C_drewN ?_ _) | (with_reducible refine Kd.C_drew ?_))); (case side2 => exact HC0.out); (case side3 => repeat (first | exact (Kd.R_reads' HO204.out).2.2 | (with_reducible refine Kd.C_alloc ?_ _) | (with_reducible refine Kd.C_drewN ?_ _) | (with_reducible refine Kd.C_drew ?_))); (case side4 => exact (Kd.R_reads' HO204.out).2.1); rintro e w' ⟨rfl, ⟨nd, rfl⟩⟩) | (go_at_call 25; (with_reducible refine (compositorref03_Append.calls k _ _ t202 t214 _ ?side1 ?side2 A20.out).mono ?_); (case side1 => repeat (first | exact (Kd.R_reads' HO204.out).2.2 | (with_reducible refine Kd.C_alloc ?_ _) | (with_reducible refine Kd.C_drewN ?_ _) | (with_reducible refine Kd.C_drew ?_))); (case side2 => exact (Kd.R_reads' HO204.out).2.1); rintro e w24 ⟨v215, rfl, ho0, hb⟩; have n0_ := Aside0.mk (Kd.R_elder' (by (with_reducible repeat (first | apply Kd.R_alloc | apply Kd.R_drewN | apply Kd.R_drew)); exact HO204.out) (Kd.R_base ho0) hb); have n1_ := Aside0.mk (Kd.R_elder' (by (with_reducible repeat (first | apply Kd.R_alloc | apply Kd.R_drewN | apply Kd.R_drew)); exact HO207.out) (Kd.R_base ho0) hb); have n2_ := Aside0.mk (Kd.R_elder' (by (with_reducible repeat (first | apply Kd.R_alloc | apply Kd.R_drewN | apply Kd.R_drew)); exact HO211.out) (Kd.R_base ho0) hb); have n3_ := Aside0.mk (Kd.R_lower (Kd.R_new' (Kd.R_new' (Kd.R_new' ho0 (Kd.R_lt (by (with_reducible repeat (first | apply Kd.R_alloc | apply Kd.R_drewN | apply Kd.R_drew)); exact HO204.out))) (Kd.R_lt (by (with_reducible repeat (first | apply Kd.R_alloc | apply Kd.R_drewN | apply Kd.R_drew)); exact HO207.out))) (Kd.R_lt (by (with_reducible repeat (first | apply Kd.R_alloc | apply Kd.R_drewN | apply Kd.R_drew)); exact HO211.out))) (below_size (by repeat (first | (with_reducible first | exact HB.out | apply below_alloc | apply pw_below_drewN | apply below_drew1) | exact HB.out)))); have n4_ := Aside0.mk (below_step (by repeat (first | (with_reducible first | exact HB.out | apply below_alloc | apply pw_below_drewN | apply below_drew1) | exact HB.out)) hb); clear HO204; clear HO207; clear HO211; clear HB; have HO204 := n0_; have HO207 := n1_; have HO211 := n2_; have HO216 := n3_; have HB := n4_; clear n0_ n1_ n2_ n3_ n4_; (try clear hb); (try clear hb2); (try clear hk); (try clear hi); (try clear ho0); obtain ⟨Ao25, co25, eo25⟩ := Kd.R_slice HO216.out; subst eo25) | (go_at_call 22; (with_reducible refine (compositorref03_Same.calls k _ _ t205 _ _ t214 t217 _ ?side1 ?side2 ?side3 ?side4 A21.out).mono ?_); (case side1 => repeat (first | exact (Kd.R_reads' HO207.out).2.2 | (with_reducible refine Kd.C_alloc ?_ _) | (with_reducible refine Kd.C_drewN ?_ _) | (with_reducible refine Kd.C_drew ?_))); (case side2 => exact (Kd.R_reads' HO207.out).2.1); (case side3 => repeat (first | exact (Kd.R_reads' HO216.out).2.2 | (with_reducible refine Kd.C_alloc ?_ _) | (with_reducible refine Kd.C_drewN ?_ _) | (with_reducible refine Kd.C_drew ?_))); (case side4 => exact (Kd.R_reads' HO216.out).2.1); rintro e w' ⟨rfl, ⟨nd, rfl⟩⟩))
              go_meet
              case rel => exact ⟨_, (!t217), (by first | rfl | (simp; done) | (simp [*]; done)), H', ⟨by first | omega | exact Nat.le_refl _⟩, ⟨by (with_reducible repeat (first | apply Kd.R_alloc | apply Kd.R_drewN | apply Kd.R_drew)); exact Kd.R_mono HO207.out (fun _ hk => trivial)⟩, ⟨by repeat (first | (with_reducible first | exact HB.out | apply below_alloc | apply pw_below_drewN | apply below_drew1) | exact HB.out)⟩⟩
            · replace c19 := Bool.eq_false_iff.mpr c19
              subst c19
              have H1 : (compositorlaw03_ChecksumAppend.j0 k a1 t205 true) = some r := by rw [if_neg (show ¬ (false = true) by decide)] at H; exact H
              clear H
              have H := H1
              clear H1
              have H' := Aside0.mk H
              clear H
              obtain ⟨Ao26, co26, eo26⟩ := Kd.R_slice HO211.out
              subst eo26
              obtain ⟨Ao27, co27, eo27⟩ := Kd.R_slice HO204.out
              subst eo27
              go_wp2_with (first | (go_at_call 22; (with_reducible refine (compositorref03_Same.calls k _ _ t208 _ _ t202 true _ ?side1 ?side2 ?side3 ?side4 A16.out).mono ?_); (case side1 => repeat (first | exact (Kd.R_reads' HO211.out).2.2 | (with_reducible refine Kd.C_alloc ?_ _) | (with_reducible refine Kd.C_drewN ?_ _) | (with_reducible refine Kd.C_drew ?_))); (case side2 => exact (Kd.R_reads' HO211.out).2.1); (case side3 => repeat (first | exact (Kd.R_reads' HO204.out).2.2 | (with_reducible refine Kd.C_alloc ?_ _) | (with_reducible refine Kd.C_drewN ?_ _) | (with_reducible refine Kd.C_drew ?_))); (case side4 => exact (Kd.R_reads' HO204.out).2.1); rintro e w' ⟨rfl, ⟨nd, rfl⟩⟩) | (go_at_call 22; (with_reducible refine (compositorref03_Same.calls k _ _ l0 _ _ t202 false _ ?side1 ?side2 ?side3 ?side4 A18.out).mono ?_); (case side1 => repeat (first | exact (Kd.C_below HR0.out (by repeat (first | (with_reducible first | exact HB.out | apply below_alloc | apply pw_below_drewN | apply below_drew1) | exact HB.out))) | (with_reducible refine Kd.C_alloc ?_ _) | (with_reducible refine Kd.C_drewN ?_ _) | (with_reducible refine Kd.C_drew ?_))); (case side2 => exact HC0.out); (case side3 => repeat (first | exact (Kd.R_reads' HO204.out).2.2 | (with_reducible refine Kd.C_alloc ?_ _) | (with_reducible refine Kd.C_drewN ?_ _) | (with_reducible refine Kd.C_drew ?_))); (case side4 => exact (Kd.R_reads' HO204.out).2.1); rintro e w' ⟨rfl, ⟨nd, rfl⟩⟩))
              go_meet
              case rel => exact ⟨_, (true), (by first | rfl | (simp; done) | (simp [*]; done)), H', ⟨by first | omega | exact Nat.le_refl _⟩, ⟨by (with_reducible repeat (first | apply Kd.R_alloc | apply Kd.R_drewN | apply Kd.R_drew)); exact Kd.R_mono HO207.out (fun _ hk => trivial)⟩, ⟨by repeat (first | (with_reducible first | exact HB.out | apply below_alloc | apply pw_below_drewN | apply below_drew1) | exact HB.out)⟩⟩
          · replace c17 := Bool.eq_false_iff.mpr c17
            subst c17
            have H1 : (compositorlaw03_ChecksumAppend.j0 k a1 t205 true) = some r := by rw [if_neg (show ¬ (false = true) by decide)] at H; exact H
            clear H
            have H := H1
            clear H1
            have H' := Aside0.mk H
            clear H
            obtain ⟨Ao28, co28, eo28⟩ := Kd.R_slice HO211.out
            subst eo28
            obtain ⟨Ao29, co29, eo29⟩ := Kd.R_slice HO204.out
            subst eo29
            go_wp2_with (first | (go_at_call 22; (with_reducible refine (compositorref03_Same.calls k _ _ t208 _ _ t202 false _ ?side1 ?side2 ?side3 ?side4 A16.out).mono ?_); (case side1 => repeat (first | exact (Kd.R_reads' HO211.out).2.2 | (with_reducible refine Kd.C_alloc ?_ _) | (with_reducible refine Kd.C_drewN ?_ _) | (with_reducible refine Kd.C_drew ?_))); (case side2 => exact (Kd.R_reads' HO211.out).2.1); (case side3 => repeat (first | exact (Kd.R_reads' HO204.out).2.2 | (with_reducible refine Kd.C_alloc ?_ _) | (with_reducible refine Kd.C_drewN ?_ _) | (with_reducible refine Kd.C_drew ?_))); (case side4 => exact (Kd.R_reads' HO204.out).2.1); rintro e w' ⟨rfl, ⟨nd, rfl⟩⟩))
            go_meet
            case rel => exact ⟨_, (true), (by first | rfl | (simp; done) | (simp [*]; done)), H', ⟨by first | omega | exact Nat.le_refl _⟩, ⟨by (with_reducible repeat (first | apply Kd.R_alloc | apply Kd.R_drewN | apply Kd.R_drew)); exact Kd.R_mono HO207.out (fun _ hk => trivial)⟩, ⟨by repeat (first | (with_reducible first | exact HB.out | apply below_alloc | apply pw_below_drewN | apply below_drew1) | exact HB.out)⟩⟩
        · rw [if_neg c15] at H
          have c15b0 : (t209 == 0) = false := beq_eq_false_iff_ne.mpr c15
          have c15b1 : (t209 != 0) = true := bne_iff_ne.mpr c15
          have H' := Aside0.mk H
          clear H
          go_wp2
          go_meet
          case rel => exact ⟨_, (true), (by first | rfl | (simp; done) | (simp [*]; done)), H', ⟨by first | omega | exact Nat.le_refl _⟩, ⟨by (with_reducible repeat (first | apply Kd.R_alloc | apply Kd.R_drewN | apply Kd.R_drew)); exact Kd.R_mono HO207.out (fun _ hk => trivial)⟩, ⟨by repeat (first | (with_reducible first | exact HB.out | apply below_alloc | apply pw_below_drewN | apply below_drew1) | exact HB.out)⟩⟩
      · rw [if_neg c14] at H
        have c14b0 : ((t205.length : Int) == (wrap64 ((l0.length : Int) + 4))) = false := beq_eq_false_iff_ne.mpr c14
        have c14b1 : ((t205.length : Int) != (wrap64 ((l0.length : Int) + 4))) = true := bne_iff_ne.mpr c14
        (first | rw [c14b0] | (simp only [i64_w, i32_w]; rw [c14b0]) | skip)
        have H' := Aside0.mk H
        clear H
        go_wp2
        go_meet
        case rel => exact ⟨_, (true), (by first | rfl | (simp; done) | (simp [*]; done)), H', ⟨by first | omega | exact Nat.le_refl _⟩, ⟨by (with_reducible repeat (first | apply Kd.R_alloc | apply Kd.R_drewN | apply Kd.R_drew)); exact Kd.R_mono HO207.out (fun _ hk => trivial)⟩, ⟨by repeat (first | (with_reducible first | exact HB.out | apply below_alloc | apply pw_below_drewN | apply below_drew1) | exact HB.out)⟩⟩
    case rest =>
      clear HC9
      try clear c1
      try clear c2
      try clear p2
      try clear c3
      try clear c3b0
      try clear c3b1
      try clear p6
      try clear c8
      try clear c12
      try clear c14
      try clear c14b0
      try clear c14b1
      try clear c15
      try clear c15b0
      try clear c15b1
      try clear c17
      try clear c19
      try clear c21
      try clear c23
      try clear c24
      obtain ⟨kq, x51_8, rfl, HA, HJ8, HO_6, HB⟩ := hcut
      cases kq with
      | zero => exact absurd HA.out (by simp [compositorlaw03_ChecksumAppend.j0])
      | succ kj8 =>
        have H := HA.out
        clear HA
        simp only [compositorlaw03_ChecksumAppend.j0] at H
        by_cases c30 : x51_8 = true
        · subst c30
          have H1 : (some false) = some r := by rw [if_pos rfl] at H; exact H
          clear H
          have H := H1
          clear H1
          obtain rfl := Option.some.inj H
          go_wp2
          go_ret
          exact ⟨by first | rfl | (simp [errW_none, errW_some] <;> rfl) | (simp [*, errW_none, errW_some] <;> rfl), by repeat (first | (with_reducible first | exact HB.out | apply below_alloc | apply pw_below_drewN | apply below_drew1) | exact HB.out)⟩
        · replace c30 := Bool.eq_false_iff.mpr c30
          subst c30
          have H1 : (if (wrap64 (8 * (t205.length : Int))) = 0 then (none) else (if 0 ≤ (wrap64 (Int.tdiv (Int.tmod (wrap64 (a1)) (wrap64 (8 * (t205.length : Int)))) 8)) then (if (wrap64 (Int.tdiv (Int.tmod (wrap64 (a1)) (wrap64 (8 * (t205.length : Int)))) 8)) < (t205.length : Int) then (if 0 ≤ (IntKind.u64.wrap (Int.tmod (Int.tmod (wrap64 (a1)) (wrap64 (8 * (t205.length : Int)))) 8)) then ((checksum_Verify.f (t205.set ((wrap64 (Int.tdiv (Int.tmod (wrap64 (a1)) (wrap64 (8 * (t205.length : Int)))) 8)) : Int).toNat (Go.bits .xor .u8 (rd t205 (wrap64 (Int.tdiv (Int.tmod (wrap64 (a1)) (wrap64 (8 * (t205.length : Int)))) 8))) (shl .u8 1 (IntKind.u64.wrap (Int.tmod (Int.tmod (wrap64 (a1)) (wrap64 (8 * (t205.length : Int)))) 8)))))).bind fun bt220 => (if bt220.2 = 19 then (if (bt220.1.length : Int) = 0 then ((compositorlaw03_exampleHolds.f).bind fun t224 => (some t224)) else (some false)) else (some false))) else (none)) else (none)) else (none))) = some r := by rw [if_neg (show ¬ (false = true) by decide)] at H; exact H
          clear H
          have H := H1
          clear H1
          by_cases c31 : (wrap64 (8 * (t205.length : Int))) = 0
          · rw [if_pos c31] at H
            exact absurd H (by simp)
          · rw [if_neg c31] at H
            have c31b0 : ((wrap64 (8 * (t205.length : Int))) == 0) = false := beq_eq_false_iff_ne.mpr c31
            have c31b1 : ((wrap64 (8 * (t205.length : Int))) != 0) = true := bne_iff_ne.mpr c31
            obtain ⟨ji32, hji32⟩ : ∃ j_ : Int, (wrap64 (Int.tdiv (Int.tmod (wrap64 (a1)) (wrap64 (8 * (t205.length : Int)))) 8)) = j_ := ⟨_, rfl⟩
            replace H : (if 0 ≤ (ji32) then (if (ji32) < (t205.length : Int) then (if 0 ≤ (IntKind.u64.wrap (Int.tmod (Int.tmod (wrap64 (a1)) (wrap64 (8 * (t205.length : Int)))) 8)) then ((checksum_Verify.f (t205.set ((ji32) : Int).toNat (Go.bits .xor .u8 (rd t205 (ji32)) (shl .u8 1 (IntKind.u64.wrap (Int.tmod (Int.tmod (wrap64 (a1)) (wrap64 (8 * (t205.length : Int)))) 8)))))).bind fun bt220 => (if bt220.2 = 19 then (if (bt220.1.length : Int) = 0 then ((compositorlaw03_exampleHolds.f).bind fun t224 => (some t224)) else (some false)) else (some false))) else (none)) else (none)) else (none)) = some r := by first | (rw [hji32] at H; exact H) | (simp only [hji32] at H ⊢; exact H)
            have hji32w : (IntKind.i64.wrap (Int.tdiv (Int.tmod (wrap64 (a1)) (wrap64 (8 * (t205.length : Int)))) 8)) = ji32 := (i64_w _).trans hji32
            by_cases c33 : 0 ≤ (ji32)
            · rw [if_pos c33] at H
              have c33b0 : decide (0 ≤ (ji32)) = true := decide_eq_true c33
              clear c33
              by_cases c34 : (ji32) < (t205.length : Int)
              · rw [if_pos c34] at H
                have c34b0 : decide ((ji32) < (t205.length : Int)) = true := decide_eq_true c34
                clear c34
                obtain ⟨ji35, hji35⟩ : ∃ j_ : Int, (IntKind.u64.wrap (Int.tmod (Int.tmod (wrap64 (a1)) (wrap64 (8 * (t205.length : Int)))) 8)) = j_ := ⟨_, rfl⟩
                replace H : (if 0 ≤ (ji35) then ((checksum_Verify.f (t205.set ((ji32) : Int).toNat (Go.bits .xor .u8 (rd t205 (ji32)) (shl .u8 1 (ji35))))).bind fun bt220 => (if bt220.2 = 19 then (if (bt220.1.length : Int) = 0 then ((compositorlaw03_exampleHolds.f).bind fun t224 => (some t224)) else (some false)) else (some false))) else (none)) = some r := by first | (rw [hji35] at H; exact H) | (simp only [hji35] at H ⊢; exact H)
                by_cases c36 : 0 ≤ (ji35)
                · rw [if_pos c36] at H
                  have c36b0 := eq_true c36
                  have c36b1 : decide (0 ≤ (ji35)) = true := decide_eq_true c36
                  clear c36
                  obtain ⟨ji37, hji37⟩ : ∃ j_ : Int, (shl .u8 1 (ji35)) = j_ := ⟨_, rfl⟩
                  replace H : ((checksum_Verify.f (t205.set ((ji32) : Int).toNat (Go.bits .xor .u8 (rd t205 (ji32)) (ji37)))).bind fun bt220 => (if bt220.2 = 19 then (if (bt220.1.length : Int) = 0 then ((compositorlaw03_exampleHolds.f).bind fun t224 => (some t224)) else (some false)) else (some false))) = some r := by first | (rw [hji37] at H; exact H) | (simp only [hji37] at H ⊢; exact H)
                  have hji37_ : (IntKind.u8.wrap (1 * 2 ^ min (ji35).toNat 8)) = ji37 := hji37
                  have hji37z : (ji35) ≤ 8 → (IntKind.u8.wrap (1 * 2 ^ (ji35).toNat)) = ji37 := shl_small hji37
                  have hji37u : (IntKind.u8.wrap (2 ^ min (ji35).toNat 8)) = ji37 := by have h_ := hji37_; rw [Int.one_mul] at h_; exact h_
                  have hji37v : (ji35) ≤ 8 → (IntKind.u8.wrap (2 ^ (ji35).toNat)) = ji37 := fun hle_ => by have h_ := hji37z hle_; rw [Int.one_mul] at h_; exact h_
                  obtain ⟨y219, hy219⟩ : ∃ y_ : List Int, y_ = (t205.set ((ji32) : Int).toNat (Go.bits .xor .u8 (rd t205 (ji32)) (ji37))) := ⟨_, rfl⟩
                  replace H : ((checksum_Verify.f y219).bind fun bt220 => (if bt220.2 = 19 then (if (bt220.1.length : Int) = 0 then ((compositorlaw03_exampleHolds.f).bind fun t224 => (some t224)) else (some false)) else (some false))) = some r := by first | (rw [hy219]; with_reducible exact H) | (have H2_ := (Option.bind_some _ _).symm.trans H; rw [hy219]; with_reducible exact H2_) | (have H2_ := (Option.bind_some _ _).symm.trans H; with_reducible exact H2_) | with_reducible exact H | (rw [hy219]; exact H) | exact H
                  have Ny219 := Aside0.mk hy219
                  clear hy219
                  replace H := Option.bind_eq_some_iff.mp H
                  obtain ⟨⟨t220, t221⟩, A390, H⟩ := H
                  replace H : (if t221 = 19 then (if (t220.length : Int) = 0 then ((compositorlaw03_exampleHolds.f).bind fun t224 => (some t224)) else (some false)) else (some false)) = some r := H
                  have A39 := Aside0.mk A390
                  clear A390
                  by_cases c40 : t221 = 19
                  · rw [if_pos c40] at H
                    have c40b0 : (t221 == 19) = true := beq_iff_eq.mpr c40
                    have c40b1 : (t221 != 19) = false := bne_eq_false_iff_eq.mpr c40
                    clear c40
                    by_cases c41 : (t220.length : Int) = 0
                    · rw [if_pos c41] at H
                      have c41b0 : ((t220.length : Int) == 0) = true := beq_iff_eq.mpr c41
                      have c41b1 : ((t220.length : Int) != 0) = false := bne_eq_false_iff_eq.mpr c41
                      clear c41
                      replace H := Option.bind_eq_some_iff.mp H
                      obtain ⟨t224, A420, H⟩ := H
                      replace H : (some t224) = some r := H
                      have A42 := Aside0.mk A420
                      clear A420
                      obtain rfl := Option.some.inj H
                      have p218 : 0 ≤ ((ji32) : Int) := of_decide_eq_true (by first | (with_reducible assumption) | assumption)
                      have q218 : (ji32) < (t205.length : Int) := of_decide_eq_true (by first | (with_reducible assumption) | assumption)
                      obtain ⟨ad218, e218, hx218_0⟩ := Kd.at_int (Kd.R_reads' HO_6.out).2.2 (ji32) p218 q218
                      cases e218
                      replace p218 := eq_true p218
                      replace q218 := eq_true q218
                      have p38 : 0 ≤ ((ji32) : Int) := of_decide_eq_true (by first | (with_reducible assumption) | assumption)
                      have q38 : ((ji32) : Int) < ((t205.length : Int) : Int) := of_decide_eq_true (by first | (with_reducible assumption) | assumption)
                      obtain ⟨go38, co38, eo38, gb38, gl38, cl38, HG38⟩ := Kd.R_form HO_6.out (by omega)
                      (first | cases eo38 | (injection eo38 with ea_ en_ ec_; (first | subst ea_ | (injection ea_ with ea_; subst ea_)); subst ec_; clear en_))
                      have GB38 := Aside0.mk gb38
                      have GG38 := Aside0.mk HG38
                      clear gb38 gl38 HG38
                      (first | simp only [add_plain] at hx218_0 | skip)
                      obtain ⟨hx38_0, hf38_0⟩ := Kd.R_celln 0 HO_6.out ((ji32) : Int) p38 q38
                      replace p38 := eq_true p38
                      replace q38 := eq_true q38
                      have HP43 := Kd.R_putg HO_6.out ((ji32) : Int) (Go.bits .xor .u8 (rd t205 (ji32)) (ji37))
                      go_wp2_with (first | ((with_reducible refine gate_store (t := 5) (p := 71) rfl ?_); refine store_event (t := 5) (p := 71) (v := ?vo_w44) (w1 := (wc.setCell ⟨go38, ((ji32) : Int).toNat, none⟩ (.int .u8 (Go.bits .xor .u8 (rd t205 (ji32)) (ji37))))) ?hg ?ho ?hn ?hr ?_; (case ho => rfl); (case hg => rfl); (case hn => rfl); (case hr => first | (go_simp; done) | (go_simp; rfl)); intro w44 hw; have hg : wc.grownBy w44 (some go38) := (by rw [hw]; exact HP43.2); have hp_ : Kd.R (Kd.int .u8) 5 w44 w.heap.size (fun _ => True) (.slice (some ⟨go38, 0, none⟩) t205.length co12) y219 := (by rw [hw, Ny219.out]; exact HP43.1); clear HP43; have n0_ := Aside0.mk (hp_); have n1_ := Aside0.mk ((by rw [hw]; exact below_set (HB.out) GB38.out : Below w.heap.size w w44)); clear HO_6; clear HB; have HO_6 := n0_; have HB := n1_; clear n0_ n1_; clear hg hw hp_) | ((with_reducible refine gate_callee (f := 24) rfl ?_); refine goesL_ (some 74) rfl rfl Try.func24 (by kernel_rfl) rfl #[.slice (some ⟨go38, 0, none⟩) y219.length co12] rfl (by (try simp only [List.map_toArray, List.map_cons, List.map_nil]); first | done | (rw [show y219.length = t205.length from (Kd.R_reads' HO_6.out).1.symm] <;> rfl) | rfl | (simp only [List.length_drop, List.length_take]; rfl)) ?_; (with_reducible refine (checksum_Verify.calls _ _ y219 t220 t221 _ ?side1 ?side2 A39.out).mono ?_); (case side1 => repeat (first | exact (Kd.R_reads' HO_6.out).2.2 | (with_reducible refine Kd.C_alloc ?_ _) | (with_reducible refine Kd.C_drewN ?_ _) | (with_reducible refine Kd.C_drew ?_))); (case side2 => rw [show y219.length = t205.length from (Kd.R_reads' HO_6.out).1.symm]; exact (Kd.R_reads' HO_6.out).2.1); rintro e w45 ⟨v222, rfl, ho0, hb⟩; refine ⟨_, rfl, ?_⟩; have n0_ := Aside0.mk (Kd.R_elder' (by (with_reducible repeat (first | apply Kd.R_alloc | apply Kd.R_drewN | apply Kd.R_drew)); exact HO_6.out) (Kd.R_base ho0) hb); have n1_ := Aside0.mk (Kd.R_lower (Kd.R_new' ho0 (Kd.R_lt (by (with_reducible repeat (first | apply Kd.R_alloc | apply Kd.R_drewN | apply Kd.R_drew)); exact HO_6.out))) (below_size (by repeat (first | (with_reducible first | exact HB.out | apply below_alloc | apply pw_below_drewN | apply below_drew1) | exact HB.out)))); have n2_ := Aside0.mk (below_step (by repeat (first | (with_reducible first | exact HB.out | apply below_alloc | apply pw_below_drewN | apply below_drew1) | exact HB.out)) hb); clear HO_6; clear HB; have HO_6 := n0_; have HO223 := n1_; have HB := n2_; clear n0_ n1_ n2_; (try clear hb); (try clear hb2); (try clear hk); (try clear hi); (try clear ho0); obtain ⟨Ao46, co46, eo46⟩ := Kd.R_slice HO223.out; subst eo46) | (go_at_call 12; (with_reducible refine (compositorlaw03_exampleHolds.calls  t224 _ A42.out).mono ?_); rintro e w47 ⟨rfl, hb⟩; have n0_ := Aside0.mk (Kd.R_below (by (with_reducible repeat (first | apply Kd.R_alloc | apply Kd.R_drewN | apply Kd.R_drew)); exact HO_6.out) hb); have n1_ := Aside0.mk (Kd.R_below (by (with_reducible repeat (first | apply Kd.R_alloc | apply Kd.R_drewN | apply Kd.R_drew)); exact HO223.out) hb); have n2_ := Aside0.mk (below_step (by repeat (first | (with_reducible first | exact HB.out | apply below_alloc | apply pw_below_drewN | apply below_drew1) | exact HB.out)) hb); clear HO_6; clear HO223; clear HB; have HO_6 := n0_; have HO223 := n1_; have HB := n2_; clear n0_ n1_ n2_; (try clear hb); (try clear hb2); (try clear hk); (try clear hi)))
                      go_ret
                      exact ⟨by first | rfl | (simp [errW_none, errW_some] <;> rfl) | (simp only [← hji32, ← hji35, ← hji37]; first | rfl | (simp [errW_none, errW_some] <;> rfl)) | (simp [*, errW_none, errW_some] <;> rfl), by repeat (first | (with_reducible first | exact HB.out | apply below_alloc | apply pw_below_drewN | apply below_drew1) | exact HB.out)⟩
                    · rw [if_neg c41] at H
                      have c41b0 : ((t220.length : Int) == 0) = false := beq_eq_false_iff_ne.mpr c41
                      have c41b1 : ((t220.length : Int) != 0) = true := bne_iff_ne.mpr c41
                      have c41b2 : ¬ (t220 = []) := fun h_ => c41 (by rw [h_]; rfl)
                      obtain rfl := Option.some.inj H
                      have p218 : 0 ≤ ((ji32) : Int) := of_decide_eq_true (by first | (with_reducible assumption) | assumption)
                      have q218 : (ji32) < (t205.length : Int) := of_decide_eq_true (by first | (with_reducible assumption) | assumption)
                      obtain ⟨ad218, e218, hx218_0⟩ := Kd.at_int (Kd.R_reads' HO_6.out).2.2 (ji32) p218 q218
                      cases e218
                      replace p218 := eq_true p218
                      replace q218 := eq_true q218
                      have p38 : 0 ≤ ((ji32) : Int) := of_decide_eq_true (by first | (with_reducible assumption) | assumption)
                      have q38 : ((ji32) : Int) < ((t205.length : Int) : Int) := of_decide_eq_true (by first | (with_reducible assumption) | assumption)
                      obtain ⟨go38, co38, eo38, gb38, gl38, cl38, HG38⟩ := Kd.R_form HO_6.out (by omega)
                      (first | cases eo38 | (injection eo38 with ea_ en_ ec_; (first | subst ea_ | (injection ea_ with ea_; subst ea_)); subst ec_; clear en_))
                      have GB38 := Aside0.mk gb38
                      have GG38 := Aside0.mk HG38
                      clear gb38 gl38 HG38
                      (first | simp only [add_plain] at hx218_0 | skip)
                      obtain ⟨hx38_0, hf38_0⟩ := Kd.R_celln 0 HO_6.out ((ji32) : Int) p38 q38
                      replace p38 := eq_true p38
                      replace q38 := eq_true q38
                      have HP48 := Kd.R_putg HO_6.out ((ji32) : Int) (Go.bits .xor .u8 (rd t205 (ji32)) (ji37))
                      go_wp2_with (first | ((with_reducible refine gate_store (t := 5) (p := 71) rfl ?_); refine store_event (t := 5) (p := 71) (v := ?vo_w49) (w1 := (wc.setCell ⟨go38, ((ji32) : Int).toNat, none⟩ (.int .u8 (Go.bits .xor .u8 (rd t205 (ji32)) (ji37))))) ?hg ?ho ?hn ?hr ?_; (case ho => rfl); (case hg => rfl); (case hn => rfl); (case hr => first | (go_simp; done) | (go_simp; rfl)); intro w49 hw; have hg : wc.grownBy w49 (some go38) := (by rw [hw]; exact HP48.2); have hp_ : Kd.R (Kd.int .u8) 5 w49 w.heap.size (fun _ => True) (.slice (some ⟨go38, 0, none⟩) t205.length co12) y219 := (by rw [hw, Ny219.out]; exact HP48.1); clear HP48; have n0_ := Aside0.mk (hp_); have n1_ := Aside0.mk ((by rw [hw]; exact below_set (HB.out) GB38.out : Below w.heap.size w w49)); clear HO_6; clear HB; have HO_6 := n0_; have HB := n1_; clear n0_ n1_; clear hg hw hp_) | ((with_reducible refine gate_callee (f := 24) rfl ?_); refine goesL_ (some 74) rfl rfl Try.func24 (by kernel_rfl) rfl #[.slice (some ⟨go38, 0, none⟩) y219.length co12] rfl (by (try simp only [List.map_toArray, List.map_cons, List.map_nil]); first | done | (rw [show y219.length = t205.length from (Kd.R_reads' HO_6.out).1.symm] <;> rfl) | rfl | (simp only [List.length_drop, List.length_take]; rfl)) ?_; (with_reducible refine (checksum_Verify.calls _ _ y219 t220 t221 _ ?side1 ?side2 A39.out).mono ?_); (case side1 => repeat (first | exact (Kd.R_reads' HO_6.out).2.2 | (with_reducible refine Kd.C_alloc ?_ _) | (with_reducible refine Kd.C_drewN ?_ _) | (with_reducible refine Kd.C_drew ?_))); (case side2 => rw [show y219.length = t205.length from (Kd.R_reads' HO_6.out).1.symm]; exact (Kd.R_reads' HO_6.out).2.1); rintro e w50 ⟨v222, rfl, ho0, hb⟩; refine ⟨_, rfl, ?_⟩; have n0_ := Aside0.mk (Kd.R_elder' (by (with_reducible repeat (first | apply Kd.R_alloc | apply Kd.R_drewN | apply Kd.R_drew)); exact HO_6.out) (Kd.R_base ho0) hb); have n1_ := Aside0.mk (Kd.R_lower (Kd.R_new' ho0 (Kd.R_lt (by (with_reducible repeat (first | apply Kd.R_alloc | apply Kd.R_drewN | apply Kd.R_drew)); exact HO_6.out))) (below_size (by repeat (first | (with_reducible first | exact HB.out | apply below_alloc | apply pw_below_drewN | apply below_drew1) | exact HB.out)))); have n2_ := Aside0.mk (below_step (by repeat (first | (with_reducible first | exact HB.out | apply below_alloc | apply pw_below_drewN | apply below_drew1) | exact HB.out)) hb); clear HO_6; clear HB; have HO_6 := n0_; have HO223 := n1_; have HB := n2_; clear n0_ n1_ n2_; (try clear hb); (try clear hb2); (try clear hk); (try clear hi); (try clear ho0); obtain ⟨Ao51, co51, eo51⟩ := Kd.R_slice HO223.out; subst eo51))
                      go_ret
                      exact ⟨by first | rfl | (simp [errW_none, errW_some] <;> rfl) | (simp only [← hji32, ← hji35, ← hji37]; first | rfl | (simp [errW_none, errW_some] <;> rfl)) | (simp [*, errW_none, errW_some] <;> rfl), by repeat (first | (with_reducible first | exact HB.out | apply below_alloc | apply pw_below_drewN | apply below_drew1) | exact HB.out)⟩
                  · rw [if_neg c40] at H
                    have c40b0 : (t221 == 19) = false := beq_eq_false_iff_ne.mpr c40
                    have c40b1 : (t221 != 19) = true := bne_iff_ne.mpr c40
                    obtain rfl := Option.some.inj H
                    have p218 : 0 ≤ ((ji32) : Int) := of_decide_eq_true (by first | (with_reducible assumption) | assumption)
                    have q218 : (ji32) < (t205.length : Int) := of_decide_eq_true (by first | (with_reducible assumption) | assumption)
                    obtain ⟨ad218, e218, hx218_0⟩ := Kd.at_int (Kd.R_reads' HO_6.out).2.2 (ji32) p218 q218
                    cases e218
                    replace p218 := eq_true p218
                    replace q218 := eq_true q218
                    have p38 : 0 ≤ ((ji32) : Int) := of_decide_eq_true (by first | (with_reducible assumption) | assumption)
                    have q38 : ((ji32) : Int) < ((t205.length : Int) : Int) := of_decide_eq_true (by first | (with_reducible assumption) | assumption)
                    obtain ⟨go38, co38, eo38, gb38, gl38, cl38, HG38⟩ := Kd.R_form HO_6.out (by omega)
                    (first | cases eo38 | (injection eo38 with ea_ en_ ec_; (first | subst ea_ | (injection ea_ with ea_; subst ea_)); subst ec_; clear en_))
                    have GB38 := Aside0.mk gb38
                    have GG38 := Aside0.mk HG38
                    clear gb38 gl38 HG38
                    (first | simp only [add_plain] at hx218_0 | skip)
                    obtain ⟨hx38_0, hf38_0⟩ := Kd.R_celln 0 HO_6.out ((ji32) : Int) p38 q38
                    replace p38 := eq_true p38
                    replace q38 := eq_true q38
                    have HP52 := Kd.R_putg HO_6.out ((ji32) : Int) (Go.bits .xor .u8 (rd t205 (ji32)) (ji37))
                    go_wp2_with (first | ((with_reducible refine gate_store (t := 5) (p := 71) rfl ?_); refine store_event (t := 5) (p := 71) (v := ?vo_w53) (w1 := (wc.setCell ⟨go38, ((ji32) : Int).toNat, none⟩ (.int .u8 (Go.bits .xor .u8 (rd t205 (ji32)) (ji37))))) ?hg ?ho ?hn ?hr ?_; (case ho => rfl); (case hg => rfl); (case hn => rfl); (case hr => first | (go_simp; done) | (go_simp; rfl)); intro w53 hw; have hg : wc.grownBy w53 (some go38) := (by rw [hw]; exact HP52.2); have hp_ : Kd.R (Kd.int .u8) 5 w53 w.heap.size (fun _ => True) (.slice (some ⟨go38, 0, none⟩) t205.length co12) y219 := (by rw [hw, Ny219.out]; exact HP52.1); clear HP52; have n0_ := Aside0.mk (hp_); have n1_ := Aside0.mk ((by rw [hw]; exact below_set (HB.out) GB38.out : Below w.heap.size w w53)); clear HO_6; clear HB; have HO_6 := n0_; have HB := n1_; clear n0_ n1_; clear hg hw hp_) | ((with_reducible refine gate_callee (f := 24) rfl ?_); refine goesL_ (some 74) rfl rfl Try.func24 (by kernel_rfl) rfl #[.slice (some ⟨go38, 0, none⟩) y219.length co12] rfl (by (try simp only [List.map_toArray, List.map_cons, List.map_nil]); first | done | (rw [show y219.length = t205.length from (Kd.R_reads' HO_6.out).1.symm] <;> rfl) | rfl | (simp only [List.length_drop, List.length_take]; rfl)) ?_; (with_reducible refine (checksum_Verify.calls _ _ y219 t220 t221 _ ?side1 ?side2 A39.out).mono ?_); (case side1 => repeat (first | exact (Kd.R_reads' HO_6.out).2.2 | (with_reducible refine Kd.C_alloc ?_ _) | (with_reducible refine Kd.C_drewN ?_ _) | (with_reducible refine Kd.C_drew ?_))); (case side2 => rw [show y219.length = t205.length from (Kd.R_reads' HO_6.out).1.symm]; exact (Kd.R_reads' HO_6.out).2.1); rintro e w54 ⟨v222, rfl, ho0, hb⟩; refine ⟨_, rfl, ?_⟩; have n0_ := Aside0.mk (Kd.R_elder' (by (with_reducible repeat (first | apply Kd.R_alloc | apply Kd.R_drewN | apply Kd.R_drew)); exact HO_6.out) (Kd.R_base ho0) hb); have n1_ := Aside0.mk (Kd.R_lower (Kd.R_new' ho0 (Kd.R_lt (by (with_reducible repeat (first | apply Kd.R_alloc | apply Kd.R_drewN | apply Kd.R_drew)); exact HO_6.out))) (below_size (by repeat (first | (with_reducible first | exact HB.out | apply below_alloc | apply pw_below_drewN | apply below_drew1) | exact HB.out)))); have n2_ := Aside0.mk (below_step (by repeat (first | (with_reducible first | exact HB.out | apply below_alloc | apply pw_below_drewN | apply below_drew1) | exact HB.out)) hb); clear HO_6; clear HB; have HO_6 := n0_; have HO223 := n1_; have HB := n2_; clear n0_ n1_ n2_; (try clear hb); (try clear hb2); (try clear hk); (try clear hi); (try clear ho0)))
                    go_ret
                    exact ⟨by first | rfl | (simp [errW_none, errW_some] <;> rfl) | (simp only [← hji32, ← hji35, ← hji37]; first | rfl | (simp [errW_none, errW_some] <;> rfl)) | (simp [*, errW_none, errW_some] <;> rfl), by repeat (first | (with_reducible first | exact HB.out | apply below_alloc | apply pw_below_drewN | apply below_drew1) | exact HB.out)⟩
                · rw [if_neg c36] at H
                  exact absurd H (by simp)
              · rw [if_neg c34] at H
                exact absurd H (by simp)
            · rw [if_neg c33] at H
              exact absurd H (by simp)

/-- THE ONE PURE STATEMENT of compositorlaw03_ChecksumAppend: yours. -/
def compositorlaw03_ChecksumAppend.Pure : Prop := ∀ (l0 : List Int) (a1 : Int), l0.length ≤ maxLen → l0.length * 1 ≤ 140737488351232 → (∀ x ∈ l0, (Lit.int .u8 x).wf = true) → (Lit.int .u16 a1).wf = true → ∃ k, compositorlaw03_ChecksumAppend.f k l0 a1 = some true
theorem compositorlaw03_ChecksumAppend.walk (P : compositorlaw03_ChecksumAppend.Pure) (a0 : Option Addr) (len0 cap0 : Nat) (z0 : List Int) (a1 : Int) (w : World) (w0 : (a0 = none ∧ len0 = 0 ∧ cap0 = 0 ∧ z0 = []) ∨ ∃ x, a0 = some x ∧ len0 ≤ cap0 ∧ cap0 ≤ maxLen ∧ z0.length = cap0 ∧ (∀ i, i < z0.length → w.cell? (x.add i) = some (.int .u8 (z0.getD i 0))) ∧ ∀ n ∈ z0, (Lit.int .u8 n).wf = true) (y0 : len0 * 1 ≤ 140737488351232) (w1 : (Lit.int .u16 a1).wf = true) :
    Calls Try.prog 8 #[.slice a0 len0 cap0, .int .u16 a1] w fun e w' => e = .returned (.bool true) ∧ Below w.heap.size w w' := by
  obtain ⟨l0, rfl, hr0, hm0, hw0, hc0⟩ := ReadsInt.ofRowC w0
  obtain ⟨k, h⟩ := P l0 a1 hm0 y0 hw0 w1
  refine (compositorlaw03_ChecksumAppend.calls k _ _ l0 a1 true w (Kd.C_of_reads (d := (0 : Int)) (h1 := fun _ => rfl) hr0) hc0 h).mono ?_
  rintro e w' ⟨rfl, hd⟩
  exact ⟨rfl, hd⟩

end Go.Proofs.Ytgabllnijkodbaa.Q
