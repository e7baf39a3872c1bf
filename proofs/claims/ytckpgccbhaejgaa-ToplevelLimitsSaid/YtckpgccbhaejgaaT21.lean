import Derived.Test.YtckpgccbhaejgaaT19
namespace Go.Proofs.Ytckpgccbhaejgaa.Q
open Go.RowKit Go.Proofs.YtckpgccbhaejgaaW.PrintWords Go.Proofs.YtckpgccbhaejgaaW.PrintLast Go.Proofs.YtckpgccbhaejgaaW.PrintMore Go.Proofs.Ytckpgccbhaejgaa.Sl Go.Proofs.Ytckpgccbhaejgaa.Hand 
attribute [local go_sem] max2_int min2_int max_two min_two max_three min_three max_four min_four 
set_option linter.unusedVariables false
set_option linter.unusedSimpArgs false

/-! ### Sizes within the limits -/
def wiB (x y lx ly mx my : Int) : Bool := decide (lx ≤ x) && decide (ly ≤ y) && (decide (mx = 0) || decide (x ≤ mx)) && (decide (my = 0) || decide (y ≤ my))
theorem wiB_iff {x y lx ly mx my : Int} : wiB x y lx ly mx my = true ↔ lx ≤ x ∧ ly ≤ y ∧ (mx = 0 ∨ x ≤ mx) ∧ (my = 0 ∨ y ≤ my) := by
  unfold wiB
  simp only [Bool.and_eq_true, Bool.or_eq_true, decide_eq_true_eq, and_assoc]
theorem within_c {w0 w : World} {L : List Res} (h : SL w0 w L) (x y lx ly mx my : Int) (hb : wiB x y lx ly mx my = true) : Calls Try.prog 19 #[.int .i64 x, .int .i64 y, .agg #[.int .i64 lx, .int .i64 ly], .agg #[.int .i64 mx, .int .i64 my]] w fun e w' => e = .returned (.bool true) ∧ SL w0 w' L := by
  obtain ⟨h1, h2, h3, h4⟩ := wiB_iff.1 hb
  have HS := Aside0.mk h
  have d1 : decide (lx ≤ x) = true := decide_eq_true h1
  have d2 : decide (ly ≤ y) = true := decide_eq_true h2
  clear h hb h1 h2
  by_cases c1 : mx = 0
  · have d3 : (mx == 0) = true := beq_iff_eq.2 c1
    clear h3 c1
    by_cases c2 : my = 0
    · have d4 : (my == 0) = true := beq_iff_eq.2 c2
      clear h4 c2
      go_enter Try.func19, Try.ntmps19
      go_wp2_with (fail)
      try rw [Exit.noGoto_ret]
      go_ret
      exact ⟨rfl, (by first | (repeat (with_reducible first | exact HS.out | apply sl_drewN | apply sl_drew | apply sl_alloc)) | exact HS.out)⟩
    · have d4 : (my == 0) = false := beq_eq_false_iff_ne.2 c2
      have d5 : decide (y ≤ my) = true := decide_eq_true (h4.resolve_left c2)
      clear h4 c2
      go_enter Try.func19, Try.ntmps19
      go_wp2_with (fail)
      try rw [Exit.noGoto_ret]
      go_ret
      exact ⟨rfl, (by first | (repeat (with_reducible first | exact HS.out | apply sl_drewN | apply sl_drew | apply sl_alloc)) | exact HS.out)⟩
  · have d3 : (mx == 0) = false := beq_eq_false_iff_ne.2 c1
    have d6 : decide (x ≤ mx) = true := decide_eq_true (h3.resolve_left c1)
    clear h3 c1
    by_cases c2 : my = 0
    · have d4 : (my == 0) = true := beq_iff_eq.2 c2
      clear h4 c2
      go_enter Try.func19, Try.ntmps19
      go_wp2_with (fail)
      try rw [Exit.noGoto_ret]
      go_ret
      exact ⟨rfl, (by first | (repeat (with_reducible first | exact HS.out | apply sl_drewN | apply sl_drew | apply sl_alloc)) | exact HS.out)⟩
    · have d4 : (my == 0) = false := beq_eq_false_iff_ne.2 c2
      have d5 : decide (y ≤ my) = true := decide_eq_true (h4.resolve_left c2)
      clear h4 c2
      go_enter Try.func19, Try.ntmps19
      go_wp2_with (fail)
      try rw [Exit.noGoto_ret]
      go_ret
      exact ⟨rfl, (by first | (repeat (with_reducible first | exact HS.out | apply sl_drewN | apply sl_drew | apply sl_alloc)) | exact HS.out)⟩
structure WI (s : WSt) : Prop where
  hx : s.mx = 0 ∨ s.lx ≤ s.mx
  hy : s.my = 0 ∨ s.ly ≤ s.my
theorem wi0 : WI wz := ⟨.inl rfl, .inl rfl⟩
theorem limI_in {lo hi : Int} (n : Int) (h : hi = 0 ∨ lo ≤ hi) : lo ≤ limI lo hi n ∧ (hi = 0 ∨ limI lo hi n ≤ hi) := by
  unfold limI
  split <;> split <;> (try split) <;> omega
structure LF (s : WSt) (x : S46) (S : WSt) (A B E : Int) : Prop where
  wi : WI S
  k0 : E = 0 → x.f0 = 0 → S.lx = x.f2 ∧ S.ly = x.f3 ∧ S.mx = s.mx ∧ S.my = s.my ∧ S.sx = s.sx ∧ S.sy = s.sy
  k1 : E = 0 → x.f0 = 1 → S.mx = x.f2 ∧ S.my = x.f3 ∧ S.lx = s.lx ∧ S.ly = s.ly ∧ S.sx = s.sx ∧ S.sy = s.sy
  k23 : E = 0 → (x.f0 = 2 ∨ x.f0 = 3) → S.sx = A ∧ S.sy = B ∧ S.lx = s.lx ∧ S.ly = s.ly ∧ S.mx = s.mx ∧ S.my = s.my ∧ ((S.b.a || S.b.b) = false → wiB A B s.lx s.ly s.mx s.my = true)
  k4 : (E ≠ 0 ∨ x.f0 = 4) → S = s
  k5 : E = 0 → x.f0 ≠ 0 → x.f0 ≠ 1 → x.f0 ≠ 2 → x.f0 ≠ 3 → x.f0 ≠ 4 → S.gx = x.f2 ∧ S.gy = x.f3 ∧ S.lx = s.lx ∧ S.ly = s.ly ∧ S.mx = s.mx ∧ S.my = s.my ∧ S.sx = s.sx ∧ S.sy = s.sy ∧ ((S.b.a || S.b.b) = false → wiB x.f2 x.f3 s.lx s.ly s.mx s.my = true) ∧ ((S.b.a || S.b.b) = true → x.f2 = s.sx ∧ x.f3 = s.sy)
theorem lim_ok {a b c d : Int} (h : limE a b c d = 0) : (c = 0 ∨ a ≤ c) ∧ (d = 0 ∨ b ≤ d) := by
  unfold limE at h
  split at h
  · omega
  · rename_i h2
    omega
theorem lf {s : WSt} (hw : WI s) (x : S46) : LF s x (opS s x) (opA s x) (opB s x) (opE s x) := by
  by_cases hE : opE s x = 0
  rotate_left
  · rw [op_same hE]
    exact ⟨hw, fun h => absurd h hE, fun h => absurd h hE, fun h => absurd h hE, fun _ => rfl, fun h => absurd h hE⟩
  rw [hE]
  unfold opE at hE
  unfold opS opA opB
  by_cases h0 : x.f0 = 0
  · rw [if_pos h0] at hE ⊢
    have hS : minS s x.f2 x.f3 = _ := if_pos hE
    rw [hS]
    have hv : valB 0 x.f2 x.f3 = true := by
      by_cases hv : valB 0 x.f2 x.f3 = true
      · exact hv
      · have : minE s x.f2 x.f3 = 6 := if_neg hv
        omega
    have hl : minE s x.f2 x.f3 = limE x.f2 x.f3 s.mx s.my := if_pos hv
    obtain ⟨a1, a2⟩ := lim_ok (hl.symm.trans hE)
    exact ⟨⟨a1, a2⟩, fun _ _ => ⟨rfl, rfl, rfl, rfl, rfl, rfl⟩, fun _ h => by omega, fun _ h => by omega, fun h => by omega, fun _ h => absurd h0 h⟩
  rw [if_neg h0] at hE ⊢
  by_cases h1 : x.f0 = 1
  · rw [if_pos h1] at hE ⊢
    have hS : maxS s x.f2 x.f3 = _ := if_pos hE
    rw [hS]
    have hv : valB 0 x.f2 x.f3 = true := by
      by_cases hv : valB 0 x.f2 x.f3 = true
      · exact hv
      · have : maxE s x.f2 x.f3 = 6 := if_neg hv
        omega
    have hl : maxE s x.f2 x.f3 = limE s.lx s.ly x.f2 x.f3 := if_pos hv
    obtain ⟨a1, a2⟩ := lim_ok (hl.symm.trans hE)
    exact ⟨⟨a1, a2⟩, fun _ h => by omega, fun _ _ => ⟨rfl, rfl, rfl, rfl, rfl, rfl⟩, fun _ h => by omega, fun h => by omega, fun _ _ h => absurd h1 h⟩
  rw [if_neg h1] at hE ⊢
  by_cases h2 : x.f0 = 2
  · rw [if_pos h2] at hE ⊢
    rw [if_pos h2, if_pos h2]
    have hS : rqS s x.f1 x.f4 x.f5.f0 x.f5.f1 x.f5.f2 x.f5.f3 = _ := if_pos hE
    have hA : rqA s x.f1 x.f4 x.f5.f0 x.f5.f1 x.f5.f2 x.f5.f3 = _ := if_pos hE
    have hB : rqB s x.f1 x.f4 x.f5.f0 x.f5.f1 x.f5.f2 x.f5.f3 = _ := if_pos hE
    rw [hS, hA, hB]
    refine ⟨⟨hw.hx, hw.hy⟩, fun _ h => by omega, fun _ h => by omega, fun _ _ => ⟨rfl, rfl, rfl, rfl, rfl, rfl, fun hf => ?_⟩, fun h => by omega, fun _ _ _ h => absurd h2 h⟩
    have hf : rqC s x.f1 x.f4 = false := hf
    unfold rqX rqY
    rw [hf, if_neg (by decide), if_neg (by decide)]
    obtain ⟨a1, a2⟩ := limI_in s.fx hw.hx
    obtain ⟨a3, a4⟩ := limI_in s.fy hw.hy
    exact wiB_iff.2 ⟨a1, a3, a2, a4⟩
  rw [if_neg h2] at hE ⊢
  rw [if_neg h2, if_neg h2]
  by_cases h3 : x.f0 = 3
  · rw [if_pos h3] at hE ⊢
    rw [if_pos h3, if_pos h3]
    have hS : rszS s x.f1 x.f2 x.f3 = _ := if_pos hE
    have hA : rszA s x.f1 x.f2 x.f3 = _ := if_pos hE
    have hB : rszB s x.f1 x.f2 x.f3 = _ := if_pos hE
    rw [hS, hA, hB]
    refine ⟨⟨hw.hx, hw.hy⟩, fun _ h => by omega, fun _ h => by omega, fun _ _ => ⟨rfl, rfl, rfl, rfl, rfl, rfl, fun _ => ?_⟩, fun h => by omega, fun _ _ _ _ h => absurd h3 h⟩
    unfold rszX rszY
    obtain ⟨a1, a2⟩ := limI_in (if edX x.f1 = true then x.f2 else s.gx) hw.hx
    obtain ⟨a3, a4⟩ := limI_in (if edY x.f1 = true then x.f3 else s.gy) hw.hy
    exact wiB_iff.2 ⟨a1, a3, a2, a4⟩
  rw [if_neg h3] at hE ⊢
  by_cases h4 : x.f0 = 4
  · rw [if_pos h4]
    exact ⟨hw, fun _ h => by omega, fun _ h => by omega, fun _ h => by omega, fun _ => rfl, fun _ _ _ _ _ h => absurd h4 h⟩
  rw [if_neg h4] at hE ⊢
  have hS : accS s x.f2 x.f3 = _ := if_pos hE
  rw [hS]
  have hv : valB 1 x.f2 x.f3 = true := by
    by_cases hv : valB 1 x.f2 x.f3 = true
    · exact hv
    · have : accE s x.f2 x.f3 = 6 := if_neg hv
      omega
  unfold accE at hE
  rw [if_pos hv] at hE
  by_cases hc : (s.b.a || s.b.b) = true
  · rw [if_pos hc] at hE ⊢
    have he : (x.f2 == s.sx && (x.f3 == s.sy)) = true := by
      by_cases he : (x.f2 == s.sx && (x.f3 == s.sy)) = true
      · exact he
      · rw [if_neg he] at hE
        omega
    rw [Bool.and_eq_true, beq_iff_eq, beq_iff_eq] at he
    exact ⟨⟨hw.hx, hw.hy⟩, fun _ h => by omega, fun _ h => by omega, fun _ h => by omega, fun h => by omega, fun _ _ _ _ _ _ => ⟨rfl, rfl, rfl, rfl, rfl, rfl, rfl, rfl, fun h => (by have h : (s.b.a || s.b.b) = false := h; rw [hc] at h; cases h), fun _ => he⟩⟩
  · rw [if_neg hc] at hE ⊢
    have he : (x.f2 == limI s.lx s.mx x.f2 && (x.f3 == limI s.ly s.my x.f3)) = true := by
      by_cases he : (x.f2 == limI s.lx s.mx x.f2 && (x.f3 == limI s.ly s.my x.f3)) = true
      · exact he
      · rw [if_neg he] at hE
        omega
    rw [Bool.and_eq_true, beq_iff_eq, beq_iff_eq] at he
    have a12 := limI_in x.f2 hw.hx
    have a34 := limI_in x.f3 hw.hy
    rw [← he.1] at a12
    rw [← he.2] at a34
    exact ⟨⟨hw.hx, hw.hy⟩, fun _ h => by omega, fun _ h => by omega, fun _ h => by omega, fun h => by omega, fun _ _ _ _ _ _ => ⟨rfl, rfl, rfl, rfl, rfl, rfl, rfl, rfl, fun _ => wiB_iff.2 ⟨a12.1, a34.1, a12.2, a34.2⟩, fun h => absurd (show (s.b.a || s.b.b) = true from h) hc⟩⟩
theorem call_eqw {w0 w : World} {L : List Res} {g : Nat} {s s' : WSt} {V : Value} (h : SL w0 w L) (i : Nat) (x : S46) {A B C E : Int} (hA : opA s x = A) (hB : opB s x = B) (hC : opC s x = C) (hE : opE s x = E) (hS : opS s x = s') (hi : L[i]? = some (winR g s)) (hv : V = ag46 x) : Calls Try.prog 16 #[.pointer (some ⟨g, 0, none⟩), V] w fun e w' => e = .returned (.agg #[.int .i64 A, .int .i64 B, .int .i64 C, .int .i64 E]) ∧ SL w0 w' (L.set i (winR g s')) := by
  subst hv
  exact call_eq h i x hA hB hC hE hS hi
end Go.Proofs.Ytckpgccbhaejgaa.Q
