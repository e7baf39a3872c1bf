import Derived.Test.YtckpgccbhaejgaaT15
namespace Go.Proofs.Ytckpgccbhaejgaa.Q
open Go.RowKit Go.Proofs.YtckpgccbhaejgaaW.PrintWords Go.Proofs.YtckpgccbhaejgaaW.PrintLast Go.Proofs.YtckpgccbhaejgaaW.PrintMore Go.Proofs.Ytckpgccbhaejgaa.Sl Go.Proofs.Ytckpgccbhaejgaa.Hand 
attribute [local go_sem] max2_int min2_int max_two min_two max_three min_three max_four min_four 
set_option linter.unusedVariables false
set_option linter.unusedSimpArgs false

/-! ### One call, said plainly -/
theorem op_same {s : WSt} {x : S46} (h : opE s x ≠ 0) : opS s x = s := by
  unfold opE at h
  unfold opS
  by_cases h0 : x.f0 = 0
  · rw [if_pos h0] at h ⊢; exact if_neg h
  rw [if_neg h0] at h ⊢
  by_cases h1 : x.f0 = 1
  · rw [if_pos h1] at h ⊢; exact if_neg h
  rw [if_neg h1] at h ⊢
  by_cases h2 : x.f0 = 2
  · rw [if_pos h2] at h ⊢; exact if_neg h
  rw [if_neg h2] at h ⊢
  by_cases h3 : x.f0 = 3
  · rw [if_pos h3] at h ⊢; exact if_neg h
  rw [if_neg h3] at h ⊢
  by_cases h4 : x.f0 = 4
  · rw [if_pos h4]
  rw [if_neg h4] at h ⊢
  exact if_neg h
structure SF (s : WSt) (x : S46) (S : WSt) (C E : Int) : Prop where
  bits : ¬ (E = 0 ∧ x.f0 = 2) → S.b = s.b
  kind : E = 0 → x.f0 = 2 → x.f1 = 1 ∨ x.f1 = 2 ∨ x.f1 = 4 ∨ x.f1 = 8
  next : E = 0 → x.f0 = 2 → S.b = setB s.b x.f1 x.f4 ∧ C = mskI S.b
  geo : (E ≠ 0 ∨ x.f0 = 0 ∨ x.f0 = 1 ∨ x.f0 = 2 ∨ x.f0 = 3 ∨ x.f0 = 4) → S.gx = s.gx ∧ S.gy = s.gy ∧ S.fx = s.fx ∧ S.fy = s.fy
theorem minS_f (s : WSt) (x y : Int) : (minS s x y).b = s.b ∧ (minS s x y).gx = s.gx ∧ (minS s x y).gy = s.gy ∧ (minS s x y).fx = s.fx ∧ (minS s x y).fy = s.fy := by
  unfold minS
  split <;> exact ⟨rfl, rfl, rfl, rfl, rfl⟩
theorem maxS_f (s : WSt) (x y : Int) : (maxS s x y).b = s.b ∧ (maxS s x y).gx = s.gx ∧ (maxS s x y).gy = s.gy ∧ (maxS s x y).fx = s.fx ∧ (maxS s x y).fy = s.fy := by
  unfold maxS
  split <;> exact ⟨rfl, rfl, rfl, rfl, rfl⟩
theorem rszS_f (s : WSt) (k x y : Int) : (rszS s k x y).b = s.b ∧ (rszS s k x y).gx = s.gx ∧ (rszS s k x y).gy = s.gy ∧ (rszS s k x y).fx = s.fx ∧ (rszS s k x y).fy = s.fy := by
  unfold rszS
  split <;> exact ⟨rfl, rfl, rfl, rfl, rfl⟩
theorem accS_b (s : WSt) (x y : Int) : (accS s x y).b = s.b := by
  unfold accS
  split
  · split <;> rfl
  · rfl
theorem sf (s : WSt) (x : S46) : SF s x (opS s x) (opC s x) (opE s x) := by
  by_cases hE : opE s x = 0
  rotate_left
  · rw [op_same hE]
    exact ⟨fun _ => rfl, fun h => absurd h hE, fun h => absurd h hE, fun _ => ⟨rfl, rfl, rfl, rfl⟩⟩
  rw [hE]
  unfold opE at hE
  unfold opS opC
  by_cases h0 : x.f0 = 0
  · rw [if_pos h0]
    obtain ⟨a, b⟩ := minS_f s x.f2 x.f3
    exact ⟨fun _ => a, fun _ h => by omega, fun _ h => by omega, fun _ => b⟩
  rw [if_neg h0] at hE ⊢
  by_cases h1 : x.f0 = 1
  · rw [if_pos h1]
    obtain ⟨a, b⟩ := maxS_f s x.f2 x.f3
    exact ⟨fun _ => a, fun _ h => by omega, fun _ h => by omega, fun _ => b⟩
  rw [if_neg h1] at hE ⊢
  by_cases h2 : x.f0 = 2
  · rw [if_pos h2] at hE ⊢
    rw [if_pos h2]
    have hk : x.f1 = 1 ∨ x.f1 = 2 ∨ x.f1 = 4 ∨ x.f1 = 8 := by
      by_cases hk : x.f1 = 1 ∨ x.f1 = 2 ∨ x.f1 = 4 ∨ x.f1 = 8
      · exact hk
      · unfold rqE at hE
        rw [if_neg hk] at hE
        omega
    have hS : rqS s x.f1 x.f4 x.f5.f0 x.f5.f1 x.f5.f2 x.f5.f3 = _ := if_pos hE
    have hM : rqM s x.f1 x.f4 x.f5.f0 x.f5.f1 x.f5.f2 x.f5.f3 = _ := if_pos hE
    rw [hS, hM]
    exact ⟨fun h => absurd ⟨rfl, h2⟩ h, fun _ _ => hk, fun _ _ => ⟨rfl, rfl⟩, fun _ => ⟨rfl, rfl, rfl, rfl⟩⟩
  rw [if_neg h2] at hE ⊢
  by_cases h3 : x.f0 = 3
  · rw [if_pos h3]
    obtain ⟨a, b⟩ := rszS_f s x.f1 x.f2 x.f3
    exact ⟨fun _ => a, fun _ h => by omega, fun _ h => by omega, fun _ => b⟩
  rw [if_neg h3] at hE ⊢
  by_cases h4 : x.f0 = 4
  · rw [if_pos h4]
    exact ⟨fun _ => rfl, fun _ h => by omega, fun _ h => by omega, fun _ => ⟨rfl, rfl, rfl, rfl⟩⟩
  rw [if_neg h4]
  exact ⟨fun _ => accS_b s x.f2 x.f3, fun _ h => by omega, fun _ h => by omega, fun h => by omega⟩
end Go.Proofs.Ytckpgccbhaejgaa.Q
