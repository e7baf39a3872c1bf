/- Proved: for every byte sequence the law FrameSplit answers true (no condition). -/
import Derived.Test.YtipmcklkflgppaaPlainA
import Derived.Test.YtipmcklkflgppaaQx12
namespace Go.Proofs.Ytipmcklkflgppaa.Pure
open Go.RowKit Go.Proofs.Ytipmcklkflgppaa.Q Go.Proofs.Ytipmcklkflgppaa.Hand Go.Proofs.Ytipmcklkflgppaa.Plain Go.Proofs.YtipmcklkflgppaaW.PrintWords Go.Proofs.YtipmcklkflgppaaW.PrintLast

theorem FrameSplit : compositorlaw02_FrameSplit.Pure := by
  intro l _ hl hlb
  have hl' : ∀ x ∈ l, 0 ≤ x ∧ x < 256 := fun x hx => b8 (hlb x hx)
  refine ⟨2 * (l.length + 1), ?_⟩
  unfold compositorlaw02_FrameSplit.f
  by_cases hc : (l.length : Int) > 9000
  · rw [if_pos hc]; rfl
  rw [if_neg hc, Split_f hl' (by omega) _ (by omega), refSplit_f hl' (by omega) (l.length + 1) (by omega) _ (Nat.le_refl _)]
  rw [splitS_more hl' (l.length + 1) [] 0 (by omega) (by omega) (by omega) (2 * (l.length + 1)) (by omega)]
  have hv := splitS_len hl' (l.length + 1) [] 0 (by omega) (by omega) (by simp)
  simp only [Option.bind_some, if_true]
  rw [same_f _ (by omega) _ (by omega)]
  rfl
end Go.Proofs.Ytipmcklkflgppaa.Pure
