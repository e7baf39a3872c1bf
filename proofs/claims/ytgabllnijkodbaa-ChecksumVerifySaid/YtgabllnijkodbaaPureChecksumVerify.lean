/- Proved: for every byte sequence the law ChecksumVerify answers true (no condition). -/
import Derived.Test.YtgabllnijkodbaaPlainV
import Derived.Test.YtgabllnijkodbaaQx24
namespace Go.Proofs.Ytgabllnijkodbaa.Pure
open Go.RowKit Go.Proofs.Ytgabllnijkodbaa.Q Go.Proofs.Ytgabllnijkodbaa.Hand Go.Proofs.Ytgabllnijkodbaa.Plain Go.Proofs.YtgabllnijkodbaaW.PrintWords Go.Proofs.YtgabllnijkodbaaW.PrintLast

theorem ver_l0 (l : List Int) (hl : l.length ≤ 2000) (d : Nat) : ∀ (k : Nat) (i : Int) (p : List Int), 0 ≤ i → i + d = p.length → d + l.length + 1 < k → p.length ≤ 2000 →
    compositorlaw03_ChecksumVerify.l0 k l p l (p.length : Int) i = some true := by
  induction d with
  | zero =>
    intro k i p h0 h1 hk hp
    obtain ⟨k, rfl⟩ : ∃ m, k = m + 1 := ⟨k - 1, by omega⟩
    simp only [compositorlaw03_ChecksumVerify.l0]
    rw [if_neg (by omega), same_f l l (by omega) k (by omega)]
    simp only [Option.bind_some, decide_true, if_true]
    rfl
  | succ d ih =>
    intro k i p h0 h1 hk hp
    obtain ⟨k, rfl⟩ : ∃ m, k = m + 1 := ⟨k - 1, by omega⟩
    simp only [compositorlaw03_ChecksumVerify.l0]
    rw [if_pos (by omega), if_pos h0, if_pos (by omega), show wrap64 (i + 1) = i + 1 by unfold wrap64; omega]
    have := ih k (i + 1) (p.set i.toNat ((rd p i + 1) % 256)) (by omega) (by rw [List.length_set]; omega) (by omega) (by rw [List.length_set]; omega)
    rw [List.length_set] at this
    exact this
theorem ver_len (l : List Int) : (verS l).1.length ≤ l.length := by
  unfold verS
  split
  · simp
  · split
    · simp only [List.length_take]; omega
    · simp
theorem ChecksumVerify : compositorlaw03_ChecksumVerify.Pure := by
  intro l _ hl hlb
  have hl' : ∀ x ∈ l, 0 ≤ x ∧ x < 256 := fun x hx => b8 (hlb x hx)
  refine ⟨20 * l.length + 20, ?_⟩
  unfold compositorlaw03_ChecksumVerify.f
  by_cases hc : (l.length : Int) > 2000
  · rw [if_pos hc]; rfl
  rw [if_neg hc, verify_f l (by omega) hl', refverify_f l (by omega) hl' _ (by omega)]
  have hv := ver_len l
  simp only [Option.bind_some, if_true]
  rw [same_f _ _ (by omega) _ (by omega)]
  simp only [Option.bind_some, decide_true, Bool.not_true, compositorlaw03_ChecksumVerify.j0]
  (try rw [if_neg (show ¬ (false = true) by simp)])
  rw [joined_f l [] (by simp; omega), Option.bind_some, List.append_nil]
  exact ver_l0 l (by omega) (verS l).1.length _ 0 _ (by omega) (by omega) (by omega) (by omega)
end Go.Proofs.Ytgabllnijkodbaa.Pure
