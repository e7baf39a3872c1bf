/- Proved: for every byte sequence, place and change the law ChecksumByte answers true (no condition). -/
import Derived.Test.YtgabllnijkodbaaPlainB
import Derived.Test.YtgabllnijkodbaaQx19
namespace Go.Proofs.Ytgabllnijkodbaa.Pure
open Go.RowKit Go.Proofs.Ytgabllnijkodbaa.Q Go.Proofs.Ytgabllnijkodbaa.Hand Go.Proofs.Ytgabllnijkodbaa.Plain Go.Proofs.YtgabllnijkodbaaW.PrintWords Go.Proofs.YtgabllnijkodbaaW.PrintLast

theorem ChecksumByte : compositorlaw03_ChecksumByte.Pure := by
  intro l a c _ hl hlb ha hc
  have hl' : ∀ x ∈ l, 0 ≤ x ∧ x < 256 := fun x hx => b8 (hlb x hx)
  have ha := b16 ha
  have hc := b8 hc
  refine ⟨l.length + 2, ?_⟩
  unfold compositorlaw03_ChecksumByte.f
  have ht : ∀ k, compositorlaw03_ChecksumByte.j0 (k + 1) l a c true = some true := fun k => by
    simp only [compositorlaw03_ChecksumByte.j0]
    first | rfl | (rw [if_pos rfl]; rfl)
  by_cases h0 : (l.length : Int) = 0
  · rw [if_pos h0]; exact ht _
  rw [if_neg h0]
  by_cases h1 : (l.length : Int) > 1000
  · rw [if_pos h1]; exact ht _
  rw [if_neg h1]
  by_cases h2 : c = 0
  · rw [show (c == 0) = true from by simp [h2]]; exact ht _
  rw [show (c == 0) = false from by simp [h2]]
  simp only [compositorlaw03_ChecksumByte.j0]
  have hw : wrap64 a = a := by unfold wrap64; omega
  have hi0 : 0 ≤ a % (l.length : Int) := Int.emod_nonneg _ (by omega)
  have hi1 : a % (l.length : Int) < (l.length : Int) := Int.emod_lt_of_pos _ (by omega)
  (try rw [if_neg (show ¬ (false = true) by simp)])
  rw [joined_f l [] (by simp; omega), Option.bind_some, List.append_nil, if_neg h0, hw, Int.tmod_eq_emod_of_nonneg ha.1]
  generalize a % (l.length : Int) = i at hi0 hi1 ⊢
  rw [if_pos hi0, if_pos hi1, adler32_f l (by omega) _ (by omega), Option.bind_some, adler32_f _ (by rw [List.length_set]; omega) _ (by rw [List.length_set]; omega), Option.bind_some]
  have hr : rd l i ∈ l := by
    simp only [rd, List.getD_eq_getElem?_getD]
    rw [List.getElem?_eq_getElem (by omega : i.toNat < l.length)]
    exact List.getElem_mem _
  have hx := xor8_ne (rd l i) c (hl' _ hr) hc h2
  have he : rd l ((i.toNat : Nat) : Int) = rd l i := by rw [Int.toNat_of_nonneg hi0]
  rw [if_neg (fun e => adler_set l hl' i.toNat (by omega) _ hx.2 (by rw [he]; exact hx.1) e.symm)]
  rfl
end Go.Proofs.Ytgabllnijkodbaa.Pure
