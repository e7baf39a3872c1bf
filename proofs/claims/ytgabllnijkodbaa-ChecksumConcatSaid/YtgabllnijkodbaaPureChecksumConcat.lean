/- Proved: for all pairs of byte sequences the law ChecksumConcat answers true (no condition). -/
import Derived.Test.YtgabllnijkodbaaPlainB
import Derived.Test.YtgabllnijkodbaaPlainC
import Derived.Test.YtgabllnijkodbaaQx28
namespace Go.Proofs.Ytgabllnijkodbaa.Pure
open Go.RowKit Go.Proofs.Ytgabllnijkodbaa.Q Go.Proofs.Ytgabllnijkodbaa.Hand Go.Proofs.Ytgabllnijkodbaa.Plain Go.Proofs.YtgabllnijkodbaaW.PrintWords Go.Proofs.YtgabllnijkodbaaW.PrintLast

theorem nats_append (l m : List Int) : nats (l ++ m) = nats l ++ nats m := by simp [nats]
theorem ChecksumConcat : compositorlaw03_ChecksumConcat.Pure := by
  intro l m _ hl hlb _ hm hmb
  have hl' : ∀ x ∈ l, 0 ≤ x ∧ x < 256 := fun x hx => b8 (hlb x hx)
  have hm' : ∀ x ∈ m, 0 ≤ x ∧ x < 256 := fun x hx => b8 (hmb x hx)
  have hc' : ∀ x ∈ l ++ m, 0 ≤ x ∧ x < 256 := by
    intro x hx
    rcases List.mem_append.1 hx with h | h
    · exact hl' x h
    · exact hm' x h
  refine ⟨l.length + m.length + 2, ?_⟩
  unfold compositorlaw03_ChecksumConcat.f
  have ht : ∀ k, compositorlaw03_ChecksumConcat.j0 (k + 1) l m true = some true := fun k => by
    simp only [compositorlaw03_ChecksumConcat.j0]
    first | rfl | (rw [if_pos rfl]; rfl)
  by_cases hc : (l.length : Int) > 1000
  · rw [if_pos hc]; exact ht _
  · rw [if_neg hc]
    by_cases hd : (m.length : Int) > 1000
    · rw [decide_eq_true hd]; exact ht _
    · rw [decide_eq_false hd]
      simp only [compositorlaw03_ChecksumConcat.j0]
      have r1 := adler_range 1 l
      have r2 := adler_range 1 m
      have hn1 := crcN_lt 0 (nats l) (by omega) (nats_lt hl')
      (try rw [if_neg (show ¬ (false = true) by simp)])
      rw [joined_f l m (by omega), Option.bind_some, adler32_f l (by omega) _ (by omega), Option.bind_some, adler32_f m (by omega) _ (by omega), Option.bind_some,
        crc32_f (l ++ m) hc', Option.bind_some, crc32_f l hl', Option.bind_some, upd_crc _ m hn1 hm', Option.bind_some, nats_append, crcN_append, if_pos rfl,
        adler32_f (l ++ m) (by rw [List.length_append]; omega) _ (by rw [List.length_append]; omega), Option.bind_some, upd_adler _ m r1.1 r1.2 (by omega) _ (by omega), Option.bind_some, adler_append, if_pos rfl, Option.bind_some,
        comb_f _ _ _ r1.1 r1.2 r2.1 r2.2 (by omega), Option.bind_some, ← adler_append, adler_concat l m hm', if_pos rfl]
      rfl
end Go.Proofs.Ytgabllnijkodbaa.Pure
