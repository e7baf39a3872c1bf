/- Proved: for every checksum and every sequence of bytes the law ChecksumAdler answers true (no condition). -/
import Derived.Test.YtgabllnijkodbaaPlainA
namespace Go.Proofs.Ytgabllnijkodbaa.Pure
open Go.RowKit Go.Proofs.Ytgabllnijkodbaa.Q Go.Proofs.Ytgabllnijkodbaa.Hand Go.Proofs.Ytgabllnijkodbaa.Plain Go.Proofs.YtgabllnijkodbaaW.PrintWords Go.Proofs.YtgabllnijkodbaaW.PrintLast

theorem ChecksumAdler : compositorlaw03_ChecksumAdler.Pure := by
  intro a l ha _ hl hb
  have h := b32 ha
  refine ⟨l.length + 1, ?_⟩
  unfold compositorlaw03_ChecksumAdler.f
  by_cases hc : (l.length : Int) > 2000
  · rw [if_pos hc]; rfl
  · rw [if_neg hc, upd_adler a l h.1 h.2 (by omega) _ (by omega), ref_adler a l h.1 h.2 (by omega) _ (by omega), adler32_f l (by omega) _ (by omega), refadler32_f l (by omega) _ (by omega)]
    simp only [Option.bind_some, if_true]
    rfl

end Go.Proofs.Ytgabllnijkodbaa.Pure
