/- Proved: for every checksum and every sequence of bytes the law ChecksumCRC answers true (no condition). -/
import Derived.Test.YtgabllnijkodbaaPlainC
import Derived.Test.YtgabllnijkodbaaQx11
namespace Go.Proofs.Ytgabllnijkodbaa.Pure
open Go.RowKit Go.Proofs.Ytgabllnijkodbaa.Q Go.Proofs.Ytgabllnijkodbaa.Hand Go.Proofs.Ytgabllnijkodbaa.Plain Go.Proofs.YtgabllnijkodbaaW.PrintWords Go.Proofs.YtgabllnijkodbaaW.PrintLast

theorem ChecksumCRC : compositorlaw03_ChecksumCRC.Pure := by
  intro a l ha _ hl hb
  have h := b32 ha
  have hb' : ∀ x ∈ l, 0 ≤ x ∧ x < 256 := fun x hx => b8 (hb x hx)
  obtain ⟨n, rfl⟩ := Int.eq_ofNat_of_zero_le h.1
  refine ⟨10 * l.length + 1, ?_⟩
  unfold compositorlaw03_ChecksumCRC.f
  by_cases hc : (l.length : Int) > 2000
  · rw [if_pos hc]; rfl
  · rw [if_neg hc, upd_crc n l (by omega) hb', ref_crc n l (by omega) (by omega) hb' _ (by omega), crc32_f l hb', refcrc32_f l (by omega) hb' _ (by omega)]
    simp only [Option.bind_some, if_true]
    rfl

end Go.Proofs.Ytgabllnijkodbaa.Pure
