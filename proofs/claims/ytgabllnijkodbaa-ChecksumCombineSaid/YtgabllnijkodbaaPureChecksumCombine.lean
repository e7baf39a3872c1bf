/- Proved: for all checksums and lengths the law ChecksumCombine answers true (no condition). -/
import Derived.Test.YtgabllnijkodbaaPlainB
import Derived.Test.YtgabllnijkodbaaQx27
namespace Go.Proofs.Ytgabllnijkodbaa.Pure
open Go.RowKit Go.Proofs.Ytgabllnijkodbaa.Q Go.Proofs.Ytgabllnijkodbaa.Hand Go.Proofs.Ytgabllnijkodbaa.Plain Go.Proofs.YtgabllnijkodbaaW.PrintWords Go.Proofs.YtgabllnijkodbaaW.PrintLast

theorem ChecksumCombine : compositorlaw03_ChecksumCombine.Pure := by
  intro a b n ha hb hn
  have h1 := b32 ha
  have h2 := b32 hb
  have h3 := b64 hn
  unfold compositorlaw03_ChecksumCombine.f
  rw [comb_f a b n h1.1 h1.2 h2.1 h2.2 h3.2, refcomb_f a b n h1.1 h1.2 h2.1 h2.2 h3.2]
  simp only [Option.bind_some, if_true]
  rfl
end Go.Proofs.Ytgabllnijkodbaa.Pure
