/- Proved: for every byte sequence, place and pattern the law ChecksumBurst answers true (no condition). -/
import Derived.Test.YtgabllnijkodbaaPlainD
import Derived.Test.YtgabllnijkodbaaPlainB
import Derived.Test.YtgabllnijkodbaaQx17
namespace Go.Proofs.Ytgabllnijkodbaa.Pure
open Go.RowKit Go.Proofs.Ytgabllnijkodbaa.Q Go.Proofs.Ytgabllnijkodbaa.Hand Go.Proofs.Ytgabllnijkodbaa.Plain Go.Proofs.YtgabllnijkodbaaW.PrintWords Go.Proofs.YtgabllnijkodbaaW.PrintLast

theorem burst_end (l c : List Int) (hl : l.length ≤ 1000) (bl : ∀ x ∈ l, 0 ≤ x ∧ x < 256) (bc : ∀ x ∈ c, 0 ≤ x ∧ x < 256) (hlen : c.length = l.length) (f E : Nat) (hf : f ≤ 8 * l.length) (hd : num (nats c) ^^^ num (nats l) = 2 ^ f * E) (hE : E < 4294967296) (k : Nat) (hk : l.length < k) :
    ((compositorref03_Same.f k l c).bind fun t157 => (if t157 = true then ((compositorlaw03_exampleHolds.f).bind fun t158 => (some t158)) else ((checksum_CRC32.f l).bind fun t159 => ((checksum_CRC32.f c).bind fun t160 => (if t159 = t160 then (some false) else ((compositorlaw03_exampleHolds.f).bind fun t161 => (some t161))))))) = some true := by
  rw [same_f l c (by omega) k hk, Option.bind_some]
  by_cases e : l = c
  · rw [if_pos (decide_eq_true e)]; rfl
  · rw [if_neg (by simpa using e), crc32_f l bl, Option.bind_some, crc32_f c bc, Option.bind_some, if_neg ?_]
    · rfl
    · intro e2
      have hne : E ≠ 0 := by
        intro h0
        rw [h0, Nat.mul_zero] at hd
        have h1 := xor_eq_zero hd
        exact e (nats_inj l c bl bc (num_inj _ _ (by simp [nats_len, hlen]) (nats_lt bl) (nats_lt bc) h1.symm))
      exact crc_diff 0 (nats c) (nats l) (by simp [nats_len, hlen]) (nats_lt bc) (nats_lt bl) f E (by rw [nats_len, hlen]; exact hf) hd hne hE (by omega)
theorem bq (n : Nat) (h : n < 100000) : wrap64 ((n : Int) / 8) = ((n / 8 : Nat) : Int) := by unfold wrap64; omega
theorem br (n : Nat) : IntKind.u64.wrap ((n : Int) % 8) = ((n % 8 : Nat) : Int) := by rw [IntKind.wrap_u64]; omega
theorem bw (n : Nat) (h : n < 100000) : wrap64 ((n : Int) + 1) = ((n + 1 : Nat) : Int) := by unfold wrap64; omega
theorem bw2 (f n : Nat) (hf : f < 10000) (h : n < 100000) : wrap64 ((f : Int) + (n : Int)) = ((f + n : Nat) : Int) := by unfold wrap64; omega
theorem bw8 (n : Nat) (h : n < 100000) : wrap64 (8 * (n : Int)) = 8 * (n : Int) := by unfold wrap64; omega
theorem bu (n : Nat) (h : n < 100000) : IntKind.u64.wrap (n : Int) = (n : Int) := by rw [IntKind.wrap_u64]; omega
theorem burst_l0 (l : List Int) (hl : l.length ≤ 1000) (h0 : 0 < l.length) (bl : ∀ x ∈ l, 0 ≤ x ∧ x < 256) (p : Int) (f : Nat) (hf : f < 8 * l.length) (d : Nat) : ∀ (k i E : Nat) (c : List Int), i + d = 32 → d + l.length + 1 < k → c.length = l.length → (∀ x ∈ c, 0 ≤ x ∧ x < 256) →
    num (nats c) ^^^ num (nats l) = 2 ^ f * E → E < 2 ^ i → compositorlaw03_ChecksumBurst.l0 k l p (f : Int) c (i : Int) = some true := by
  induction d with
  | zero =>
    intro k i E c hi hk hlen bc hd hE
    obtain ⟨k, rfl⟩ : ∃ m, k = m + 1 := ⟨k - 1, by omega⟩
    obtain rfl : i = 32 := by omega
    simp only [compositorlaw03_ChecksumBurst.l0]
    rw [if_neg (by omega)]
    exact burst_end l c hl bl bc hlen f E (by omega) hd (by simpa using hE) k (by omega)
  | succ d ih =>
    intro k i E c hi hk hlen bc hd hE
    obtain ⟨k, rfl⟩ : ∃ m, k = m + 1 := ⟨k - 1, by omega⟩
    have HE2 : Aside0 (E < 2 ^ (i + 1)) := ⟨by rw [Nat.pow_succ]; omega⟩
    have HI : Aside0 (2 ^ i < 2 ^ (i + 1)) := ⟨by rw [Nat.pow_succ]; have := Nat.two_pow_pos i; omega⟩
    have HD := Aside0.mk hd
    clear hd hE
    have step : compositorlaw03_ChecksumBurst.l0 k l p (f : Int) c (wrap64 ((i : Int) + 1)) = some true := by
      rw [bw i (by omega)]
      exact ih k (i + 1) E c (by omega) (by omega) hlen bc HD.out HE2.out
    simp only [compositorlaw03_ChecksumBurst.l0]
    rw [if_pos (by omega), bu i (by omega), if_pos (by omega)]
    by_cases hp : Int.tmod (shr .u32 p (i : Int)) 2 = 1
    · rw [if_pos hp, bw2 f i (by omega) (by omega), bw8 l.length (by omega)]
      by_cases hin : ((f + i : Nat) : Int) < 8 * (l.length : Int)
      · rw [if_pos hin, Int.tdiv_eq_ediv_of_nonneg (by omega), Int.tmod_eq_emod_of_nonneg (by omega), bq (f + i) (by omega), br (f + i), if_pos (by omega), if_pos (by omega), if_pos (by omega), shl_pow _ (by omega) (by omega), Int.toNat_natCast, Int.toNat_natCast, bw i (by omega)]
        obtain ⟨hv, hfl⟩ := flip_num c bc ((f + i) / 8) ((f + i) % 8) (by omega) (by omega)
        have HF := Aside0.mk hfl
        clear hfl
        refine ih k (i + 1) (2 ^ i ^^^ E) _ (by omega) (by omega) (by rw [List.length_set]; exact hlen) (set_byte bc _ _ hv) ?_ ?_
        · have hfl := HF.out
          rw [show 8 * ((f + i) / 8) + (f + i) % 8 = f + i by omega] at hfl
          rw [mul_xor, ← HD.out, ← Nat.pow_add, ← hfl]
          rw [Nat.xor_assoc, ← Nat.xor_assoc (num (nats c)) (num (nats c)), Nat.xor_self, Nat.zero_xor]
        · exact Nat.xor_lt_two_pow HI.out HE2.out
      · rw [if_neg hin]; exact step
    · rw [if_neg hp]; exact step
theorem ChecksumBurst : compositorlaw03_ChecksumBurst.Pure := by
  intro l a p _ hl hlb ha hp
  have bl : ∀ x ∈ l, 0 ≤ x ∧ x < 256 := fun x hx => b8 (hlb x hx)
  have ha := b16 ha
  refine ⟨l.length + 100, ?_⟩
  unfold compositorlaw03_ChecksumBurst.f
  have ht : ∀ k, compositorlaw03_ChecksumBurst.j0 (k + 1) l a p true = some true := fun k => by
    simp only [compositorlaw03_ChecksumBurst.j0]
    first | rfl | (rw [if_pos rfl]; rfl)
  by_cases h0 : (l.length : Int) = 0
  · rw [if_pos h0]; exact ht _
  rw [if_neg h0]
  by_cases h1 : (l.length : Int) > 1000
  · rw [decide_eq_true h1]; exact ht _
  rw [decide_eq_false h1]
  simp only [compositorlaw03_ChecksumBurst.j0]
  (try rw [if_neg (show ¬ (false = true) by simp)])
  have hw : wrap64 a = a := by unfold wrap64; omega
  have hw8 := bw8 l.length (by omega)
  rw [hw8, hw, if_neg (by omega), joined_f l [] (by simp; omega), Option.bind_some, List.append_nil, Int.tmod_eq_emod_of_nonneg ha.1]
  have hm0 : 0 ≤ a % (8 * (l.length : Int)) := Int.emod_nonneg _ (by omega)
  have hm1 : a % (8 * (l.length : Int)) < 8 * (l.length : Int) := Int.emod_lt_of_pos _ (by omega)
  generalize a % (8 * (l.length : Int)) = m at hm0 hm1 ⊢
  obtain ⟨f, rfl⟩ := Int.eq_ofNat_of_zero_le hm0
  exact burst_l0 l (by omega) (by omega) bl p f (by omega) 32 _ 0 0 l (by omega) (by omega) rfl bl (by rw [Nat.xor_self, Nat.mul_zero]) (by simp)
end Go.Proofs.Ytgabllnijkodbaa.Pure
