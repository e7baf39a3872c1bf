/- Proved: for all three byte sequences the law ChecksumLinear answers true (no condition). -/
import Derived.Test.YtgabllnijkodbaaPlainD
import Derived.Test.YtgabllnijkodbaaQx18
namespace Go.Proofs.Ytgabllnijkodbaa.Pure
open Go.RowKit Go.Proofs.Ytgabllnijkodbaa.Q Go.Proofs.Ytgabllnijkodbaa.Hand Go.Proofs.Ytgabllnijkodbaa.Plain Go.Proofs.YtgabllnijkodbaaW.PrintWords Go.Proofs.YtgabllnijkodbaaW.PrintLast

theorem lin_l0 (a b c : List Int) (n : Nat) (ha : a.length = n) (hb : b.length = n) (hc : c.length = n) (hn : n ≤ 1000) (ba : ∀ x ∈ a, 0 ≤ x ∧ x < 256) (bb : ∀ x ∈ b, 0 ≤ x ∧ x < 256) (bc : ∀ x ∈ c, 0 ≤ x ∧ x < 256) (d : Nat) :
    ∀ (k i : Nat) (e : List Int), i + d = n → d < k → e.length = i → (∀ x ∈ e, 0 ≤ x ∧ x < 256) → num (nats e) = (num (nats (a.take i)) ^^^ num (nats (b.take i))) ^^^ num (nats (c.take i)) →
    compositorlaw03_ChecksumLinear.l0 k a b c (n : Int) e (i : Int) = some true := by
  induction d with
  | zero =>
    intro k i e hi hk he hbe hnum
    obtain ⟨k, rfl⟩ : ∃ m, k = m + 1 := ⟨k - 1, by omega⟩
    obtain rfl : i = n := by omega
    rw [List.take_of_length_le (by omega), List.take_of_length_le (by omega), List.take_of_length_le (by omega)] at hnum
    simp only [compositorlaw03_ChecksumLinear.l0]
    rw [if_neg (by omega), crc32_f e hbe, crc32_f a ba, crc32_f b bb, crc32_f c bc]
    simp only [Option.bind_some]
    have h3 := crc_three (nats a) (nats b) (nats c) (nats e) (nats_lt ba) (nats_lt bb) (nats_lt bc) (nats_lt hbe) (by simp [nats_len]; omega) (by simp [nats_len]; omega) (by simp [nats_len]; omega) hnum 0
    have x1 := crcN_lt 0 (nats a) (by omega) (nats_lt ba)
    have x2 := crcN_lt 0 (nats b) (by omega) (nats_lt bb)
    have x3 := crcN_lt 0 (nats c) (by omega) (nats_lt bc)
    rw [u32_xor_nat _ _ x1 x2, u32_xor_nat _ _ (xor_lt _ _ x1 x2) x3, ← h3, if_pos rfl]
    rfl
  | succ d ih =>
    intro k i e hi hk he hbe hnum
    obtain ⟨k, rfl⟩ : ∃ m, k = m + 1 := ⟨k - 1, by omega⟩
    have ra := ba _ (rd_mem (l := a) (i := (i : Int)) (by omega) (by omega))
    have rb := bb _ (rd_mem (l := b) (i := (i : Int)) (by omega) (by omega))
    have rc := bc _ (rd_mem (l := c) (i := (i : Int)) (by omega) (by omega))
    simp only [compositorlaw03_ChecksumLinear.l0]
    rw [if_pos (by omega), if_pos (by omega), if_pos (by omega), if_pos (by omega), if_pos (by omega), if_pos (by omega), show wrap64 ((i : Int) + 1) = ((i + 1 : Nat) : Int) by unfold wrap64; omega]
    have hx : Go.bits .xor .u8 (Go.bits .xor .u8 (rd a (i : Int)) (rd b (i : Int))) (rd c (i : Int)) = (((rd a (i : Int)).toNat ^^^ (rd b (i : Int)).toNat ^^^ (rd c (i : Int)).toNat : Nat) : Int) := by
      rw [u8_xor _ _ ra.1 ra.2 rb.1 rb.2]
      have hlt : (rd a (i : Int)).toNat ^^^ (rd b (i : Int)).toNat < 256 := Nat.xor_lt_two_pow (n := 8) (by omega) (by omega)
      rw [u8_xor _ _ (Int.natCast_nonneg _) (Int.ofNat_lt.2 hlt) rc.1 rc.2]
      rfl
    have hbit := bits_u8_range .xor (Go.bits .xor .u8 (rd a (i : Int)) (rd b (i : Int))) (rd c (i : Int))
    refine ih k (i + 1) _ (by omega) (by omega) (by simp [he]) ?_ ?_
    · intro x hx'
      rcases List.mem_append.1 hx' with h | h
      · exact hbe x h
      · rw [List.mem_singleton.1 h]; exact hbit
    · have tk : ∀ (l : List Int), l.length = n → (∀ x ∈ l, 0 ≤ x ∧ x < 256) → num (nats (l.take (i + 1))) = num (nats (l.take i)) ^^^ 2 ^ (8 * i) * (rd l (i : Int)).toNat := by
        intro l hl hbl
        have h1 : nats (l.take (i + 1)) = nats (l.take i) ++ [(rd l (i : Int)).toNat] := by
          have hri : rd l (i : Int) = l[i]'(by omega) := by simp [rd, List.getD_eq_getElem?_getD, List.getElem?_eq_getElem (by omega : i < l.length)]
          rw [List.take_succ_eq_append_getElem (by omega), hri]
          simp only [nats, List.map_append, List.map_cons, List.map_nil]
        rw [h1, num_snoc_xor _ _ (nats_lt (fun x hx => hbl x (List.mem_of_mem_take hx))), nats_len, List.length_take, Nat.min_eq_left (by omega)]
      rw [tk a ha ba, tk b hb bb, tk c hc bc]
      have h2 : nats (e ++ [Go.bits .xor .u8 (Go.bits .xor .u8 (rd a (i : Int)) (rd b (i : Int))) (rd c (i : Int))]) = nats e ++ [(rd a (i : Int)).toNat ^^^ (rd b (i : Int)).toNat ^^^ (rd c (i : Int)).toNat] := by
        rw [hx]
        simp [nats]
      rw [h2, num_snoc_xor _ _ (nats_lt hbe), nats_len, he, hnum, mul_xor, mul_xor]
      generalize num (nats (a.take i)) = p1
      generalize num (nats (b.take i)) = p2
      generalize num (nats (c.take i)) = p3
      generalize 2 ^ (8 * i) * (rd a (i : Int)).toNat = q1
      generalize 2 ^ (8 * i) * (rd b (i : Int)).toNat = q2
      generalize 2 ^ (8 * i) * (rd c (i : Int)).toNat = q3
      ac_rfl
theorem ChecksumLinear : compositorlaw03_ChecksumLinear.Pure := by
  intro a b c _ ha hab _ hb hbb _ hc hcb
  have ba : ∀ x ∈ a, 0 ≤ x ∧ x < 256 := fun x hx => b8 (hab x hx)
  have bb : ∀ x ∈ b, 0 ≤ x ∧ x < 256 := fun x hx => b8 (hbb x hx)
  have bc : ∀ x ∈ c, 0 ≤ x ∧ x < 256 := fun x hx => b8 (hcb x hx)
  refine ⟨1001, ?_⟩
  unfold compositorlaw03_ChecksumLinear.f
  obtain ⟨n, hn, h1, h2, h3, h4⟩ : ∃ n : Nat, mn (mn (mn (a.length : Int) (b.length : Int)) (c.length : Int)) 1000 = (n : Int) ∧ n ≤ a.length ∧ n ≤ b.length ∧ n ≤ c.length ∧ n ≤ 1000 := by
    refine ⟨min (min (min a.length b.length) c.length) 1000, ?_, by omega, by omega, by omega, by omega⟩
    unfold mn
    repeat' split
    all_goals omega
  rw [hn, if_pos (by omega), if_pos (by omega), if_pos (by omega), if_pos (by omega), Int.toNat_natCast]
  have := lin_l0 (a.take n) (b.take n) (c.take n) n (by rw [List.length_take]; omega) (by rw [List.length_take]; omega) (by rw [List.length_take]; omega) h4 (fun x hx => ba x (List.mem_of_mem_take hx)) (fun x hx => bb x (List.mem_of_mem_take hx)) (fun x hx => bc x (List.mem_of_mem_take hx)) n 1001 0 [] (by omega) (by omega) rfl (by simp) (by simp [nats, num])
  exact this
end Go.Proofs.Ytgabllnijkodbaa.Pure
