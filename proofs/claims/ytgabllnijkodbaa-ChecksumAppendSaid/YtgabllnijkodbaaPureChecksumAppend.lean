/- Proved: for every byte sequence and bit the law ChecksumAppend answers true (no condition). -/
import Derived.Test.YtgabllnijkodbaaPlainV
import Derived.Test.YtgabllnijkodbaaPlainD
import Derived.Test.YtgabllnijkodbaaQx22
namespace Go.Proofs.Ytgabllnijkodbaa.Pure
open Go.RowKit Go.Proofs.Ytgabllnijkodbaa.Q Go.Proofs.Ytgabllnijkodbaa.Hand Go.Proofs.Ytgabllnijkodbaa.Plain Go.Proofs.YtgabllnijkodbaaW.PrintWords Go.Proofs.YtgabllnijkodbaaW.PrintLast

theorem ver_own (l : List Int) : verS (l ++ quad (crcI l)) = (l, 0) := by
  unfold verS
  have hlen : (l ++ quad (crcI l)).length - 4 = l.length := by simp [quad]
  rw [if_neg (by simp [quad]), hlen, List.take_left, if_pos rfl]
theorem ver_flip (l : List Int) (h : ∀ x ∈ l, 0 ≤ x ∧ x < 256) (q r : Nat) (hq : q < l.length + 4) (hr : r < 8) :
    verS ((l ++ quad (crcI l)).set q (Go.bits .xor .u8 (rd (l ++ quad (crcI l)) (q : Int)) ((2 ^ r : Nat) : Int))) = ([], 19) := by
  have hp : ∀ x ∈ l ++ quad (crcI l), 0 ≤ x ∧ x < 256 := by
    intro x hx
    rcases List.mem_append.1 hx with hx | hx
    · exact h x hx
    · exact quad_byte _ x hx
  have hlen : (l ++ quad (crcI l)).length = l.length + 4 := by simp [quad]
  obtain ⟨hv, hflip⟩ := flip_num _ hp q r (by omega) hr
  generalize hV : Go.bits .xor .u8 (rd (l ++ quad (crcI l)) (q : Int)) ((2 ^ r : Nat) : Int) = v at hv hflip ⊢
  have hne : (l ++ quad (crcI l)).set q v ≠ l ++ quad (crcI l) := by
    intro e
    rw [e, Nat.xor_self] at hflip
    have := Nat.two_pow_pos (8 * q + r)
    omega
  unfold verS
  rw [if_neg (by rw [List.length_set]; omega), List.length_set, hlen, Nat.add_sub_cancel]
  by_cases hql : q < l.length
  · have ht : ((l ++ quad (crcI l)).set q v).take l.length = l.set q v := by
      rw [List.set_append_left _ _ hql, List.take_append_of_le_length (by rw [List.length_set]; omega), List.take_of_length_le (by rw [List.length_set]; omega)]
    rw [ht, List.set_append_left _ _ hql]
    rw [if_neg ?_]
    intro e
    have e2 := List.append_cancel_left e
    have hls := set_byte h q v hv
    have e3 := quad_inj _ _ (crcI_range _ hls).1 (crcI_range _ hls).2 (crcI_range _ h).1 (crcI_range _ h).2 e2
    have hrl : rd (l ++ quad (crcI l)) (q : Int) = rd l (q : Int) := by
      simp [rd, List.getD_eq_getElem?_getD, List.getElem?_append_left hql]
    obtain ⟨_, hf2⟩ := flip_num l h q r hql hr
    rw [← hrl, hV] at hf2
    have hpr : 2 ^ r < 256 := by
      have : 2 ^ r < 2 ^ 8 := Nat.pow_lt_pow_right (by omega) hr
      exact this
    have hp0 := Nat.two_pow_pos r
    refine crc_diff 0 (nats (l.set q v)) (nats l) (by simp [nats_len]) (nats_lt hls) (nats_lt h) (8 * q) (2 ^ r) (by rw [nats_len, List.length_set]; omega) (by rw [hf2, Nat.pow_add]) (by omega) (by omega) ?_
    unfold crcI at e3
    omega
  · have ht : ((l ++ quad (crcI l)).set q v).take l.length = l := by
      rw [List.set_append_right _ _ (by omega), List.take_left]
    rw [ht, if_neg (fun e => hne e.symm)]
theorem ChecksumAppend : compositorlaw03_ChecksumAppend.Pure := by
  intro l a _ hl hlb ha
  have hl' : ∀ x ∈ l, 0 ≤ x ∧ x < 256 := fun x hx => b8 (hlb x hx)
  have ha := b16 ha
  refine ⟨20 * l.length + 100, ?_⟩
  unfold compositorlaw03_ChecksumAppend.f
  by_cases hc : (l.length : Int) > 1000
  · rw [if_pos hc]; rfl
  have hlen : (l ++ quad (crcI l)).length = l.length + 4 := by simp [quad]
  have hp : ∀ x ∈ l ++ quad (crcI l), 0 ≤ x ∧ x < 256 := by
    intro x hx
    rcases List.mem_append.1 hx with hx | hx
    · exact hl' x hx
    · exact quad_byte _ x hx
  rw [if_neg hc, joined_f l [] (by simp; omega), Option.bind_some, List.append_nil, append_f l (by omega) hl', Option.bind_some, verify_f _ (by omega) hp, Option.bind_some, ver_own]
  simp only
  rw [if_pos (by rw [hlen]; unfold wrap64; omega)]
  simp only [if_true]
  rw [same_f l l (by omega) _ (by omega), Option.bind_some]
  simp only [decide_true, if_true]
  rw [Option.bind_some]
  simp only [if_true]
  rw [refappend_f l (by omega) hl' _ (by omega), Option.bind_some, same_f _ _ (by omega) _ (by omega), Option.bind_some]
  simp only [decide_true, Bool.not_true, compositorlaw03_ChecksumAppend.j0]
  (try rw [if_neg (show ¬ (false = true) by simp)])
  have hw : wrap64 a = a := by unfold wrap64; omega
  have hw8 : wrap64 (8 * ((l ++ quad (crcI l)).length : Int)) = 8 * ((l.length : Int) + 4) := by rw [hlen]; unfold wrap64; omega
  rw [hw8, hw, if_neg (by omega), Int.tmod_eq_emod_of_nonneg ha.1]
  have hm0 : 0 ≤ a % (8 * ((l.length : Int) + 4)) := Int.emod_nonneg _ (by omega)
  have hm1 : a % (8 * ((l.length : Int) + 4)) < 8 * ((l.length : Int) + 4) := Int.emod_lt_of_pos _ (by omega)
  generalize a % (8 * ((l.length : Int) + 4)) = m at hm0 hm1 ⊢
  rw [Int.tdiv_eq_ediv_of_nonneg hm0, Int.tmod_eq_emod_of_nonneg hm0, show wrap64 (m / 8) = m / 8 by unfold wrap64; omega, show IntKind.u64.wrap (m % 8) = m % 8 by rw [IntKind.wrap_u64]; omega]
  rw [if_pos (by omega), if_pos (by rw [hlen]; omega), if_pos (by omega), shl_pow (m % 8) (by omega) (by omega)]
  have hq : (((m / 8).toNat : Nat) : Int) = m / 8 := by omega
  have hf := ver_flip l hl' (m / 8).toNat (m % 8).toNat (by omega) (by omega)
  rw [hq] at hf
  have hb2 : ∀ x ∈ (l ++ quad (crcI l)).set (m / 8).toNat (Go.bits .xor .u8 (rd (l ++ quad (crcI l)) (m / 8)) ((2 ^ (m % 8).toNat : Nat) : Int)), 0 ≤ x ∧ x < 256 := set_byte hp _ _ (bits_u8_range .xor _ _)
  rw [verify_f _ (by rw [List.length_set]; omega) hb2, Option.bind_some, hf]
  simp
  rfl
end Go.Proofs.Ytgabllnijkodbaa.Pure
