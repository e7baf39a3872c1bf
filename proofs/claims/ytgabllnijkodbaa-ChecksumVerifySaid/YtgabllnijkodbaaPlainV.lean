import Derived.Test.YtgabllnijkodbaaPlainB
import Derived.Test.YtgabllnijkodbaaPlainC
import Derived.Test.YtgabllnijkodbaaQx7
import Derived.Test.YtgabllnijkodbaaQx21
import Derived.Test.YtgabllnijkodbaaQx23
/- Plain facts on Append and Verify, the program's and the reference's. -/
namespace Go.Proofs.Ytgabllnijkodbaa.Plain
open Go.RowKit Go.Proofs.Ytgabllnijkodbaa.Q Go.Proofs.Ytgabllnijkodbaa.Hand Go.Proofs.YtgabllnijkodbaaW.PrintWords Go.Proofs.YtgabllnijkodbaaW.PrintLast

def quad (n : Int) : List Int := [n % 256, (n / 256) % 256, (n / 65536) % 256, (n / 16777216) % 256]
theorem quad_byte (n : Int) : ∀ x ∈ quad n, 0 ≤ x ∧ x < 256 := by
  intro x hx
  simp only [quad, List.mem_cons, List.not_mem_nil, or_false] at hx
  omega
theorem quad_inj (m n : Int) (h0 : 0 ≤ m) (h1 : m < 4294967296) (h2 : 0 ≤ n) (h3 : n < 4294967296) (h : quad m = quad n) : m = n := by
  simp only [quad, List.cons.injEq, and_true] at h
  omega
def crcI (l : List Int) : Int := (crcN 0 (nats l) : Int)
theorem crcI_range (l : List Int) (h : ∀ x ∈ l, 0 ≤ x ∧ x < 256) : 0 ≤ crcI l ∧ crcI l < 4294967296 := by
  have := crcN_lt 0 (nats l) (by omega) (nats_lt h)
  unfold crcI
  omega
theorem append_f (l : List Int) (hl : l.length < 140737488355300) (h : ∀ x ∈ l, 0 ≤ x ∧ x < 256) : checksum_Append.f l = some (l ++ quad (crcI l)) := by
  unfold checksum_Append.f
  rw [crc32_f l h, Option.bind_some]
  simp only [Option.bind_some, List.length_nil, List.nil_append, List.length_cons]
  rw [if_pos (by omega), if_pos (by omega)]
  rfl
theorem refappend_f (l : List Int) (hl : l.length ≤ 140737488351232) (h : ∀ x ∈ l, 0 ≤ x ∧ x < 256) (k : Nat) (hk : 10 * l.length < k) : compositorref03_Append.f k l = some (l ++ quad (crcI l)) := by
  unfold compositorref03_Append.f compositorref03_Bytes.f
  simp only [Option.bind_some, List.length_nil, List.nil_append, List.length_cons]
  rw [if_pos (by omega), refcrc32_f l (by omega) h k hk]
  simp only [Option.bind_some]
  rw [if_pos (by omega)]
  rfl
theorem str_inj (l m : List Int) (hl : ∀ x ∈ l, 0 ≤ x ∧ x < 256) (hm : ∀ x ∈ m, 0 ≤ x ∧ x < 256) : (strOfNums l).toList = (strOfNums m).toList ↔ l = m := by
  constructor
  · intro h
    have h2 : l.map (fun n => UInt8.ofNat n.toNat) = m.map (fun n => UInt8.ofNat n.toNat) := by
      have e : ∀ xs : List Int, (strOfNums xs).toList = xs.map fun n => UInt8.ofNat n.toNat := by
        intro xs
        simp [strOfNums, ByteArray.toList_eq]
      rw [e, e] at h
      exact h
    have hlen : l.length = m.length := by have := congrArg List.length h2; simpa using this
    refine List.ext_getElem hlen fun i h3 h4 => ?_
    have h5 := congrArg (fun z => z[i]?) h2
    simp only [List.getElem?_map, List.getElem?_eq_getElem h3, List.getElem?_eq_getElem h4, Option.map_some, Option.some.injEq] at h5
    have h6 := congrArg UInt8.toNat h5
    have a := hl _ (List.getElem_mem h3)
    have b := hm _ (List.getElem_mem h4)
    simp only [UInt8.toNat_ofNat'] at h6
    omega
  · intro h; rw [h]
theorem take_byte {l : List Int} (h : ∀ x ∈ l, 0 ≤ x ∧ x < 256) (n : Nat) : ∀ x ∈ l.take n, 0 ≤ x ∧ x < 256 := fun x hx => h x (List.mem_of_mem_take hx)
/-- What Verify answers. -/
def verS (l : List Int) : List Int × Int :=
  if l.length < 4 then ([], 4) else if l.take (l.length - 4) ++ quad (crcI (l.take (l.length - 4))) = l then (l.take (l.length - 4), 0) else ([], 19)
theorem verify_f (l : List Int) (hl : l.length ≤ 140737488351232) (h : ∀ x ∈ l, 0 ≤ x ∧ x < 256) : checksum_Verify.f l = some (verS l) := by
  unfold checksum_Verify.f verS
  by_cases c : l.length < 4
  · rw [if_pos (by omega), if_pos c]
  rw [if_neg (by omega), if_neg c]
  have hw : wrap64 ((l.length : Int) - 4) = (l.length : Int) - 4 := by unfold wrap64; omega
  have hn : (wrap64 ((l.length : Int) - 4)).toNat = l.length - 4 := by rw [hw]; omega
  rw [hn, if_pos (by omega), if_pos (by omega)]
  have hb := take_byte h (l.length - 4)
  rw [append_f _ (by rw [List.length_take]; omega) hb, Option.bind_some]
  have hcb : ∀ x ∈ l.take (l.length - 4) ++ quad (crcI (l.take (l.length - 4))), 0 ≤ x ∧ x < 256 := by
    intro x hx
    rcases List.mem_append.1 hx with hx | hx
    · exact hb x hx
    · exact quad_byte _ x hx
  by_cases e : l.take (l.length - 4) ++ quad (crcI (l.take (l.length - 4))) = l
  · rw [if_pos ((str_inj _ _ hcb h).2 e), if_pos (by rw [List.length_take]; simp; omega), if_pos e]
    rfl
  · rw [if_neg (fun z => e ((str_inj _ _ hcb h).1 z)), if_neg e]
theorem refverify_f (l : List Int) (hl : l.length ≤ 140737488351232) (h : ∀ x ∈ l, 0 ≤ x ∧ x < 256) (k : Nat) (hk : 10 * l.length + 10 < k) : compositorref03_Verify.f k l = some (verS l) := by
  unfold compositorref03_Verify.f verS compositorref03_Bytes.f
  by_cases c : l.length < 4
  · rw [if_pos (by omega), if_pos c]
  rw [if_neg (by omega), if_neg c]
  have hw : wrap64 ((l.length : Int) - 4) = (l.length : Int) - 4 := by unfold wrap64; omega
  have hn : (wrap64 ((l.length : Int) - 4)).toNat = l.length - 4 := by rw [hw]; omega
  rw [hn, if_pos (by omega), if_pos (by omega)]
  have hb := take_byte h (l.length - 4)
  have hlt : (l.take (l.length - 4)).length ≤ l.length := by rw [List.length_take]; omega
  rw [refcrc32_f _ (by omega) hb k (by omega), Option.bind_some, Option.bind_some, same_f _ _ (by rw [List.length_drop]; omega) k (by rw [List.length_drop]; omega), Option.bind_some]
  show (if (decide (l.drop (l.length - 4) = quad (crcI (l.take (l.length - 4)))) = true) then _ else _) = _
  have hsplit := List.take_append_drop (l.length - 4) l
  by_cases e : l.take (l.length - 4) ++ quad (crcI (l.take (l.length - 4))) = l
  · have e2 : l.drop (l.length - 4) = quad (crcI (l.take (l.length - 4))) := by
      have := e.trans hsplit.symm
      exact (List.append_cancel_left this).symm
    rw [if_pos (decide_eq_true e2), if_pos e, Option.bind_some, if_pos (by simp; omega)]
    rfl
  · have e2 : ¬ l.drop (l.length - 4) = quad (crcI (l.take (l.length - 4))) := by
      intro z
      rw [← z] at e
      exact e hsplit
    rw [if_neg (by simpa using e2), if_neg e]
end Go.Proofs.Ytgabllnijkodbaa.Plain
