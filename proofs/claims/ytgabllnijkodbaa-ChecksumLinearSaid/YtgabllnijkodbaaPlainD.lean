import Derived.Test.YtgabllnijkodbaaPlainC
import Derived.Test.YtgabllnijkodbaaWMore
/- Plain facts on differences between byte sequences and their CRC-32 checksums. -/
namespace Go.Proofs.Ytgabllnijkodbaa.Plain
open Go.RowKit Go.Proofs.Ytgabllnijkodbaa.Q Go.Proofs.Ytgabllnijkodbaa.Hand Go.Proofs.YtgabllnijkodbaaW.PrintWords Go.Proofs.YtgabllnijkodbaaW.PrintLast

theorem xor_cancel_left {a b c : Nat} (h : a ^^^ b = a ^^^ c) : b = c := by
  have := congrArg (fun z => a ^^^ z) h
  simpa [← Nat.xor_assoc, Nat.xor_self] using this
theorem xor_eq_zero {a b : Nat} (h : a ^^^ b = 0) : a = b := by
  have : a ^^^ b = a ^^^ a := by rw [h, Nat.xor_self]
  exact (xor_cancel_left this).symm
theorem xor_two (t a b : Nat) : (t ^^^ a) ^^^ (t ^^^ b) = a ^^^ b := by
  rw [Nat.xor_comm t a, Nat.xor_comm t b]
  exact xor4 a b t
theorem mul_xor (k a b : Nat) : 2 ^ k * (a ^^^ b) = 2 ^ k * a ^^^ 2 ^ k * b := by
  have := Nat.shiftLeft_xor_distrib (a := a) (b := b) (i := k)
  simpa [Nat.shiftLeft_eq, Nat.mul_comm] using this
/-- Two sequences of one length whose difference lies within 32 bits have different checksums. -/
theorem crc_diff (s : Nat) (l m : List Nat) (hlen : l.length = m.length) (hl : ∀ c ∈ l, c < 256) (hm : ∀ c ∈ m, c < 256) (f E : Nat) (hf : f ≤ 8 * l.length) (hd : num l ^^^ num m = 2 ^ f * E) (h0 : E ≠ 0) (h1 : E < 4294967296) : crcN s l ≠ crcN s m := by
  intro e
  have e1 := xor_cancel_left e
  rw [nreg_eq l _ hl, nreg_eq m _ hm, ← hlen] at e1
  have e2 : nitr (8 * l.length) (num l ^^^ num m) = 0 := by
    rw [← xor_two (4294967295 ^^^ s), nitr_xor, e1, Nat.xor_self]
  rw [hd, show 8 * l.length = (8 * l.length - f) + f by omega, nitr_add, nitr_pow] at e2
  exact nitr_ne _ _ h0 h1 e2
theorem num_inj : ∀ (l m : List Nat), l.length = m.length → (∀ c ∈ l, c < 256) → (∀ c ∈ m, c < 256) → num l = num m → l = m
  | [], [], _, _, _, _ => rfl
  | c :: l, d :: m, h, hl, hm, e => by
    have hc := hl c (by simp)
    have hd := hm d (by simp)
    simp only [num] at e
    have e1 : c = d := by omega
    have e2 : num l = num m := by omega
    rw [e1, num_inj l m (by simpa using h) (fun x hx => hl x (by simp [hx])) (fun x hx => hm x (by simp [hx])) e2]
/-- What changing one byte does to the number. -/
theorem num_set : ∀ (l : List Nat) (j v : Nat), (h : j < l.length) → (∀ c ∈ l, c < 256) → v < 256 → num (l.set j v) ^^^ num l = 2 ^ (8 * j) * (v ^^^ l[j])
  | c :: l, 0, v, _, hl, hv => by
    have hc := hl c (by simp)
    simp only [List.set_cons_zero, num, List.getElem_cons_zero, Nat.mul_zero, Nat.pow_zero, Nat.one_mul]
    rw [← byte_join v _ hv, ← byte_join c _ hc, xor4]
  | c :: l, j + 1, v, h, hl, hv => by
    have hc := hl c (by simp)
    have ih := num_set l j v (by simpa using h) (fun x hx => hl x (by simp [hx])) hv
    simp only [List.set_cons_succ, num, List.getElem_cons_succ]
    rw [← byte_join c _ hc, ← byte_join c _ hc, xor_two, show (256 : Nat) = 2 ^ 8 from rfl, ← mul_xor, ih, ← Nat.mul_assoc, ← Nat.pow_add, show 8 + 8 * j = 8 * (j + 1) by omega]
theorem num_snoc : ∀ (l : List Nat) (v : Nat), num (l ++ [v]) = num l + 2 ^ (8 * l.length) * v
  | [], v => by simp [num]
  | c :: l, v => by
    simp only [List.cons_append, num, List.length_cons]
    rw [num_snoc l v, Nat.mul_add, ← Nat.mul_assoc, show (256 : Nat) * 2 ^ (8 * l.length) = 2 ^ (8 * (l.length + 1)) by rw [show 8 * (l.length + 1) = 8 * l.length + 8 by omega, Nat.pow_add, Nat.mul_comm]]
    omega
theorem num_lt : ∀ (l : List Nat), (∀ c ∈ l, c < 256) → num l < 2 ^ (8 * l.length)
  | [], _ => by simp [num]
  | c :: l, h => by
    have hc := h c (by simp)
    have ih := num_lt l (fun x hx => h x (by simp [hx]))
    simp only [num, List.length_cons]
    rw [show 8 * (l.length + 1) = 8 * l.length + 8 by omega, Nat.pow_add]
    omega
theorem pow_join (k a b : Nat) (h : a < 2 ^ k) : a + 2 ^ k * b = a ^^^ 2 ^ k * b := by
  have h1 : (a ^^^ 2 ^ k * b) / 2 ^ k = a / 2 ^ k ^^^ (2 ^ k * b) / 2 ^ k := Nat.xor_div_two_pow
  have h2 : (a ^^^ 2 ^ k * b) % 2 ^ k = a % 2 ^ k ^^^ (2 ^ k * b) % 2 ^ k := Nat.xor_mod_two_pow
  rw [Nat.div_eq_of_lt h, Nat.mul_div_cancel_left _ (Nat.two_pow_pos k), Nat.zero_xor] at h1
  rw [Nat.mod_eq_of_lt h, Nat.mul_mod_right, Nat.xor_zero] at h2
  have := Nat.div_add_mod (a ^^^ 2 ^ k * b) (2 ^ k)
  rw [h1, h2] at this
  omega
theorem num_snoc_xor (l : List Nat) (v : Nat) (h : ∀ c ∈ l, c < 256) : num (l ++ [v]) = num l ^^^ 2 ^ (8 * l.length) * v := by
  rw [num_snoc, pow_join _ _ _ (num_lt l h)]
/-- The checksum of the exclusive or of three sequences. -/
theorem crc_three (a b c d : List Nat) (ha : ∀ x ∈ a, x < 256) (hb : ∀ x ∈ b, x < 256) (hc : ∀ x ∈ c, x < 256) (hd : ∀ x ∈ d, x < 256) (h1 : a.length = d.length) (h2 : b.length = d.length) (h3 : c.length = d.length)
    (hn : num d = (num a ^^^ num b) ^^^ num c) (s : Nat) : crcN s d = (crcN s a ^^^ crcN s b) ^^^ crcN s c := by
  unfold crcN
  rw [nreg_eq a _ ha, nreg_eq b _ hb, nreg_eq c _ hc, nreg_eq d _ hd, h1, h2, h3, hn]
  simp only [nitr_xor]
  generalize nitr (8 * d.length) 4294967295 = p
  generalize nitr (8 * d.length) s = q
  generalize nitr (8 * d.length) (num a) = x
  generalize nitr (8 * d.length) (num b) = y
  generalize nitr (8 * d.length) (num c) = z
  generalize 4294967295 = F
  apply Nat.eq_of_testBit_eq
  intro i
  simp only [Nat.testBit_xor]
  generalize F.testBit i = t1
  generalize p.testBit i = t2
  generalize q.testBit i = t3
  generalize x.testBit i = t4
  generalize y.testBit i = t5
  generalize z.testBit i = t6
  cases t1 <;> cases t2 <;> cases t3 <;> cases t4 <;> cases t5 <;> cases t6 <;> rfl
theorem nats_len (l : List Int) : (nats l).length = l.length := by simp [nats]
theorem nats_set (l : List Int) (j : Nat) (v : Int) : nats (l.set j v) = (nats l).set j v.toNat := by simp [nats, List.map_set]
theorem nats_get (l : List Int) (j : Nat) (h : j < l.length) : (nats l)[j]'(by rw [nats_len]; exact h) = (rd l (j : Int)).toNat := by
  simp [nats, rd, List.getD_eq_getElem?_getD, List.getElem?_eq_getElem h]
theorem nats_inj (l m : List Int) (hl : ∀ x ∈ l, 0 ≤ x ∧ x < 256) (hm : ∀ x ∈ m, 0 ≤ x ∧ x < 256) (h : nats l = nats m) : l = m := by
  have hlen : l.length = m.length := by rw [← nats_len l, h, nats_len]
  refine List.ext_getElem hlen fun i h1 h2 => ?_
  have h3 := congrArg (fun z => z[i]?) h
  simp only [nats, List.getElem?_map, List.getElem?_eq_getElem h1, List.getElem?_eq_getElem h2, Option.map_some, Option.some.injEq] at h3
  have := hl _ (List.getElem_mem h1)
  have := hm _ (List.getElem_mem h2)
  omega
theorem rd_mem {l : List Int} {i : Int} (h0 : 0 ≤ i) (h : i < (l.length : Int)) : rd l i ∈ l := by
  unfold rd
  rw [List.getD_eq_getElem?_getD, List.getElem?_eq_getElem (by omega : i.toNat < l.length)]
  exact List.getElem_mem _
theorem set_byte {l : List Int} (h : ∀ x ∈ l, 0 ≤ x ∧ x < 256) (j : Nat) (v : Int) (hv : 0 ≤ v ∧ v < 256) : ∀ x ∈ l.set j v, 0 ≤ x ∧ x < 256 := by
  intro x hx
  rcases List.mem_or_eq_of_mem_set hx with hx | rfl
  · exact h x hx
  · exact hv
/-- One bit inverted: the byte that then stands there, and what that does to the number. -/
theorem flip_num (l : List Int) (h : ∀ x ∈ l, 0 ≤ x ∧ x < 256) (q r : Nat) (hq : q < l.length) (hr : r < 8) :
    (0 ≤ Go.bits .xor .u8 (rd l (q : Int)) ((2 ^ r : Nat) : Int) ∧ Go.bits .xor .u8 (rd l (q : Int)) ((2 ^ r : Nat) : Int) < 256) ∧
    num (nats (l.set q (Go.bits .xor .u8 (rd l (q : Int)) ((2 ^ r : Nat) : Int)))) ^^^ num (nats l) = 2 ^ (8 * q + r) := by
  have hb := h _ (rd_mem (by omega : 0 ≤ (q : Int)) (by omega))
  have h2 : 2 ^ r < 256 := by
    have : 2 ^ r < 2 ^ 8 := Nat.pow_lt_pow_right (by omega) hr
    exact this
  have hbit := bits_u8_range .xor (rd l (q : Int)) ((2 ^ r : Nat) : Int)
  refine ⟨hbit, ?_⟩
  have he : Go.bits .xor .u8 (rd l (q : Int)) ((2 ^ r : Nat) : Int) = (((rd l (q : Int)).toNat ^^^ 2 ^ r : Nat) : Int) := by
    rw [u8_xor _ _ hb.1 hb.2 (Int.natCast_nonneg _) (Int.ofNat_lt.2 h2)]
    rfl
  rw [nats_set, num_set _ _ _ (by rw [nats_len]; exact hq) (nats_lt h) (by omega), nats_get l q hq, he]
  rw [show (((rd l (q : Int)).toNat ^^^ 2 ^ r : Nat) : Int).toNat = (rd l (q : Int)).toNat ^^^ 2 ^ r from Int.toNat_natCast _, Nat.xor_comm ((rd l (q : Int)).toNat) (2 ^ r), Nat.xor_assoc, Nat.xor_self, Nat.xor_zero, ← Nat.pow_add]
theorem shl_pow (r : Int) (h0 : 0 ≤ r) (h : r < 8) : Go.Proofs.YtgabllnijkodbaaW.PrintWords.shl .u8 1 r = ((2 ^ r.toNat : Nat) : Int) := by
  unfold Go.Proofs.YtgabllnijkodbaaW.PrintWords.shl
  rw [show IntKind.u8.bits = 8 from rfl, Nat.min_eq_left (by omega), IntKind.wrap_u8, Int.one_mul]
  have h2 : 2 ^ r.toNat < 256 := by
    have : 2 ^ r.toNat < 2 ^ 8 := Nat.pow_lt_pow_right (by omega) (by omega)
    exact this
  have : (2 : Int) ^ r.toNat = ((2 ^ r.toNat : Nat) : Int) := by simp
  rw [this]
  generalize 2 ^ r.toNat = P at h2 ⊢
  omega
end Go.Proofs.Ytgabllnijkodbaa.Plain
