import Derived.Test.YtgabllnijkodbaaPlainA
import Derived.Test.YtgabllnijkodbaaQx10
/- Plain facts on the CRC-32 functions: the register is linear, and the checksum of a sequence is that of one great number, shifted out. -/
namespace Go.Proofs.Ytgabllnijkodbaa.Plain
open Go.RowKit Go.Proofs.Ytgabllnijkodbaa.Q Go.Proofs.Ytgabllnijkodbaa.Hand Go.Proofs.YtgabllnijkodbaaW.PrintWords Go.Proofs.YtgabllnijkodbaaW.PrintLast

def nsh (n : Nat) : Nat := n / 2 ^^^ (if n % 2 = 1 then 3988292384 else 0)
def nitr : Nat → Nat → Nat
  | 0, n => n
  | k + 1, n => nsh (nitr k n)

theorem xor4 (x y p : Nat) : (x ^^^ p) ^^^ (y ^^^ p) = x ^^^ y := by
  rw [Nat.xor_assoc, ← Nat.xor_assoc p y p, Nat.xor_comm p y, Nat.xor_assoc y p p, Nat.xor_self, Nat.xor_zero]
theorem nsh_xor (a b : Nat) : nsh (a ^^^ b) = nsh a ^^^ nsh b := by
  have hd : (a ^^^ b) / 2 = a / 2 ^^^ b / 2 := by
    have := Nat.xor_div_two_pow (a := a) (b := b) (n := 1)
    simpa using this
  have hm : (a ^^^ b) % 2 = (a + b) % 2 := by
    have := Nat.xor_mod_two_pow (a := a) (b := b) (n := 1)
    rw [show 2 ^ 1 = 2 from rfl] at this
    rw [this]
    rcases Nat.mod_two_eq_zero_or_one a with ha | ha <;> rcases Nat.mod_two_eq_zero_or_one b with hb | hb <;> rw [ha, hb]
    · rw [show (a + b) % 2 = 0 by omega]; rfl
    · rw [show (a + b) % 2 = 1 by omega]; rfl
    · rw [show (a + b) % 2 = 1 by omega]; rfl
    · rw [show (a + b) % 2 = 0 by omega]; rfl
  unfold nsh
  rw [hd, hm]
  rcases Nat.mod_two_eq_zero_or_one a with ha | ha <;> rcases Nat.mod_two_eq_zero_or_one b with hb | hb
  · rw [if_neg (by omega), if_neg (by omega), if_neg (by omega)]; simp
  · rw [if_pos (by omega), if_neg (by omega), if_pos (by omega), Nat.xor_zero, Nat.xor_assoc]
  · rw [if_pos (by omega), if_pos (by omega), if_neg (by omega), Nat.xor_zero, Nat.xor_assoc, Nat.xor_comm (b / 2), Nat.xor_assoc]
  · rw [if_neg (by omega), if_pos (by omega), if_pos (by omega), xor4, Nat.xor_zero]
theorem nitr_xor (k a b : Nat) : nitr k (a ^^^ b) = nitr k a ^^^ nitr k b := by
  induction k with
  | zero => rfl
  | succ k ih => simp only [nitr]; rw [ih, nsh_xor]
theorem nsh_double (x : Nat) : nsh (2 * x) = x := by
  unfold nsh
  rw [if_neg (by omega), Nat.xor_zero]
  omega
theorem nitr_pow (k : Nat) : ∀ x, nitr k (2 ^ k * x) = x := by
  induction k with
  | zero => intro x; simp [nitr]
  | succ k ih =>
    intro x
    simp only [nitr]
    rw [show 2 ^ (k + 1) * x = 2 ^ k * (2 * x) by rw [Nat.pow_succ, Nat.mul_assoc], ih, nsh_double]
theorem nitr_add (j k n : Nat) : nitr (j + k) n = nitr j (nitr k n) := by
  induction j with
  | zero => rw [Nat.zero_add]; rfl
  | succ j ih => rw [show j + 1 + k = (j + k) + 1 by omega]; simp only [nitr]; rw [ih]
theorem nitr_zero (k : Nat) : nitr k 0 = 0 := by
  have := nitr_pow k 0
  simpa using this
theorem byte_join (c n : Nat) (hc : c < 256) : c ^^^ 256 * n = c + 256 * n := by
  have h1 : (c ^^^ 256 * n) / 256 = c / 256 ^^^ (256 * n) / 256 := Nat.xor_div_two_pow (n := 8)
  have h2 : (c ^^^ 256 * n) % 256 = c % 256 ^^^ (256 * n) % 256 := Nat.xor_mod_two_pow (n := 8)
  rw [show c / 256 = 0 by omega, show 256 * n / 256 = n by omega, Nat.zero_xor] at h1
  rw [show c % 256 = c by omega, show 256 * n % 256 = 0 by omega, Nat.xor_zero] at h2
  omega
/-- The bytes as one number, the first one lowest. -/
def num : List Nat → Nat
  | [] => 0
  | c :: l => c + 256 * num l
def nreg (s : Nat) (l : List Nat) : Nat := l.foldl (fun s c => nitr 8 (s ^^^ c)) s
theorem nreg_eq : ∀ (l : List Nat) (s : Nat), (∀ c ∈ l, c < 256) → nreg s l = nitr (8 * l.length) (s ^^^ num l)
  | [], s, _ => by simp [nreg, num, nitr]
  | c :: l, s, h => by
    have hc := h c (by simp)
    have ih := nreg_eq l (nitr 8 (s ^^^ c)) (fun x hx => h x (by simp [hx]))
    show nreg (nitr 8 (s ^^^ c)) l = _
    rw [ih, List.length_cons, show 8 * (l.length + 1) = 8 * l.length + 8 by omega, nitr_add, num, ← byte_join c _ hc, ← Nat.xor_assoc, nitr_xor 8 (s ^^^ c), show 256 * num l = 2 ^ 8 * num l from rfl, nitr_pow]
theorem ncstep (s c : Nat) : s / 256 ^^^ nitr 8 ((s % 256) ^^^ c) = nitr 8 (s ^^^ c) := by
  have h : s = (s % 256) ^^^ 256 * (s / 256) := by rw [byte_join _ _ (by omega)]; omega
  have h2 : s ^^^ c = ((s % 256) ^^^ c) ^^^ 2 ^ 8 * (s / 256) := by
    conv => lhs; rw [h]
    rw [Nat.xor_assoc, Nat.xor_comm (256 * (s / 256)) c, ← Nat.xor_assoc]
  rw [h2, nitr_xor 8 ((s % 256) ^^^ c), nitr_pow, Nat.xor_comm]
theorem nsh_lt (n : Nat) (h : n < 4294967296) : nsh n < 4294967296 := by
  unfold nsh
  refine Nat.xor_lt_two_pow (n := 32) (by omega) ?_
  split <;> omega
theorem nitr_lt (k n : Nat) (h : n < 4294967296) : nitr k n < 4294967296 := by
  induction k with
  | zero => exact h
  | succ k ih => exact nsh_lt _ ih
theorem xor_lt (a b : Nat) (ha : a < 4294967296) (hb : b < 4294967296) : a ^^^ b < 4294967296 := Nat.xor_lt_two_pow (n := 32) ha hb
theorem nreg_lt : ∀ (l : List Nat) (s : Nat), s < 4294967296 → (∀ c ∈ l, c < 256) → nreg s l < 4294967296
  | [], s, hs, _ => hs
  | c :: l, s, hs, h => nreg_lt l (nitr 8 (s ^^^ c)) (nitr_lt 8 _ (xor_lt _ _ hs (by have := h c (by simp); omega))) (fun x hx => h x (by simp [hx]))
theorem nsh_ne (n : Nat) (h0 : n ≠ 0) (h : n < 4294967296) : nsh n ≠ 0 := by
  unfold nsh
  intro e
  have e2 : n / 2 = (if n % 2 = 1 then 3988292384 else 0) := by
    have := congrArg (fun z => z ^^^ (if n % 2 = 1 then 3988292384 else 0)) e
    simpa [Nat.xor_assoc, Nat.xor_self] using this
  split at e2 <;> omega
theorem nitr_ne (k n : Nat) (h0 : n ≠ 0) (h : n < 4294967296) : nitr k n ≠ 0 := by
  induction k with
  | zero => exact h0
  | succ k ih => exact nsh_ne _ ih (nitr_lt k n h)

/-! The Go functions' numbers -/
theorem sh1_cast (n : Nat) (h : n < 4294967296) : sh1 (n : Int) = (nsh n : Int) := by
  unfold sh1 nsh
  have h1 : Go.bits .and .u32 (n : Int) 1 = ((n % 2 : Nat) : Int) := by
    rw [show (1 : Int) = ((1 : Nat) : Int) from rfl, u32_and_nat n 1 h (by omega), nat_mask1]
  rw [h1]
  by_cases hp : n % 2 = 1
  · rw [hp, if_pos rfl, show ((3988292384 : Int) * ((1 : Nat) : Int)) % 4294967296 = ((3988292384 : Nat) : Int) by omega, show (n : Int) / 2 = ((n / 2 : Nat) : Int) by omega, u32_xor_nat _ _ (by omega) (by omega)]
  · rw [show n % 2 = 0 by omega, if_neg (by omega), show ((3988292384 : Int) * ((0 : Nat) : Int)) % 4294967296 = ((0 : Nat) : Int) by omega, show (n : Int) / 2 = ((n / 2 : Nat) : Int) by omega, u32_xor_nat _ _ (by omega) (by omega)]
theorem itr_cast (k n : Nat) (h : n < 4294967296) : itr k (n : Int) = (nitr k n : Int) := by
  induction k with
  | zero => rfl
  | succ k ih => simp only [itr, nitr]; rw [ih, sh1_cast _ (nitr_lt k n h)]
theorem cstep_cast (s c : Nat) (hs : s < 4294967296) (hc : c < 256) : cstep (s : Int) (c : Int) = (nitr 8 (s ^^^ c) : Int) := by
  unfold cstep cidx
  rw [show (s : Int) % 256 = ((s % 256 : Nat) : Int) by omega, u8_xor_nat _ _ (by omega) hc]
  have hx : (s % 256) ^^^ c < 256 := Nat.xor_lt_two_pow (n := 8) (by omega) hc
  rw [itr_cast 8 _ (by omega), show (s : Int) / 256 = ((s / 256 : Nat) : Int) by omega, u32_xor_nat _ _ (by omega) (nitr_lt 8 _ (by omega)), ncstep]
def nats (l : List Int) : List Nat := l.map Int.toNat
theorem nats_lt {l : List Int} (h : ∀ x ∈ l, 0 ≤ x ∧ x < 256) : ∀ c ∈ nats l, c < 256 := by
  intro c hc
  obtain ⟨x, hx, rfl⟩ := List.mem_map.1 hc
  have := h x hx
  omega
theorem crcL_cast : ∀ (l : List Int) (s : Nat), s < 4294967296 → (∀ x ∈ l, 0 ≤ x ∧ x < 256) → crcL (s : Int) l = (nreg s (nats l) : Int)
  | [], s, _, _ => rfl
  | c :: l, s, hs, h => by
    have hc := h c (by simp)
    have e : c = ((c.toNat : Nat) : Int) := by omega
    have ih := crcL_cast l (nitr 8 (s ^^^ c.toNat)) (nitr_lt 8 _ (xor_lt _ _ hs (by omega))) (fun x hx => h x (by simp [hx]))
    show crcL (cstep (s : Int) c) l = _
    rw [e, cstep_cast s c.toNat hs (by omega), ih]
    rfl
theorem inv32_cast (n : Nat) (h : n < 4294967296) : inv32 (n : Int) = ((4294967295 ^^^ n : Nat) : Int) := by
  unfold inv32
  rw [show IntKind.u32.max = ((4294967295 : Nat) : Int) from rfl, u32_xor_nat _ _ (by omega) h]
def crcN (s : Nat) (l : List Nat) : Nat := 4294967295 ^^^ nreg (4294967295 ^^^ s) l
theorem crcN_lt (s : Nat) (l : List Nat) (hs : s < 4294967296) (h : ∀ c ∈ l, c < 256) : crcN s l < 4294967296 := xor_lt _ _ (by omega) (nreg_lt l _ (xor_lt _ _ (by omega) hs) h)
theorem crcN_append (s : Nat) (l m : List Nat) : crcN s (l ++ m) = crcN (crcN s l) m := by
  unfold crcN
  rw [← Nat.xor_assoc 4294967295 4294967295, Nat.xor_self, Nat.zero_xor]
  unfold nreg
  rw [List.foldl_append]
theorem upd_crc (a : Nat) (l : List Int) (ha : a < 4294967296) (h : ∀ x ∈ l, 0 ≤ x ∧ x < 256) : checksum_UpdateCRC32.f (a : Int) l = some (crcN a (nats l) : Int) := by
  unfold checksum_UpdateCRC32.f crcN
  rw [inv32_cast a ha, crcL_cast l _ (xor_lt _ _ (by omega) ha) h, inv32_cast _ (nreg_lt _ _ (xor_lt _ _ (by omega) ha) (nats_lt h))]
theorem crc32_f (l : List Int) (h : ∀ x ∈ l, 0 ≤ x ∧ x < 256) : checksum_CRC32.f l = some (crcN 0 (nats l) : Int) := by
  unfold checksum_CRC32.f
  rw [show (0 : Int) = ((0 : Nat) : Int) from rfl, upd_crc 0 l (by omega) h]
  rfl

/-! The reference, bit by bit -/
theorem ref_l1 (l : List Int) (i r : Int) (K : Nat) (d : Nat) : ∀ (s j : Nat), s < 4294967296 → j + d = 8 → (∀ k, K ≤ k → compositorref03_UpdateCRC32.l0 k l (nitr d s : Int) (wrap64 (i + 1)) = some r) →
    ∀ k, K + d + 1 ≤ k → compositorref03_UpdateCRC32.l1 k l (s : Int) i (j : Int) = some r := by
  induction d with
  | zero =>
    intro s j hs hj h k hk
    obtain ⟨k, rfl⟩ : ∃ m, k = m + 1 := ⟨k - 1, by omega⟩
    simp only [compositorref03_UpdateCRC32.l1]
    rw [if_neg (by omega)]
    exact h k (by omega)
  | succ d ih =>
    intro s j hs hj h k hk
    obtain ⟨k, rfl⟩ : ∃ m, k = m + 1 := ⟨k - 1, by omega⟩
    simp only [compositorref03_UpdateCRC32.l1]
    rw [if_pos (by omega), show wrap64 ((j : Int) + 1) = ((j + 1 : Nat) : Int) by unfold wrap64; omega, Int.tmod_eq_emod_of_nonneg (by omega)]
    have hn : ∀ k, K ≤ k → compositorref03_UpdateCRC32.l0 k l (nitr d (nsh s) : Int) (wrap64 (i + 1)) = some r := by
      intro k hk
      have := h k hk
      rw [show nitr (d + 1) s = nitr d (nsh s) from nitr_add d 1 s] at this
      exact this
    have := ih (nsh s) (j + 1) (nsh_lt s hs) (by omega) hn k (by omega)
    by_cases hp : s % 2 = 1
    · rw [if_pos (by omega), show (s : Int) / 2 = ((s / 2 : Nat) : Int) by omega, show (3988292384 : Int) = ((3988292384 : Nat) : Int) from rfl, u32_xor_nat _ _ (by omega) (by omega)]
      rw [show s / 2 ^^^ 3988292384 = nsh s by unfold nsh; rw [if_pos hp]]
      exact this
    · rw [if_neg (by omega), show (s : Int) / 2 = ((nsh s : Nat) : Int) by unfold nsh; rw [if_neg hp, Nat.xor_zero]; omega]
      exact this
theorem refcrc_l0 (l : List Int) (hn : l.length ≤ 140737488351232) (hb : ∀ x ∈ l, 0 ≤ x ∧ x < 256) (d : Nat) : ∀ (k s : Nat) (i : Int), s < 4294967296 → 0 ≤ i → i ≤ l.length → (l.length : Int) - i = d → 10 * d < k →
    compositorref03_UpdateCRC32.l0 k l (s : Int) i = some ((4294967295 ^^^ nreg s (nats (l.drop i.toNat)) : Nat) : Int) := by
  induction d with
  | zero =>
    intro k s i hs h0 h1 hd hk
    obtain ⟨k, rfl⟩ : ∃ m, k = m + 1 := ⟨k - 1, by omega⟩
    simp only [compositorref03_UpdateCRC32.l0]
    rw [if_neg (by omega), List.drop_of_length_le (by omega)]
    exact congrArg some (inv32_cast s hs)
  | succ d ih =>
    intro k s i hs h0 h1 hd hk
    obtain ⟨k, rfl⟩ : ∃ m, k = m + 1 := ⟨k - 1, by omega⟩
    have hlt : i < (l.length : Int) := by omega
    have hm : rd l i ∈ l := by
      unfold rd
      rw [List.getD_eq_getElem?_getD, List.getElem?_eq_getElem (by omega : i.toNat < l.length)]
      exact List.getElem_mem _
    have hc := hb _ hm
    simp only [compositorref03_UpdateCRC32.l0]
    rw [if_pos hlt, if_pos h0, drop_rd l i h0 hlt]
    have e : rd l i % 4294967296 = (((rd l i).toNat : Nat) : Int) := by omega
    rw [e, u32_xor_nat _ _ hs (by omega)]
    refine ref_l1 l i _ (k - 9) 8 (s ^^^ (rd l i).toNat) 0 (xor_lt _ _ hs (by omega)) (by omega) ?_ k (by omega)
    intro k' hk'
    rw [ix h0 hlt hn, ih k' (nitr 8 (s ^^^ (rd l i).toNat)) (i + 1) (nitr_lt 8 _ (xor_lt _ _ hs (by omega))) (by omega) (by omega) (by omega) (by omega)]
    rfl
theorem ref_crc (a : Nat) (l : List Int) (ha : a < 4294967296) (hn : l.length ≤ 140737488351232) (h : ∀ x ∈ l, 0 ≤ x ∧ x < 256) (k : Nat) (hk : 10 * l.length < k) : compositorref03_UpdateCRC32.f k (a : Int) l = some (crcN a (nats l) : Int) := by
  unfold compositorref03_UpdateCRC32.f
  rw [show Go.bits .xor .u32 IntKind.u32.max (a : Int) = ((4294967295 ^^^ a : Nat) : Int) from inv32_cast a ha]
  exact refcrc_l0 l hn h l.length k _ 0 (xor_lt _ _ (by omega) ha) (by omega) (by omega) (by omega) hk
theorem refcrc32_f (l : List Int) (hn : l.length ≤ 140737488351232) (h : ∀ x ∈ l, 0 ≤ x ∧ x < 256) (k : Nat) (hk : 10 * l.length < k) : compositorref03_CRC32.f k l = some (crcN 0 (nats l) : Int) := by
  unfold compositorref03_CRC32.f
  rw [show (0 : Int) = ((0 : Nat) : Int) from rfl, ref_crc 0 l (by omega) hn h k hk]
  rfl
end Go.Proofs.Ytgabllnijkodbaa.Plain
