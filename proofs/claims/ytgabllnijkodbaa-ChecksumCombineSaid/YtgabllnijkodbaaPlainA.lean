import Derived.Test.YtgabllnijkodbaaQx14
/- Plain facts on the Adler-32 functions: each loop comes to one fold over the bytes. -/
namespace Go.Proofs.Ytgabllnijkodbaa.Plain
open Go.RowKit Go.Proofs.Ytgabllnijkodbaa.Q Go.Proofs.Ytgabllnijkodbaa.Hand Go.Proofs.YtgabllnijkodbaaW.PrintWords Go.Proofs.YtgabllnijkodbaaW.PrintLast

theorem b8 {x : Int} (h : (Lit.int .u8 x).wf = true) : 0 ≤ x ∧ x < 256 := by
  simp [Lit.wf, IntKind.min, IntKind.max, IntKind.signed, IntKind.bits] at h
  omega
theorem b16 {x : Int} (h : (Lit.int .u16 x).wf = true) : 0 ≤ x ∧ x < 65536 := by
  simp [Lit.wf, IntKind.min, IntKind.max, IntKind.signed, IntKind.bits] at h
  omega
theorem b32 {x : Int} (h : (Lit.int .u32 x).wf = true) : 0 ≤ x ∧ x < 4294967296 := by
  simp [Lit.wf, IntKind.min, IntKind.max, IntKind.signed, IntKind.bits] at h
  omega
theorem b64 {x : Int} (h : (Lit.int .i64 x).wf = true) : -9223372036854775808 ≤ x ∧ x ≤ 9223372036854775807 := by
  simp [Lit.wf, IntKind.min, IntKind.max, IntKind.signed, IntKind.bits] at h
  omega
theorem ix {i : Int} {n : Nat} (h0 : 0 ≤ i) (h : i < (n : Int)) (hn : n ≤ 140737488351232) : wrap64 (i + 1) = i + 1 := by
  unfold wrap64
  omega
theorem drop_cons {α : Type} (l : List α) (z : α) (i : Int) (h0 : 0 ≤ i) (h : i < (l.length : Int)) : l.drop i.toNat = l.getD i.toNat z :: l.drop (i + 1).toNat := by
  have hl : i.toNat < l.length := by omega
  rw [List.drop_eq_getElem_cons hl, show (i + 1).toNat = i.toNat + 1 by omega]
  simp [List.getD_eq_getElem?_getD, List.getElem?_eq_getElem hl]
theorem drop_rd (l : List Int) (i : Int) (h0 : 0 ≤ i) (h : i < (l.length : Int)) : l.drop i.toNat = rd l i :: l.drop (i + 1).toNat := drop_cons l 0 i h0 h

/-- One byte's step on both sums. -/
def ast (s : Int × Int) (c : Int) : Int × Int := (((s.1 + (c % 4294967296)) % 4294967296) % 65521, ((s.2 + (((s.1 + (c % 4294967296)) % 4294967296) % 65521)) % 4294967296) % 65521)
def afold (s : Int × Int) (l : List Int) : Int × Int := l.foldl ast s
theorem ast_range (s : Int × Int) (c : Int) : (0 ≤ (ast s c).1 ∧ (ast s c).1 < 65521) ∧ 0 ≤ (ast s c).2 ∧ (ast s c).2 < 65521 := by
  unfold ast
  dsimp only
  omega
theorem afold_range (s : Int × Int) (h : (0 ≤ s.1 ∧ s.1 < 65521) ∧ 0 ≤ s.2 ∧ s.2 < 65521) (l : List Int) : (0 ≤ (afold s l).1 ∧ (afold s l).1 < 65521) ∧ 0 ≤ (afold s l).2 ∧ (afold s l).2 < 65521 := by
  induction l generalizing s with
  | nil => exact h
  | cons c l ih => exact ih (ast s c) (ast_range s c)
def ajoin (s : Int × Int) : Int := s.2 * 65536 + s.1
def apart (a : Int) : Int × Int := (a % 65536 % 65521, a / 65536 % 65521)
/-- The checksum of a sequence, from a checksum on. -/
def adler (a : Int) (l : List Int) : Int := ajoin (afold (apart a) l)

theorem or_join (x y : Int) (h1 : 0 ≤ x) (h2 : x < 65521) (h3 : 0 ≤ y) (h4 : y < 65521) : Go.bits .or .u32 ((x * 65536) % 4294967296) y = x * 65536 + y := by
  have e : (x * 65536) % 4294967296 = x * 65536 := by omega
  rw [e, u32_or _ _ (by omega) (by omega) h3 (by omega)]
  rw [nat_join 16 (x * 65536).toNat y.toNat (by omega) (by omega)]
  omega
theorem and_low (a : Int) (h1 : 0 ≤ a) (h2 : a < 4294967296) : Go.bits .and .u32 a 65535 = a % 65536 := by
  rw [u32_and a 65535 h1 h2 (by omega) (by omega)]
  have : a.toNat &&& (65535 : Int).toNat = a.toNat % 65536 := Nat.and_two_pow_sub_one_eq_mod a.toNat 16
  rw [this]
  omega
theorem apart_range (a : Int) : (0 ≤ (apart a).1 ∧ (apart a).1 < 65521) ∧ 0 ≤ (apart a).2 ∧ (apart a).2 < 65521 := by
  unfold apart
  dsimp only
  omega
theorem apart_join (s : Int × Int) (h : (0 ≤ s.1 ∧ s.1 < 65521) ∧ 0 ≤ s.2 ∧ s.2 < 65521) : apart (ajoin s) = s := by
  obtain ⟨x, y⟩ := s
  dsimp only at h
  unfold apart ajoin
  dsimp only
  refine Prod.ext ?_ ?_
  · dsimp only; omega
  · dsimp only; omega
theorem adler_range (a : Int) (l : List Int) : 0 ≤ adler a l ∧ adler a l < 4294967296 := by
  have := afold_range (apart a) (apart_range a) l
  unfold adler ajoin
  omega
theorem adler_append (a : Int) (l m : List Int) : adler a (l ++ m) = adler (adler a l) m := by
  unfold adler
  rw [apart_join _ (afold_range (apart a) (apart_range a) l)]
  unfold afold
  rw [List.foldl_append]

theorem upd_l0 (l : List Int) (hn : l.length ≤ 140737488351232) (d : Nat) : ∀ (k : Nat) (s1 s2 i : Int), 0 ≤ i → i ≤ l.length → (l.length : Int) - i = d → d < k → (0 ≤ s1 ∧ s1 < 65521) ∧ 0 ≤ s2 ∧ s2 < 65521 →
    checksum_UpdateAdler32.l0 k s1 s2 l (l.length : Int) i = some (ajoin (afold (s1, s2) (l.drop i.toNat))) := by
  induction d with
  | zero =>
    intro k s1 s2 i h0 h1 hd hk hs
    obtain ⟨k, rfl⟩ : ∃ m, k = m + 1 := ⟨k - 1, by omega⟩
    simp only [checksum_UpdateAdler32.l0]
    rw [if_neg (by omega), List.drop_of_length_le (by omega), or_join s2 s1 hs.2.1 hs.2.2 hs.1.1 hs.1.2]
    rfl
  | succ d ih =>
    intro k s1 s2 i h0 h1 hd hk hs
    obtain ⟨k, rfl⟩ : ∃ m, k = m + 1 := ⟨k - 1, by omega⟩
    have hlt : i < (l.length : Int) := by omega
    simp only [checksum_UpdateAdler32.l0]
    rw [if_pos hlt, if_pos h0, if_pos hlt, ix h0 hlt hn, drop_rd l i h0 hlt]
    exact ih k _ _ (i + 1) (by omega) (by omega) (by omega) (by omega) (ast_range (s1, s2) (rd l i))
theorem ref_l0 (l : List Int) (hn : l.length ≤ 140737488351232) (d : Nat) : ∀ (k : Nat) (s1 s2 i : Int), 0 ≤ i → i ≤ l.length → (l.length : Int) - i = d → d < k → (0 ≤ s1 ∧ s1 < 65521) ∧ 0 ≤ s2 ∧ s2 < 65521 →
    compositorref03_UpdateAdler32.l0 k l s1 s2 i = some (ajoin (afold (s1, s2) (l.drop i.toNat))) := by
  induction d with
  | zero =>
    intro k s1 s2 i h0 h1 hd hk hs
    obtain ⟨k, rfl⟩ : ∃ m, k = m + 1 := ⟨k - 1, by omega⟩
    simp only [compositorref03_UpdateAdler32.l0]
    rw [if_neg (by omega), List.drop_of_length_le (by omega)]
    refine congrArg some ?_
    show _ = s2 * 65536 + s1
    omega
  | succ d ih =>
    intro k s1 s2 i h0 h1 hd hk hs
    obtain ⟨k, rfl⟩ : ∃ m, k = m + 1 := ⟨k - 1, by omega⟩
    have hlt : i < (l.length : Int) := by omega
    simp only [compositorref03_UpdateAdler32.l0]
    rw [if_pos hlt, if_pos h0, ix h0 hlt hn, drop_rd l i h0 hlt]
    exact ih k _ _ (i + 1) (by omega) (by omega) (by omega) (by omega) (ast_range (s1, s2) (rd l i))
theorem parts_f (a : Int) (h1 : 0 ≤ a) (h2 : a < 4294967296) : checksum_parts.f a = some (apart a) := by
  unfold checksum_parts.f
  rw [and_low a h1 h2, Int.tmod_eq_emod_of_nonneg (by omega), Int.tmod_eq_emod_of_nonneg (by omega)]
  rfl
theorem upd_adler (a : Int) (l : List Int) (h1 : 0 ≤ a) (h2 : a < 4294967296) (hn : l.length ≤ 140737488351232) (k : Nat) (hk : l.length < k) : checksum_UpdateAdler32.f k a l = some (adler a l) := by
  unfold checksum_UpdateAdler32.f
  rw [parts_f a h1 h2, Option.bind_some, upd_l0 l hn l.length k _ _ 0 (by omega) (by omega) (by omega) hk (apart_range a)]
  rfl
theorem ref_adler (a : Int) (l : List Int) (h1 : 0 ≤ a) (h2 : a < 4294967296) (hn : l.length ≤ 140737488351232) (k : Nat) (hk : l.length < k) : compositorref03_UpdateAdler32.f k a l = some (adler a l) := by
  unfold compositorref03_UpdateAdler32.f
  rw [Int.tmod_eq_emod_of_nonneg h1, Int.tmod_eq_emod_of_nonneg (by omega), Int.tdiv_eq_ediv_of_nonneg h1, show a / 65536 % 4294967296 = a / 65536 by omega]
  exact ref_l0 l hn l.length k _ _ 0 (by omega) (by omega) (by omega) hk (apart_range a)
theorem adler32_f (l : List Int) (hn : l.length ≤ 140737488351232) (k : Nat) (hk : l.length < k) : checksum_Adler32.f k l = some (adler 1 l) := by
  unfold checksum_Adler32.f
  rw [upd_adler 1 l (by omega) (by omega) hn k hk]
  rfl
theorem refadler32_f (l : List Int) (hn : l.length ≤ 140737488351232) (k : Nat) (hk : l.length < k) : compositorref03_Adler32.f k l = some (adler 1 l) := by
  unfold compositorref03_Adler32.f
  rw [ref_adler 1 l (by omega) (by omega) hn k hk]
  rfl
theorem ex_f : compositorlaw03_exampleHolds.f = some true := rfl
end Go.Proofs.Ytgabllnijkodbaa.Plain
