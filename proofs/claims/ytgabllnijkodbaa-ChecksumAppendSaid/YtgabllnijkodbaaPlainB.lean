import Derived.Test.YtgabllnijkodbaaPlainA
import Derived.Test.YtgabllnijkodbaaQx15
import Derived.Test.YtgabllnijkodbaaQx16
import Derived.Test.YtgabllnijkodbaaQx25
import Derived.Test.YtgabllnijkodbaaQx26
/- Plain facts on joined, Same and the combination of Adler-32 checksums. -/
namespace Go.Proofs.Ytgabllnijkodbaa.Plain
open Go.RowKit Go.Proofs.Ytgabllnijkodbaa.Q Go.Proofs.Ytgabllnijkodbaa.Hand Go.Proofs.YtgabllnijkodbaaW.PrintWords Go.Proofs.YtgabllnijkodbaaW.PrintLast

theorem joined_f (l m : List Int) (h : l.length + m.length < 140737488355328) : compositorlaw03_joined.f l m = some (l ++ m) := by
  unfold compositorlaw03_joined.f
  simp only [Option.bind_some, List.length_nil, List.nil_append]
  rw [if_pos (by omega), if_pos (by omega)]
theorem rd_eq (l m : List Int) (hlen : l.length = m.length) (h : ∀ i : Int, 0 ≤ i → i < (l.length : Int) → rd l i = rd m i) : l = m := by
  refine List.ext_getElem hlen fun i h1 h2 => ?_
  have := h (i : Int) (by omega) (by omega)
  simpa [rd, List.getD_eq_getElem?_getD, List.getElem?_eq_getElem h1, List.getElem?_eq_getElem h2] using this
theorem same_l0 (l m : List Int) (hlen : l.length = m.length) (hn : l.length ≤ 140737488351232) (d : Nat) : ∀ (k : Nat) (i : Int), 0 ≤ i → i ≤ l.length → (l.length : Int) - i = d → d < k →
    compositorref03_Same.l0 k l m i = some (decide (l.drop i.toNat = m.drop i.toNat)) := by
  induction d with
  | zero =>
    intro k i h0 h1 hd hk
    obtain ⟨k, rfl⟩ : ∃ m, k = m + 1 := ⟨k - 1, by omega⟩
    simp only [compositorref03_Same.l0]
    rw [if_neg (by omega), List.drop_of_length_le (by omega), List.drop_of_length_le (by omega)]
    simp
  | succ d ih =>
    intro k i h0 h1 hd hk
    obtain ⟨k, rfl⟩ : ∃ m, k = m + 1 := ⟨k - 1, by omega⟩
    have hlt : i < (l.length : Int) := by omega
    simp only [compositorref03_Same.l0]
    rw [if_pos hlt, if_pos h0, if_pos (by omega), ix h0 hlt hn, drop_rd l i h0 hlt, drop_rd m i h0 (by omega)]
    by_cases e : rd l i = rd m i
    · rw [if_pos e, ih k (i + 1) (by omega) (by omega) (by omega) (by omega), e]
      simp
    · rw [if_neg e]
      simp [e]
theorem same_f (l m : List Int) (hn : l.length ≤ 140737488351232) (k : Nat) (hk : l.length < k) : compositorref03_Same.f k l m = some (decide (l = m)) := by
  unfold compositorref03_Same.f
  by_cases e : (l.length : Int) = (m.length : Int)
  · rw [if_pos e, same_l0 l m (by omega) hn l.length k 0 (by omega) (by omega) (by omega) hk]
    simp
  · rw [if_neg e]
    have : ¬ l = m := fun h => e (by rw [h])
    simp [this]

/-! The combination -/
def comb (a b n : Int) : Int := ((apart a).2 + (apart b).2 + (max n 0 % 65521) * ((apart a).1 + 65520)) % 65521 * 65536 + ((apart a).1 + (apart b).1 + 65520) % 65521
theorem mul_bound (L X : Int) (h0 : 0 ≤ L) (h1 : L ≤ 65520) (h2 : 0 ≤ X) (h3 : X ≤ 131040) : 0 ≤ L * X ∧ L * X ≤ 8585740800 := by
  refine ⟨Int.mul_nonneg h0 h2, ?_⟩
  have := Int.mul_le_mul h1 h3 h2 (by omega : (0 : Int) ≤ 65520)
  omega
theorem comb_f (a b n : Int) (ha : 0 ≤ a) (ha' : a < 4294967296) (hb : 0 ≤ b) (hb' : b < 4294967296) (hn : n ≤ 9223372036854775807) : checksum_CombineAdler32.f a b n = some (comb a b n) := by
  unfold checksum_CombineAdler32.f comb
  rw [parts_f a ha ha', parts_f b hb hb', Option.bind_some, Option.bind_some]
  have h1 := apart_range a
  have h2 := apart_range b
  generalize apart a = p at h1 ⊢
  generalize apart b = q at h2 ⊢
  obtain ⟨x, y⟩ := p
  obtain ⟨u, v⟩ := q
  dsimp only at h1 h2 ⊢
  have hm : mx n 0 = max n 0 := by unfold mx; split <;> omega
  have hmn : 0 ≤ max n 0 ∧ max n 0 ≤ 9223372036854775807 := by omega
  rw [hm]
  generalize max n 0 = L at hmn ⊢
  rw [show IntKind.u64.wrap L = L by rw [IntKind.wrap_u64]; omega, Int.tmod_eq_emod_of_nonneg hmn.1, show ((x + 65521) % 4294967296 - 1) % 4294967296 = x + 65520 by omega]
  have hP := mul_bound (L % 65521) (x + 65520) (by omega) (by omega) (by omega) (by omega)
  generalize L % 65521 * (x + 65520) = P at hP ⊢
  rw [show IntKind.u64.wrap P = P by rw [IntKind.wrap_u64]; omega, show IntKind.u64.wrap y = y by rw [IntKind.wrap_u64]; omega, show IntKind.u64.wrap v = v by rw [IntKind.wrap_u64]; omega,
    show IntKind.u64.wrap (y + v) = y + v by rw [IntKind.wrap_u64]; omega, show IntKind.u64.wrap (y + v + P) = y + v + P by rw [IntKind.wrap_u64]; omega, Int.tmod_eq_emod_of_nonneg (by omega)]
  rw [show ((((x + u) % 4294967296 + 65521) % 4294967296 - 1) % 4294967296) % 65521 = (x + u + 65520) % 65521 by omega, show (y + v + P) % 65521 % 4294967296 = (y + v + P) % 65521 by omega]
  rw [or_join ((y + v + P) % 65521) ((x + u + 65520) % 65521) (by omega) (by omega) (by omega) (by omega)]
theorem refcomb_f (a b n : Int) (ha : 0 ≤ a) (ha' : a < 4294967296) (hb : 0 ≤ b) (hb' : b < 4294967296) (hn : n ≤ 9223372036854775807) : compositorref03_CombineAdler32.f a b n = some (comb a b n) := by
  unfold compositorref03_CombineAdler32.f comb apart
  dsimp only
  rw [Int.tmod_eq_emod_of_nonneg ha, Int.tmod_eq_emod_of_nonneg hb, Int.tmod_eq_emod_of_nonneg (show 0 ≤ a % 65536 by omega), Int.tmod_eq_emod_of_nonneg (show 0 ≤ b % 65536 by omega), Int.tdiv_eq_ediv_of_nonneg ha, Int.tdiv_eq_ediv_of_nonneg hb,
    show a / 65536 % 4294967296 = a / 65536 by omega, show b / 65536 % 4294967296 = b / 65536 by omega]
  have h1 : 0 ≤ a % 65536 % 65521 ∧ a % 65536 % 65521 < 65521 := by omega
  have h2 : 0 ≤ b % 65536 % 65521 ∧ b % 65536 % 65521 < 65521 := by omega
  have h3 : 0 ≤ a / 65536 % 65521 ∧ a / 65536 % 65521 < 65521 := by omega
  have h4 : 0 ≤ b / 65536 % 65521 ∧ b / 65536 % 65521 < 65521 := by omega
  generalize a % 65536 % 65521 = x at h1 ⊢
  generalize b % 65536 % 65521 = u at h2 ⊢
  generalize a / 65536 % 65521 = y at h3 ⊢
  generalize b / 65536 % 65521 = v at h4 ⊢
  rw [show IntKind.u64.wrap x = x by rw [IntKind.wrap_u64]; omega, show IntKind.u64.wrap u = u by rw [IntKind.wrap_u64]; omega, show IntKind.u64.wrap (x + u) = x + u by rw [IntKind.wrap_u64]; omega,
    show IntKind.u64.wrap (x + u + 65520) = x + u + 65520 by rw [IntKind.wrap_u64]; omega, show IntKind.u64.wrap (x + 65520) = x + 65520 by rw [IntKind.wrap_u64]; omega, Int.tmod_eq_emod_of_nonneg (show 0 ≤ x + u + 65520 by omega)]
  by_cases c : n < 0
  · rw [if_pos c, show max n 0 = 0 by omega]
    rw [show (0 : Int) % 65521 * (x + 65520) = 0 by rw [show (0 : Int) % 65521 = 0 from rfl, Int.zero_mul], show IntKind.u64.wrap 0 = 0 from rfl]
    rw [show IntKind.u64.wrap (y + v + 0) = y + v by rw [IntKind.wrap_u64]; omega, Int.tmod_eq_emod_of_nonneg (show 0 ≤ y + v by omega), show y + v + 0 = y + v by omega]
    rw [show IntKind.u64.wrap ((y + v) % 65521 * 65536) = (y + v) % 65521 * 65536 by rw [IntKind.wrap_u64]; omega]
    refine congrArg some ?_
    rw [IntKind.wrap_u64]
    omega
  · rw [if_neg c, show max n 0 = n by omega, show IntKind.u64.wrap n = n by rw [IntKind.wrap_u64]; omega, Int.tmod_eq_emod_of_nonneg (show 0 ≤ n by omega)]
    have hP := mul_bound (n % 65521) (x + 65520) (by omega) (by omega) (by omega) (by omega)
    generalize n % 65521 * (x + 65520) = P at hP ⊢
    rw [show IntKind.u64.wrap P = P by rw [IntKind.wrap_u64]; omega, show IntKind.u64.wrap (y + v + P) = y + v + P by rw [IntKind.wrap_u64]; omega, Int.tmod_eq_emod_of_nonneg (show 0 ≤ y + v + P by omega)]
    rw [show IntKind.u64.wrap ((y + v + P) % 65521 * 65536) = (y + v + P) % 65521 * 65536 by rw [IntKind.wrap_u64]; omega]
    refine congrArg some ?_
    rw [IntKind.wrap_u64]
    omega

/-! The checksum of a concatenation -/
theorem ast_eq (x y c : Int) (hx : 0 ≤ x) (hx' : x < 65521) (hy : 0 ≤ y) (hy' : y < 65521) (hc : 0 ≤ c) (hc' : c < 256) : ast (x, y) c = ((x + c) % 65521, (y + (x + c) % 65521) % 65521) := by
  unfold ast
  refine Prod.ext ?_ ?_ <;> dsimp only <;> omega
theorem afold_shift : ∀ (m : List Int) (x y u v : Int), (0 ≤ x ∧ x < 65521) → (0 ≤ y ∧ y < 65521) → (0 ≤ u ∧ u < 65521) → (0 ≤ v ∧ v < 65521) → (∀ c ∈ m, 0 ≤ c ∧ c < 256) →
    (∃ q, (afold (x, y) m).1 = (afold (u, v) m).1 + (x - u) + 65521 * q) ∧ ∃ q, (afold (x, y) m).2 = (afold (u, v) m).2 + (y - v) + (m.length : Int) * (x - u) + 65521 * q
  | [], x, y, u, v, _, _, _, _, _ => ⟨⟨0, by simp [afold]; omega⟩, ⟨0, by simp [afold]; omega⟩⟩
  | c :: t, x, y, u, v, hx, hy, hu, hv, h => by
    have hc := h c (by simp)
    obtain ⟨⟨q1, e1⟩, ⟨q2, e2⟩⟩ := afold_shift t ((x + c) % 65521) ((y + (x + c) % 65521) % 65521) ((u + c) % 65521) ((v + (u + c) % 65521) % 65521) (by omega) (by omega) (by omega) (by omega) (fun z hz => h z (by simp [hz]))
    have f1 : afold (x, y) (c :: t) = afold ((x + c) % 65521, (y + (x + c) % 65521) % 65521) t := by
      show afold (ast (x, y) c) t = _
      rw [ast_eq x y c hx.1 hx.2 hy.1 hy.2 hc.1 hc.2]
    have f2 : afold (u, v) (c :: t) = afold ((u + c) % 65521, (v + (u + c) % 65521) % 65521) t := by
      show afold (ast (u, v) c) t = _
      rw [ast_eq u v c hu.1 hu.2 hv.1 hv.2 hc.1 hc.2]
    rw [f1, f2]
    obtain ⟨r, hr⟩ : ∃ r, (x + c) % 65521 - (u + c) % 65521 = (x - u) + 65521 * r := ⟨(u + c) / 65521 - (x + c) / 65521, by omega⟩
    obtain ⟨s, hs⟩ : ∃ s, (y + (x + c) % 65521) % 65521 - (v + (u + c) % 65521) % 65521 = (y - v) + (x - u) + 65521 * s := ⟨r + (v + (u + c) % 65521) / 65521 - (y + (x + c) % 65521) / 65521, by omega⟩
    refine ⟨⟨r + q1, by rw [e1, hr]; omega⟩, ⟨s + q2 + (t.length : Int) * r, ?_⟩⟩
    rw [e2, hr, hs, List.length_cons]
    have e3 : (t.length : Int) * ((x - u) + 65521 * r) = (t.length : Int) * (x - u) + 65521 * ((t.length : Int) * r) := by
      rw [Int.mul_add, Int.mul_left_comm]
    have e4 : ((t.length + 1 : Nat) : Int) * (x - u) = (t.length : Int) * (x - u) + (x - u) := by
      rw [show ((t.length + 1 : Nat) : Int) = (t.length : Int) + 1 by omega, Int.add_mul, Int.one_mul]
    rw [e3, e4]
    omega
theorem adler_concat (l m : List Int) (hm : ∀ c ∈ m, 0 ≤ c ∧ c < 256) : adler 1 (l ++ m) = comb (adler 1 l) (adler 1 m) (m.length : Int) := by
  rw [adler_append]
  unfold comb
  have r1 := afold_range (apart 1) (apart_range 1) l
  have hA : apart (adler 1 l) = afold (apart 1) l := apart_join _ r1
  have hB : apart (adler 1 m) = afold (1, 0) m := apart_join _ (afold_range (apart 1) (apart_range 1) m)
  have r2 := afold_range (1, 0) (by omega) m
  show ajoin (afold (apart (adler 1 l)) m) = _
  rw [hA, hB]
  generalize afold (apart 1) l = p at r1 ⊢
  obtain ⟨x, y⟩ := p
  obtain ⟨⟨q1, e1⟩, ⟨q2, e2⟩⟩ := afold_shift m x y 1 0 r1.1 r1.2 (by omega) (by omega) hm
  have r3 := afold_range (x, y) r1 m
  generalize afold (x, y) m = f at *
  generalize afold (1, 0) m = g at *
  obtain ⟨f1, f2⟩ := f
  obtain ⟨g1, g2⟩ := g
  simp only at e1 e2 r1 r2 r3
  unfold ajoin
  dsimp only
  have hL : max ((m.length : Nat) : Int) 0 = (m.length : Int) := by omega
  rw [hL]
  obtain ⟨t, ht⟩ : ∃ t, (m.length : Int) = (m.length : Int) % 65521 + 65521 * t := ⟨(m.length : Int) / 65521, by omega⟩
  have e5 : (m.length : Int) * (x - 1) = (m.length : Int) % 65521 * (x + 65520) + 65521 * (t * (x - 1) - (m.length : Int) % 65521) := by
    conv => lhs; rw [ht]
    rw [Int.add_mul, show x - 1 = (x + 65520) - 65521 by omega, Int.mul_sub ((m.length : Int) % 65521), Int.mul_assoc, Int.mul_sub 65521]
    omega
  rw [e5] at e2
  have hz : 0 ≤ (g2 + (m.length : Int) % 65521 * (x + 65520)) := by
    have := mul_bound ((m.length : Int) % 65521) (x + 65520) (by omega) (by omega) (by omega) (by omega)
    omega
  generalize (m.length : Int) % 65521 * (x + 65520) = P at *
  generalize t * (x - 1) - (m.length : Int) % 65521 = T at *
  omega

/-! One byte -/
theorem afold_fst : ∀ (l : List Int) (x y : Int), (0 ≤ x ∧ x < 65521) → (0 ≤ y ∧ y < 65521) → (∀ c ∈ l, 0 ≤ c ∧ c < 256) → (afold (x, y) l).1 = (x + l.sum) % 65521
  | [], x, y, hx, _, _ => by simp [afold]; omega
  | c :: t, x, y, hx, hy, h => by
    have hc := h c (by simp)
    show (afold (ast (x, y) c) t).1 = _
    rw [ast_eq x y c hx.1 hx.2 hy.1 hy.2 hc.1 hc.2, afold_fst t _ _ (by omega) (by omega) (fun z hz => h z (by simp [hz])), List.sum_cons]
    omega
theorem sum_set : ∀ (l : List Int) (k : Nat) (v : Int), k < l.length → (l.set k v).sum = l.sum - rd l (k : Int) + v
  | c :: t, 0, v, _ => by simp [rd]; omega
  | c :: t, k + 1, v, h => by
    have := sum_set t k v (by simpa using h)
    simp [rd] at this ⊢
    omega
theorem adler_set (l : List Int) (h : ∀ c ∈ l, 0 ≤ c ∧ c < 256) (k : Nat) (hk : k < l.length) (v : Int) (hv : 0 ≤ v ∧ v < 256) (hne : v ≠ rd l (k : Int)) : adler 1 (l.set k v) ≠ adler 1 l := by
  intro e
  have hr : rd l (k : Int) ∈ l := by
    simp [rd, List.getD_eq_getElem?_getD, List.getElem?_eq_getElem hk]
  have hr := h _ hr
  have hs : ∀ c ∈ l.set k v, 0 ≤ c ∧ c < 256 := by
    intro c hc
    rcases List.mem_or_eq_of_mem_set hc with hc | rfl
    · exact h c hc
    · exact hv
  have a1 := congrArg (fun z => (apart z).1) e
  rw [show apart (adler 1 (l.set k v)) = afold (1, 0) (l.set k v) from apart_join _ (afold_range (apart 1) (apart_range 1) _), show apart (adler 1 l) = afold (1, 0) l from apart_join _ (afold_range (apart 1) (apart_range 1) _),
    afold_fst _ _ _ (by omega) (by omega) hs, afold_fst _ _ _ (by omega) (by omega) h, sum_set l k v hk] at a1
  omega
theorem xor8_ne (a c : Int) (ha : 0 ≤ a ∧ a < 256) (hc : 0 ≤ c ∧ c < 256) (h0 : c ≠ 0) : Go.bits .xor .u8 a c ≠ a ∧ 0 ≤ Go.bits .xor .u8 a c ∧ Go.bits .xor .u8 a c < 256 := by
  refine ⟨?_, bits_u8_range .xor a c⟩
  rw [u8_xor a c ha.1 ha.2 hc.1 hc.2]
  intro e
  have e2 : a.toNat ^^^ c.toNat = a.toNat := by omega
  have e3 : a.toNat ^^^ (a.toNat ^^^ c.toNat) = a.toNat ^^^ a.toNat := by rw [e2]
  rw [← Nat.xor_assoc, Nat.xor_self, Nat.zero_xor] at e3
  omega
end Go.Proofs.Ytgabllnijkodbaa.Plain
