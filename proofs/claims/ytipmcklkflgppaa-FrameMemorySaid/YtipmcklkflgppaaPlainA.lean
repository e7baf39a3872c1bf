import Derived.Test.YtipmcklkflgppaaQx2
import Derived.Test.YtipmcklkflgppaaQx4
import Derived.Test.YtipmcklkflgppaaQx7
import Derived.Test.YtipmcklkflgppaaQx10
import Derived.Test.YtipmcklkflgppaaQx11
/- Plain facts on Put, Split and the comparison of frames, the program's and the reference's. -/
namespace Go.Proofs.Ytipmcklkflgppaa.Plain
open Go.RowKit Go.Proofs.Ytipmcklkflgppaa.Q Go.Proofs.Ytipmcklkflgppaa.Hand Go.Proofs.YtipmcklkflgppaaW.PrintWords Go.Proofs.YtipmcklkflgppaaW.PrintLast

theorem b8 {x : Int} (h : (Lit.int .u8 x).wf = true) : 0 ≤ x ∧ x < 256 := by
  simp [Lit.wf, IntKind.min, IntKind.max, IntKind.signed, IntKind.bits] at h
  omega
theorem str_inj (l m : List Int) (hl : ∀ x ∈ l, 0 ≤ x ∧ x < 256) (hm : ∀ x ∈ m, 0 ≤ x ∧ x < 256) : (strOfNums l).toList = (strOfNums m).toList ↔ l = m := by
  constructor
  · intro h
    have h2 : l.map (fun n => UInt8.ofNat n.toNat) = m.map (fun n => UInt8.ofNat n.toNat) := by
      have e : ∀ xs : List Int, (strOfNums xs).toList = xs.map fun n => UInt8.ofNat n.toNat := by
        intro xs
        simp [strOfNums, ByteArray.toList_eq]
      rw [e, e] at h
      exact h
    have hlen : l.length = m.length := by have := congrArg List.length h2; simpa using this
    refine List.ext_getElem hlen fun i h3 h4 => ?_
    have h5 := congrArg (fun z => z[i]?) h2
    simp only [List.getElem?_map, List.getElem?_eq_getElem h3, List.getElem?_eq_getElem h4, Option.map_some, Option.some.injEq] at h5
    have h6 := congrArg UInt8.toNat h5
    have a := hl _ (List.getElem_mem h3)
    have b := hm _ (List.getElem_mem h4)
    simp only [UInt8.toNat_ofNat'] at h6
    omega
  · intro h; rw [h]
theorem or_join (p : Nat) (x y : Int) (h1 : 0 ≤ x) (h2 : 0 ≤ y) (h3 : y < ((2 ^ p : Nat) : Int)) (h4 : x * ((2 ^ p : Nat) : Int) + y < 4294967296) :
    Go.bits .or .u32 y (x * ((2 ^ p : Nat) : Int)) = x * ((2 ^ p : Nat) : Int) + y ∧ Go.bits .or .u32 (x * ((2 ^ p : Nat) : Int)) y = x * ((2 ^ p : Nat) : Int) + y := by
  have h5 : 0 ≤ x * ((2 ^ p : Nat) : Int) := Int.mul_nonneg h1 (Int.natCast_nonneg _)
  have key : ((x * ((2 ^ p : Nat) : Int)).toNat ||| y.toNat) = (x * ((2 ^ p : Nat) : Int)).toNat + y.toNat := by
    obtain ⟨X, rfl⟩ := Int.eq_ofNat_of_zero_le h1
    obtain ⟨Y, rfl⟩ := Int.eq_ofNat_of_zero_le h2
    have e : ((X : Int) * ((2 ^ p : Nat) : Int)).toNat = 2 ^ p * X := by
      rw [← Int.natCast_mul, Int.toNat_natCast, Nat.mul_comm]
    rw [e, Int.toNat_natCast]
    exact (Nat.two_pow_add_eq_or_of_lt (by omega) X).symm
  constructor
  · rw [u32_or _ _ h2 (by omega) h5 (by omega), Nat.or_comm, key]
    omega
  · rw [u32_or _ _ h5 (by omega) h2 (by omega), key]
    omega
theorem and_low (a : Int) (h1 : 0 ≤ a) (h2 : a < 4294967296) : Go.bits .and .u32 a 65535 = a % 65536 := by
  rw [u32_and a 65535 h1 h2 (by omega) (by omega)]
  have : a.toNat &&& (65535 : Int).toNat = a.toNat % 65536 := Nat.and_two_pow_sub_one_eq_mod a.toNat 16
  rw [this]
  omega
theorem wr (x : Int) (h : -9223372036854775808 ≤ x) (h2 : x < 9223372036854775808) : wrap64 x = x := by unfold wrap64; omega

theorem rd_range {l : List Int} (h : ∀ x ∈ l, 0 ≤ x ∧ x < 256) (i : Int) : 0 ≤ rd l i ∧ rd l i < 256 := by
  unfold rd
  rw [List.getD_eq_getElem?_getD]
  cases e : l[i.toNat]? with
  | none => simp
  | some x => exact h x (List.mem_of_getElem? e)
/-- The number at place i, little-endian. -/
def num (l : List Int) (i : Int) : Int := rd l i + 256 * rd l (i + 1) + 65536 * rd l (i + 2) + 16777216 * rd l (i + 3)
theorem num_range {l : List Int} (h : ∀ x ∈ l, 0 ≤ x ∧ x < 256) (i : Int) : 0 ≤ num l i ∧ num l i < 4294967296 := by
  have := rd_range h i
  have := rd_range h (i + 1)
  have := rd_range h (i + 2)
  have := rd_range h (i + 3)
  unfold num
  omega
theorem word_num {l : List Int} (h : ∀ x ∈ l, 0 ≤ x ∧ x < 256) (i : Int) : word l i = num l i := by
  have h0 := rd_range h i
  have h1 := rd_range h (i + 1)
  have h2 := rd_range h (i + 2)
  have h3 := rd_range h (i + 3)
  unfold word num
  generalize rd l i = a at *
  generalize rd l (i + 1) = b at *
  generalize rd l (i + 2) = c at *
  generalize rd l (i + 3) = d at *
  rw [show a % 4294967296 = a by omega, show b % 4294967296 * 256 % 4294967296 = b * 256 by omega, show c % 4294967296 * 65536 % 4294967296 = c * 65536 by omega, show d % 4294967296 * 16777216 % 4294967296 = d * 16777216 by omega]
  have j1 := (or_join 8 b a (by omega) (by omega) (by omega) (by omega)).1
  rw [show ((2 ^ 8 : Nat) : Int) = 256 by decide] at j1
  rw [j1]
  have j2 := (or_join 16 c (b * 256 + a) (by omega) (by omega) (by omega) (by omega)).1
  rw [show ((2 ^ 16 : Nat) : Int) = 65536 by decide] at j2
  rw [j2]
  have j3 := (or_join 24 d (c * 65536 + (b * 256 + a)) (by omega) (by omega) (by omega) (by omega)).1
  rw [show ((2 ^ 24 : Nat) : Int) = 16777216 by decide] at j3
  rw [j3]
  omega
theorem number_num {l : List Int} (h : ∀ x ∈ l, 0 ≤ x ∧ x < 256) (hl : l.length ≤ 140737488351232) (i : Int) (h0 : 0 ≤ i) (h1 : i + 4 ≤ l.length) : compositorref02_number.f l i = some (num l i) := by
  have r0 := rd_range h i
  have r1 := rd_range h (i + 1)
  have r2 := rd_range h (i + 2)
  have r3 := rd_range h (i + 3)
  unfold compositorref02_number.f num
  rw [wr (i + 1) (by omega) (by omega), wr (i + 2) (by omega) (by omega), wr (i + 3) (by omega) (by omega)]
  rw [if_pos (by omega), if_pos (by omega), if_pos (by omega), if_pos (by omega), if_pos (by omega), if_pos (by omega), if_pos (by omega), if_pos (by omega)]
  congr 1
  generalize rd l i = a at *
  generalize rd l (i + 1) = b at *
  generalize rd l (i + 2) = c at *
  generalize rd l (i + 3) = d at *
  clear h h0 h1 hl
  unfold wrap64
  omega

/-! ### Put -/
def quad (n : Int) : List Int := [n % 256, (n / 256) % 256, (n / 65536) % 256, (n / 16777216) % 256]
theorem quad_byte (n : Int) : ∀ x ∈ quad n, 0 ≤ x ∧ x < 256 := by
  intro x hx
  simp only [quad, List.mem_cons, List.not_mem_nil, or_false] at hx
  omega
def putS (o c : Int) (b : List Int) : List Int × Int :=
  if c < 0 ∨ c > 65535 then ([], 6) else if (b.length : Int) % 4 ≠ 0 then ([], 2) else if (b.length : Int) > 4088 then ([], 5) else (quad o ++ quad ((8 + b.length) * 65536 + c) ++ b, 0)
theorem put_f (l : List Int) (n : Int) (hl : l.length < 1000) : frame_put.f l n = some (l ++ quad n) := by
  unfold frame_put.f
  simp only [Option.bind_some, List.length_cons, List.length_nil]
  rw [if_pos (by omega)]
  rfl
theorem Put_f (o c : Int) (b : List Int) (hb : b.length < 1000000) (k : Nat) (hk : 0 < k) : frame_Put.f k o c b = some (putS o c b) := by
  obtain ⟨k, rfl⟩ : ∃ m, k = m + 1 := ⟨k - 1, by omega⟩
  unfold frame_Put.f putS
  by_cases c1 : c < 0
  · rw [if_pos c1, if_pos (.inl c1)]
    rfl
  rw [if_neg c1]
  by_cases c2 : c > 65535
  · rw [if_pos (.inr c2), decide_eq_true c2]
    rfl
  rw [if_neg (by omega), decide_eq_false c2]
  simp only [frame_Put.j0]
  rw [if_neg (by simp)]
  by_cases c3 : (b.length : Int) % 4 = 0
  · rw [if_pos c3, if_neg (show ¬ ((b.length : Int) % 4 ≠ 0) by omega)]
    by_cases c4 : (b.length : Int) > 4088
    · rw [if_pos c4, if_pos c4]
    · rw [if_neg c4, if_neg c4, put_f [] o (by simp), Option.bind_some, put_f _ _ (by simp [quad]), Option.bind_some, if_pos (by simp [quad]; omega)]
      have e : Go.bits .or .u32 (wrap64 (8 + (b.length : Int)) % 4294967296 * 65536 % 4294967296) (c % 4294967296) = (8 + (b.length : Int)) * 65536 + c := by
        rw [wr _ (by omega) (by omega), show (8 + (b.length : Int)) % 4294967296 * 65536 % 4294967296 = (8 + (b.length : Int)) * 65536 by omega, show c % 4294967296 = c by omega]
        have j := (or_join 16 (8 + (b.length : Int)) c (by omega) (by omega) (by omega) (by omega)).2
        rw [show ((2 ^ 16 : Nat) : Int) = 65536 by decide] at j
        exact j
      rw [e]
      rfl
  · rw [if_neg c3, if_pos c3]
theorem refput_f (l : List Int) (n : Int) (h0 : 0 ≤ n) (h1 : n < 4294967296) (hl : l.length < 1000) (k : Nat) (hk : 5 < k) : compositorref02_put.f k l n = some (l ++ quad n) := by
  obtain ⟨k, rfl⟩ : ∃ m, k = m + 5 := ⟨k - 5, by omega⟩
  unfold compositorref02_put.f
  have w1 : ∀ x : Int, 0 ≤ x → x < 4294967296 → wrap64 (Int.tdiv x 256) = x / 256 := fun x a b => by
    rw [Int.tdiv_eq_ediv_of_nonneg a, wr _ (by omega) (by omega)]
  have w2 : ∀ x : Int, 0 ≤ x → (Int.tmod x 256) % 256 = x % 256 := fun x a => by
    rw [Int.tmod_eq_emod_of_nonneg a]; omega
  simp only [compositorref02_put.l0]
  rw [wr (0 + 1) (by omega) (by omega), show (0 : Int) + 1 = 1 from rfl, wr (1 + 1) (by omega) (by omega), show (1 : Int) + 1 = 2 from rfl, wr (2 + 1) (by omega) (by omega), show (2 : Int) + 1 = 3 from rfl, wr (3 + 1) (by omega) (by omega), show (3 : Int) + 1 = 4 from rfl]
  rw [w1 n h0 h1, w1 (n / 256) (by omega) (by omega), w1 (n / 256 / 256) (by omega) (by omega), w2 n h0, w2 (n / 256) (by omega), w2 (n / 256 / 256) (by omega), w2 (n / 256 / 256 / 256) (by omega)]
  simp only [List.length_append, List.length_cons, List.length_nil]
  rw [if_pos (by omega), if_pos (by omega), if_pos (by omega), if_pos (by omega), if_pos (by omega), if_pos (by omega), if_pos (by omega), if_pos (by omega), if_neg (by omega)]
  simp only [quad, List.append_assoc, List.cons_append, List.nil_append]
  rw [show n / 256 / 256 = n / 65536 by omega, show n / 65536 / 256 = n / 16777216 by omega]
theorem refPut_f (o c : Int) (b : List Int) (h0 : 0 ≤ o) (h1 : o < 4294967296) (hb : b.length < 1000000) (k : Nat) (hk : 10 < k) : compositorref02_Put.f k o c b = some (putS o c b) := by
  obtain ⟨k, rfl⟩ : ∃ m, k = m + 1 := ⟨k - 1, by omega⟩
  unfold compositorref02_Put.f putS
  by_cases c1 : c < 0
  · rw [if_pos c1, if_pos (.inl c1)]
    rfl
  rw [if_neg c1]
  by_cases c2 : c > 65535
  · rw [if_pos (.inr c2), decide_eq_true c2]
    rfl
  rw [if_neg (by omega), decide_eq_false c2]
  simp only [compositorref02_Put.j0]
  rw [if_neg (by simp), wr (8 + (b.length : Int)) (by omega) (by omega)]
  by_cases c3 : (b.length : Int) % 4 = 0
  · rw [if_pos c3, if_neg (show ¬ ((b.length : Int) % 4 ≠ 0) by omega)]
    by_cases c4 : (b.length : Int) > 4088
    · rw [if_pos (by omega), if_pos c4]
    · rw [if_neg (by omega), if_neg c4, wr o (by omega) (by omega), refput_f [] o h0 h1 (by simp) _ (by omega), Option.bind_some, wr ((8 + (b.length : Int)) * 65536) (by omega) (by omega), wr _ (by omega) (by omega),
        refput_f _ _ (by omega) (by omega) (by simp [quad]) _ (by omega), Option.bind_some, if_pos (by simp [quad]; omega)]
      rfl
  · rw [if_neg c3, if_pos c3]

/-! ### Split -/
theorem slice_len (l : List Int) (a b : Int) (h0 : 0 ≤ a) (h1 : a ≤ b) (h2 : b ≤ l.length) : ((l.take b.toNat).drop a.toNat).length = b.toNat - a.toNat := by
  rw [List.length_drop, List.length_take]
  omega
/-- One frame at place t. -/
def frameAt (l : List Int) (t : Int) : S25 := ⟨num l t, num l (t + 4) % 65536, (l.take (t + num l (t + 4) / 65536).toNat).drop (t + 8).toNat⟩
/-- What Split answers from place t on, with n rounds at most. -/
def splitS (l : List Int) : Nat → List S25 → Int → List S25 × Int × Int
  | 0, fs, t => (fs, t, 0)
  | n + 1, fs, t =>
    if t + 8 ≤ (l.length : Int) then
      if num l (t + 4) / 65536 < 8 ∨ (num l (t + 4) / 65536) % 4 ≠ 0 then (fs, t, 3)
      else if num l (t + 4) / 65536 > 4096 then (fs, t, 5)
      else if (l.length : Int) - t < num l (t + 4) / 65536 then (fs, t, 0)
      else splitS l n (fs ++ [frameAt l t]) (t + num l (t + 4) / 65536)
    else (fs, t, 0)
theorem split_l {l : List Int} (h : ∀ x ∈ l, 0 ≤ x ∧ x < 256) (hl : l.length ≤ 1000000) : ∀ (n : Nat) (fs : List S25) (t : Int), 0 ≤ t → t ≤ l.length → (fs.length : Int) ≤ t → (l.length : Int) - t < n →
    frame_Split.l0 n l fs t = some (splitS l n fs t) := by
  intro n
  induction n with
  | zero => intro fs t h0 h1 h2 h3; omega
  | succ n ih =>
    intro fs t h0 h1 h2 h3
    have hr := num_range h (t + 4)
    simp only [frame_Split.l0, splitS]
    rw [word_num h, word_num h]
    by_cases c1 : t + 8 ≤ (l.length : Int)
    · rw [if_pos c1, if_pos c1]
      by_cases c2 : num l (t + 4) / 65536 < 8 ∨ num l (t + 4) / 65536 % 4 ≠ 0
      · rw [if_pos c2, if_pos c2]
      rw [if_neg c2, if_neg c2]
      by_cases c3 : num l (t + 4) / 65536 > 4096
      · rw [if_pos c3, if_pos c3]
      rw [if_neg c3, if_neg c3]
      by_cases c4 : (l.length : Int) - t < num l (t + 4) / 65536
      · rw [if_pos c4, if_pos c4]
      rw [if_neg c4, if_neg c4, if_pos (by omega), and_low _ hr.1 hr.2, wr _ (by omega) (by omega)]
      exact ih _ _ (by omega) (by omega) (by rw [List.length_append, List.length_cons, List.length_nil]; omega) (by omega)
    · rw [if_neg c1, if_neg c1]
theorem refsplit_l {l : List Int} (h : ∀ x ∈ l, 0 ≤ x ∧ x < 256) (hl : l.length ≤ 1000000) : ∀ (n : Nat) (fs : List S25) (t : Int), 0 ≤ t → t ≤ l.length → (fs.length : Int) ≤ t → (l.length : Int) - t < n →
    ∀ k, 2 * n ≤ k → compositorref02_Split.l0 k l fs t = some (splitS l n fs t) := by
  intro n
  induction n with
  | zero => intro fs t h0 h1 h2 h3; omega
  | succ n ih =>
    intro fs t h0 h1 h2 h3 k hk
    obtain ⟨k, rfl⟩ : ∃ m, k = m + 2 := ⟨k - 2, by omega⟩
    have hr := num_range h (t + 4)
    have hr0 := num_range h t
    simp only [compositorref02_Split.l0, splitS]
    rw [wr ((l.length : Int) - t) (by omega) (by omega), wr (t + 4) (by omega) (by omega)]
    by_cases c1 : t + 8 ≤ (l.length : Int)
    · rw [if_pos (by omega), if_pos c1, number_num h (by omega) (t + 4) (by omega) (by omega), Option.bind_some]
      rw [Int.tdiv_eq_ediv_of_nonneg hr.1, wr _ (by omega) (by omega), Int.tmod_eq_emod_of_nonneg (by omega)]
      have e : ∀ c, (if num l (t + 4) / 65536 < 8 then compositorref02_Split.j1 (k + 1) l fs t (num l (t + 4) / 65536) true else compositorref02_Split.j1 (k + 1) l fs t (num l (t + 4) / 65536) (num l (t + 4) / 65536 % 4 != 0)) = c ↔ compositorref02_Split.j1 (k + 1) l fs t (num l (t + 4) / 65536) (decide (num l (t + 4) / 65536 < 8 ∨ num l (t + 4) / 65536 % 4 ≠ 0)) = c := by
        intro c
        by_cases c2 : num l (t + 4) / 65536 < 8
        · rw [if_pos c2, decide_eq_true (.inl c2)]
        · rw [if_neg c2]
          by_cases c3 : num l (t + 4) / 65536 % 4 = 0
          · rw [decide_eq_false (by omega), bne_eq_false_iff_eq.2 c3]
          · rw [decide_eq_true (by omega), bne_iff_ne.2 c3]
      rw [e]
      clear e
      simp only [compositorref02_Split.j1]
      by_cases c2 : num l (t + 4) / 65536 < 8 ∨ num l (t + 4) / 65536 % 4 ≠ 0
      · rw [decide_eq_true c2, if_pos rfl, if_pos c2]
      rw [decide_eq_false c2, if_neg (by simp), if_neg c2]
      by_cases c3 : num l (t + 4) / 65536 > 4096
      · rw [if_pos c3, if_pos c3]
      rw [if_neg c3, if_neg c3]
      rw [wr ((l.length : Int) - t) (by omega) (by omega)]
      by_cases c4 : (l.length : Int) - t < num l (t + 4) / 65536
      · rw [if_pos c4, if_pos c4]
      rw [if_neg c4, if_neg c4, wr (t + 8) (by omega) (by omega), wr (t + num l (t + 4) / 65536) (by omega) (by omega)]
      rw [if_pos (by omega), if_pos (by omega), if_pos (by omega), if_pos (by rw [List.length_nil, slice_len l _ _ (by omega) (by omega) (by omega)]; omega)]
      rw [number_num h (by omega) t (by omega) (by omega), Option.bind_some, wr (t + 4) (by omega) (by omega), number_num h (by omega) (t + 4) (by omega) (by omega), Option.bind_some, if_pos (by omega)]
      rw [List.nil_append, Int.tmod_eq_emod_of_nonneg hr.1, show num l t % 4294967296 = num l t by omega]
      exact ih _ _ (by omega) (by omega) (by rw [List.length_append, List.length_cons, List.length_nil]; omega) (by omega) k (by omega)
    · rw [if_neg (by omega), if_neg c1]
theorem Split_f {l : List Int} (h : ∀ x ∈ l, 0 ≤ x ∧ x < 256) (hl : l.length ≤ 1000000) (k : Nat) (hk : l.length < k) : frame_Split.f k l = some (splitS l k [] 0) :=
  split_l h hl k [] 0 (Int.le_refl _) (by omega) (by simp) (by omega)
theorem refSplit_f {l : List Int} (h : ∀ x ∈ l, 0 ≤ x ∧ x < 256) (hl : l.length ≤ 1000000) (n : Nat) (hn : l.length < n) (k : Nat) (hk : 2 * n ≤ k) : compositorref02_Split.f k l = some (splitS l n [] 0) :=
  refsplit_l h hl n [] 0 (Int.le_refl _) (by omega) (by simp) (by omega) k hk
/-- More rounds tell the same. -/
theorem splitS_more {l : List Int} (h : ∀ x ∈ l, 0 ≤ x ∧ x < 256) : ∀ (n : Nat) (fs : List S25) (t : Int), 0 ≤ t → t ≤ l.length → (l.length : Int) - t < n → ∀ m, n ≤ m → splitS l m fs t = splitS l n fs t := by
  intro n
  induction n with
  | zero => intro fs t h0 h1 h3; omega
  | succ n ih =>
    intro fs t h0 h1 h3 m hm
    obtain ⟨m, rfl⟩ : ∃ q, m = q + 1 := ⟨m - 1, by omega⟩
    have hr := num_range h (t + 4)
    simp only [splitS]
    by_cases c1 : t + 8 ≤ (l.length : Int)
    · rw [if_pos c1, if_pos c1]
      by_cases c2 : num l (t + 4) / 65536 < 8 ∨ num l (t + 4) / 65536 % 4 ≠ 0
      · rw [if_pos c2, if_pos c2]
      rw [if_neg c2, if_neg c2]
      by_cases c3 : num l (t + 4) / 65536 > 4096
      · rw [if_pos c3, if_pos c3]
      rw [if_neg c3, if_neg c3]
      by_cases c4 : (l.length : Int) - t < num l (t + 4) / 65536
      · rw [if_pos c4, if_pos c4]
      rw [if_neg c4, if_neg c4]
      exact ih _ _ (by omega) (by omega) (by omega) m (by omega)
    · rw [if_neg c1, if_neg c1]
theorem splitS_len {l : List Int} (h : ∀ x ∈ l, 0 ≤ x ∧ x < 256) : ∀ (n : Nat) (fs : List S25) (t : Int), 0 ≤ t → t ≤ l.length → (fs.length : Int) ≤ t → ((splitS l n fs t).1.length : Int) ≤ l.length := by
  intro n
  induction n with
  | zero => intro fs t h0 h1 h2; simp only [splitS]; omega
  | succ n ih =>
    intro fs t h0 h1 h2
    have hr := num_range h (t + 4)
    simp only [splitS]
    by_cases c1 : t + 8 ≤ (l.length : Int)
    · rw [if_pos c1]
      by_cases c2 : num l (t + 4) / 65536 < 8 ∨ num l (t + 4) / 65536 % 4 ≠ 0
      · rw [if_pos c2]; simp only; omega
      rw [if_neg c2]
      by_cases c3 : num l (t + 4) / 65536 > 4096
      · rw [if_pos c3]; simp only; omega
      rw [if_neg c3]
      by_cases c4 : (l.length : Int) - t < num l (t + 4) / 65536
      · rw [if_pos c4]; simp only; omega
      rw [if_neg c4]
      exact ih _ _ (by omega) (by omega) (by rw [List.length_append, List.length_cons, List.length_nil]; omega)
    · rw [if_neg c1]; simp only; omega

/-! ### the comparison -/
theorem same_l (l : List S25) (hl : l.length ≤ 1000000) : ∀ (d : Nat) (i : Int) (k : Nat), 0 ≤ i → i + d = l.length → d < k → compositorlaw02_same.l0 k l l (l.length : Int) i = some true := by
  intro d
  induction d with
  | zero =>
    intro i k h0 h1 hk
    obtain ⟨k, rfl⟩ : ∃ m, k = m + 1 := ⟨k - 1, by omega⟩
    simp only [compositorlaw02_same.l0]
    rw [if_neg (by omega)]
  | succ d ih =>
    intro i k h0 h1 hk
    obtain ⟨k, rfl⟩ : ∃ m, k = m + 1 := ⟨k - 1, by omega⟩
    simp only [compositorlaw02_same.l0, if_true]
    rw [if_pos (by omega), if_pos h0, if_pos (by omega), if_pos (by omega), wr (i + 1) (by omega) (by omega)]
    exact ih _ _ (by omega) (by omega) (by omega)
theorem same_f (l : List S25) (hl : l.length ≤ 1000000) (k : Nat) (hk : l.length < k) : compositorlaw02_same.f k l l = some true := by
  unfold compositorlaw02_same.f
  rw [if_pos rfl]
  exact same_l l hl l.length 0 k (Int.le_refl _) (by omega) (by omega)
end Go.Proofs.Ytipmcklkflgppaa.Plain
