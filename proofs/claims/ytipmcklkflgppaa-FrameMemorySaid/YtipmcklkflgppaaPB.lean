import Derived.Test.YtipmcklkflgppaaPlainA
import Derived.Test.YtipmcklkflgppaaNr
namespace Go.Proofs.Ytipmcklkflgppaa.Q
open Go.RowKit Go.Proofs.YtipmcklkflgppaaW.PrintWords Go.Proofs.YtipmcklkflgppaaW.PrintLast Go.Proofs.YtipmcklkflgppaaW.PrintMore Go.Proofs.Ytipmcklkflgppaa.Sl Go.Proofs.Ytipmcklkflgppaa.Hand Go.Proofs.Ytipmcklkflgppaa.Plain
attribute [local go_sem] max2_int min2_int max_two min_two max_three min_three max_four min_four 
set_option linter.unusedVariables false
set_option linter.unusedSimpArgs false

/-! ### Split as a law on lists -/
theorem rd_drop (l : List Int) (t : Nat) (i : Int) (hi : 0 ≤ i) : rd (l.drop t) i = rd l (t + i) := by
  unfold rd
  rw [List.getD_eq_getElem?_getD, List.getD_eq_getElem?_getD, List.getElem?_drop, show t + i.toNat = ((t : Int) + i).toNat by omega]
theorem rd_app (l m : List Int) (i : Int) (h0 : 0 ≤ i) (hi : i < l.length) : rd (l ++ m) i = rd l i := by
  unfold rd
  rw [List.getD_eq_getElem?_getD, List.getD_eq_getElem?_getD, List.getElem?_append_left (by omega)]
theorem num_drop (l : List Int) (t : Nat) (i : Int) (hi : 0 ≤ i) : num (l.drop t) i = num l (t + i) := by
  unfold num
  rw [rd_drop l t i hi, rd_drop l t _ (by omega), rd_drop l t _ (by omega), rd_drop l t _ (by omega)]
  simp only [Int.add_assoc]
theorem num_app (l m : List Int) (i : Int) (h0 : 0 ≤ i) (hi : i + 4 ≤ l.length) : num (l ++ m) i = num l i := by
  unfold num
  rw [rd_app l m i h0 (by omega), rd_app l m _ (by omega) (by omega), rd_app l m _ (by omega) (by omega), rd_app l m _ (by omega) (by omega)]
/-- The size in a header. -/
def size (l : List Int) : Int := num l 4 / 65536
theorem size_range {l : List Int} (h : ∀ x ∈ l, 0 ≤ x ∧ x < 256) : 0 ≤ size l ∧ size l < 65536 := by
  have := num_range h 4
  unfold size
  omega
def frame1 (l : List Int) : S25 := ⟨num l 0, num l 4 % 65536, (l.take (size l).toNat).drop 8⟩
theorem frameAt_drop (l : List Int) (t : Nat) (h : ∀ x ∈ l, 0 ≤ x ∧ x < 256) : frameAt l t = frame1 (l.drop t) := by
  have e1 : num (l.drop t) 4 = num l (t + 4) := num_drop l t 4 (by omega)
  have e0 : num (l.drop t) 0 = num l t := by rw [num_drop l t 0 (by omega), Int.add_zero]
  have hr := num_range h (t + 4)
  unfold frameAt frame1 size
  rw [e0, e1]
  congr 1
  rw [show ((t : Int) + 8).toNat = t + 8 by omega, show ((t : Int) + num l (t + 4) / 65536).toNat = t + (num l (t + 4) / 65536).toNat by omega, List.take_drop, List.drop_drop]
def spl : Nat → List Int → List S25 × Int × Int
  | 0, _ => ([], 0, 0)
  | n + 1, l =>
    if 8 ≤ l.length then
      if size l < 8 ∨ size l % 4 ≠ 0 then ([], 0, 3)
      else if size l > 4096 then ([], 0, 5)
      else if (l.length : Int) < size l then ([], 0, 0)
      else (frame1 l :: (spl n (l.drop (size l).toNat)).1, size l + (spl n (l.drop (size l).toNat)).2.1, (spl n (l.drop (size l).toNat)).2.2)
    else ([], 0, 0)
theorem bytes_drop {l : List Int} (h : ∀ x ∈ l, 0 ≤ x ∧ x < 256) (t : Nat) : ∀ x ∈ l.drop t, 0 ≤ x ∧ x < 256 := fun x hx => h x (List.mem_of_mem_drop hx)
theorem splitS_spl {l : List Int} (h : ∀ x ∈ l, 0 ≤ x ∧ x < 256) : ∀ (n : Nat) (fs : List S25) (t : Nat), t ≤ l.length →
    splitS l n fs t = (fs ++ (spl n (l.drop t)).1, t + (spl n (l.drop t)).2.1, (spl n (l.drop t)).2.2) := by
  intro n
  induction n with
  | zero => intro fs t ht; simp [splitS, spl]
  | succ n ih =>
    intro fs t ht
    have hs := size_range (bytes_drop h t)
    have e1 : num l (t + 4) / 65536 = size (l.drop t) := by unfold size; rw [num_drop l t 4 (by omega)]
    have hl : (l.drop t).length = l.length - t := List.length_drop
    simp only [splitS, spl]
    rw [e1]
    by_cases c1 : (t : Int) + 8 ≤ (l.length : Int)
    · have k1 : 8 ≤ (l.drop t).length := by omega
      rw [if_pos c1, if_pos k1]
      by_cases c2 : size (l.drop t) < 8 ∨ size (l.drop t) % 4 ≠ 0
      · rw [if_pos c2, if_pos c2]; simp
      rw [if_neg c2, if_neg c2]
      by_cases c3 : size (l.drop t) > 4096
      · rw [if_pos c3, if_pos c3]; simp
      rw [if_neg c3, if_neg c3]
      by_cases c4 : (l.length : Int) - t < size (l.drop t)
      · have k4 : ((l.drop t).length : Int) < size (l.drop t) := by omega
        rw [if_pos c4, if_pos k4]; simp
      have k4 : ¬ ((l.drop t).length : Int) < size (l.drop t) := by omega
      rw [if_neg c4, if_neg k4]
      have e2 : (t : Int) + size (l.drop t) = ((t + (size (l.drop t)).toNat : Nat) : Int) := by omega
      rw [e2, ih _ _ (by omega), frameAt_drop l t h, ← List.drop_drop, List.append_assoc]
      simp only [List.cons_append, List.nil_append]
      congr 2
      omega
    · have k1 : ¬ 8 ≤ (l.drop t).length := by omega
      rw [if_neg c1, if_neg k1]; simp
theorem spl_more {l : List Int} : ∀ (n : Nat), (∀ x ∈ l, 0 ≤ x ∧ x < 256) → l.length < n → ∀ m, n ≤ m → spl m l = spl n l := by
  intro n
  induction n generalizing l with
  | zero => intro h h3; omega
  | succ n ih =>
    intro h h3 m hm
    obtain ⟨m, rfl⟩ : ∃ q, m = q + 1 := ⟨m - 1, by omega⟩
    simp only [spl]
    by_cases c1 : 8 ≤ l.length
    · rw [if_pos c1, if_pos c1]
      by_cases c2 : size l < 8 ∨ size l % 4 ≠ 0
      · rw [if_pos c2, if_pos c2]
      rw [if_neg c2, if_neg c2]
      by_cases c3 : size l > 4096
      · rw [if_pos c3, if_pos c3]
      rw [if_neg c3, if_neg c3]
      by_cases c4 : (l.length : Int) < size l
      · rw [if_pos c4, if_pos c4]
      rw [if_neg c4, if_neg c4, ih (bytes_drop h _) (by rw [List.length_drop]; omega) m (by omega)]
    · rw [if_neg c1, if_neg c1]
/-- What Split answers. -/
def sp (l : List Int) : List S25 × Int × Int := spl (l.length + 1) l
theorem sp_spl {l : List Int} (h : ∀ x ∈ l, 0 ≤ x ∧ x < 256) (n : Nat) (hn : l.length < n) : spl n l = sp l := spl_more (l.length + 1) h (by omega) n (by omega)
theorem sp_splitS {l : List Int} (h : ∀ x ∈ l, 0 ≤ x ∧ x < 256) (n : Nat) (hn : l.length < n) : splitS l n [] 0 = sp l := by
  have := splitS_spl h n [] 0 (Nat.zero_le _)
  rw [List.drop_zero, sp_spl h n hn] at this
  rw [show ((0 : Nat) : Int) = 0 from rfl] at this
  rw [this]
  simp
theorem sp_eq {l : List Int} (h : ∀ x ∈ l, 0 ≤ x ∧ x < 256) : sp l =
    if 8 ≤ l.length then
      if size l < 8 ∨ size l % 4 ≠ 0 then ([], 0, 3)
      else if size l > 4096 then ([], 0, 5)
      else if (l.length : Int) < size l then ([], 0, 0)
      else (frame1 l :: (sp (l.drop (size l).toNat)).1, size l + (sp (l.drop (size l).toNat)).2.1, (sp (l.drop (size l).toNat)).2.2)
    else ([], 0, 0) := by
  by_cases c1 : 8 ≤ l.length
  · by_cases c2 : size l < 8 ∨ size l % 4 ≠ 0
    · unfold sp; simp only [spl]; rw [if_pos c1, if_pos c1, if_pos c2, if_pos c2]
    by_cases c3 : size l > 4096
    · unfold sp; simp only [spl]; rw [if_pos c1, if_pos c1, if_neg c2, if_neg c2, if_pos c3, if_pos c3]
    by_cases c4 : (l.length : Int) < size l
    · unfold sp; simp only [spl]; rw [if_pos c1, if_pos c1, if_neg c2, if_neg c2, if_neg c3, if_neg c3, if_pos c4, if_pos c4]
    rw [← sp_spl (bytes_drop h (size l).toNat) l.length (by rw [List.length_drop]; omega)]
    unfold sp; simp only [spl]
  · unfold sp; simp only [spl]; rw [if_neg c1, if_neg c1]
theorem sp_range : ∀ (n : Nat) {l : List Int}, l.length < n → (∀ x ∈ l, 0 ≤ x ∧ x < 256) → 0 ≤ (sp l).2.1 ∧ (sp l).2.1 ≤ l.length ∧ ((sp l).1.length : Int) ≤ (sp l).2.1 ∧ ((sp l).2.2 = 0 ∨ (sp l).2.2 = 3 ∨ (sp l).2.2 = 5) := by
  intro n
  induction n with
  | zero => intro l hl; omega
  | succ n ih =>
    intro l hl h
    rw [sp_eq h]
    by_cases c1 : 8 ≤ l.length
    · rw [if_pos c1]
      by_cases c2 : size l < 8 ∨ size l % 4 ≠ 0
      · rw [if_pos c2]; simp
      rw [if_neg c2]
      by_cases c3 : size l > 4096
      · rw [if_pos c3]; simp
      rw [if_neg c3]
      by_cases c4 : (l.length : Int) < size l
      · rw [if_pos c4]; simp
      rw [if_neg c4]
      have hd : (l.drop (size l).toNat).length = l.length - (size l).toNat := List.length_drop
      have := ih (l := l.drop (size l).toNat) (by omega) (bytes_drop h _)
      simp only [List.length_cons]
      omega
    · rw [if_neg c1]; simp
theorem bytes_app {l m : List Int} (h : ∀ x ∈ l, 0 ≤ x ∧ x < 256) (h' : ∀ x ∈ m, 0 ≤ x ∧ x < 256) : ∀ x ∈ l ++ m, 0 ≤ x ∧ x < 256 := fun x hx => by
  rcases List.mem_append.1 hx with h1 | h1
  · exact h x h1
  · exact h' x h1
/-- A stream goes on where it stopped. -/
theorem sp_app {m : List Int} (hm : ∀ x ∈ m, 0 ≤ x ∧ x < 256) : ∀ (n : Nat) {l : List Int}, l.length < n → (∀ x ∈ l, 0 ≤ x ∧ x < 256) →
    ((sp l).2.2 = 0 → sp (l ++ m) = ((sp l).1 ++ (sp (l.drop (sp l).2.1.toNat ++ m)).1, (sp l).2.1 + (sp (l.drop (sp l).2.1.toNat ++ m)).2.1, (sp (l.drop (sp l).2.1.toNat ++ m)).2.2)) ∧
    ((sp l).2.2 ≠ 0 → sp (l ++ m) = sp l) := by
  intro n
  induction n with
  | zero => intro l hl; omega
  | succ n ih =>
    intro l hl h
    by_cases c1 : 8 ≤ l.length
    · have hz : size (l ++ m) = size l := by unfold size; rw [num_app l m 4 (by omega) (by omega)]
      have hl2 : (l ++ m).length = l.length + m.length := List.length_append
      by_cases c2 : size l < 8 ∨ size l % 4 ≠ 0
      · have e : sp l = ([], 0, 3) := by rw [sp_eq h, if_pos c1, if_pos c2]
        have e' : sp (l ++ m) = ([], 0, 3) := by rw [sp_eq (bytes_app h hm), hz, if_pos (by omega), if_pos c2]
        rw [e, e']; simp
      by_cases c3 : size l > 4096
      · have e : sp l = ([], 0, 5) := by rw [sp_eq h, if_pos c1, if_neg c2, if_pos c3]
        have e' : sp (l ++ m) = ([], 0, 5) := by rw [sp_eq (bytes_app h hm), hz, if_pos (by omega), if_neg c2, if_pos c3]
        rw [e, e']; simp
      by_cases c4 : (l.length : Int) < size l
      · have e : sp l = ([], 0, 0) := by rw [sp_eq h, if_pos c1, if_neg c2, if_neg c3, if_pos c4]
        rw [e]; simp
      have e := sp_eq h
      rw [if_pos c1, if_neg c2, if_neg c3, if_neg c4] at e
      have e' := sp_eq (bytes_app h hm)
      rw [hz, if_pos (by omega), if_neg c2, if_neg c3, if_neg (by omega)] at e'
      have hd : (l ++ m).drop (size l).toNat = l.drop (size l).toNat ++ m := List.drop_append_of_le_length (by omega)
      have hf : frame1 (l ++ m) = frame1 l := by
        unfold frame1
        rw [hz, num_app l m 4 (by omega) (by omega), num_app l m 0 (by omega) (by omega), List.take_append_of_le_length (by omega)]
      rw [hd, hf] at e'
      have hdl : (l.drop (size l).toNat).length = l.length - (size l).toNat := List.length_drop
      obtain ⟨i1, i2⟩ := ih (l := l.drop (size l).toNat) (by omega) (bytes_drop h _)
      have hr := sp_range n (l := l.drop (size l).toNat) (by omega) (bytes_drop h _)
      rw [e, e']
      refine ⟨fun h0 => ?_, fun h0 => ?_⟩
      · have i3 := i1 h0
        rw [List.drop_drop] at i3
        simp only
        rw [show (size l + (sp (l.drop (size l).toNat)).2.1).toNat = (size l).toNat + (sp (l.drop (size l).toNat)).2.1.toNat by omega, i3]
        simp only [List.cons_append, Int.add_assoc]
      · rw [i2 h0]
    · have e : sp l = ([], 0, 0) := by rw [sp_eq h, if_neg c1]
      rw [e]; simp
theorem sp_go {l m : List Int} (h : ∀ x ∈ l, 0 ≤ x ∧ x < 256) (hm : ∀ x ∈ m, 0 ≤ x ∧ x < 256) {fs : List S25} {n : Int} (e : sp l = (fs, n, 0)) {fs' : List S25} {n' e' : Int} (k : sp (l.drop n.toNat ++ m) = (fs', n', e')) : sp (l ++ m) = (fs ++ fs', n + n', e') := by
  have := (sp_app hm (l.length + 1) (by omega) h).1 (by rw [e])
  rw [this, e]
  simp only [k]
theorem sp_stay {l m : List Int} (h : ∀ x ∈ l, 0 ≤ x ∧ x < 256) (hm : ∀ x ∈ m, 0 ≤ x ∧ x < 256) {fs : List S25} {n e : Int} (k : sp l = (fs, n, e)) (he : e ≠ 0) : sp (l ++ m) = (fs, n, e) := by
  rw [(sp_app hm (l.length + 1) (by omega) h).2 (by rw [k]; exact he), k]
/-! ### The encoding of a frame -/
def fitsP (f : S25) : Prop := 0 ≤ f.f0 ∧ f.f0 < 4294967296 ∧ 0 ≤ f.f1 ∧ f.f1 ≤ 65535 ∧ (f.f2.length : Int) % 4 = 0 ∧ f.f2.length ≤ 4088 ∧ ∀ x ∈ f.f2, 0 ≤ x ∧ x < 256
def enc (f : S25) : List Int := quad f.f0 ++ quad ((8 + f.f2.length) * 65536 + f.f1) ++ f.f2
theorem enc_len (f : S25) : (enc f).length = 8 + f.f2.length := by simp [enc, quad]; omega
theorem enc_byte {f : S25} (h : fitsP f) : ∀ x ∈ enc f, 0 ≤ x ∧ x < 256 := bytes_app (bytes_app (quad_byte _) (quad_byte _)) h.2.2.2.2.2.2
theorem rd_cons (a : Int) (l : List Int) : rd (a :: l) 0 = a := rfl
theorem rd_quad (n : Int) (m : List Int) : rd (quad n ++ m) 0 = n % 256 ∧ rd (quad n ++ m) 1 = (n / 256) % 256 ∧ rd (quad n ++ m) 2 = (n / 65536) % 256 ∧ rd (quad n ++ m) 3 = (n / 16777216) % 256 := ⟨rfl, rfl, rfl, rfl⟩
theorem num_quad (n : Int) (m : List Int) (h0 : 0 ≤ n) (h1 : n < 4294967296) : num (quad n ++ m) 0 = n := by
  obtain ⟨a, b, c, d⟩ := rd_quad n m
  unfold num
  rw [show (0 : Int) + 1 = 1 from rfl, show (0 : Int) + 2 = 2 from rfl, show (0 : Int) + 3 = 3 from rfl, a, b, c, d]
  omega
theorem num_quad4 (o n : Int) (m : List Int) (h0 : 0 ≤ n) (h1 : n < 4294967296) : num (quad o ++ (quad n ++ m)) 4 = n := by
  have e : quad n ++ m = (quad o ++ (quad n ++ m)).drop 4 := rfl
  have := num_quad n m h0 h1
  rw [e, num_drop _ 4 0 (by omega)] at this
  exact this
/-- A whole frame, and what follows. -/
theorem sp_enc {f : S25} (h : fitsP f) {m : List Int} (hm : ∀ x ∈ m, 0 ≤ x ∧ x < 256) {fs : List S25} {n e : Int} (k : sp m = (fs, n, e)) : sp (enc f ++ m) = (f :: fs, (((enc f).length : Nat) : Int) + n, e) := by
  obtain ⟨h0, h1, h2, h3, h4, h5, h6⟩ := h
  have hl := enc_len f
  have e4 : num (enc f ++ m) 4 = (8 + f.f2.length) * 65536 + f.f1 := by
    have := num_quad4 f.f0 ((8 + f.f2.length) * 65536 + f.f1) (f.f2 ++ m) (by omega) (by omega)
    simpa [enc, List.append_assoc] using this
  have e0 : num (enc f ++ m) 0 = f.f0 := by
    have := num_quad f.f0 (quad ((8 + f.f2.length) * 65536 + f.f1) ++ (f.f2 ++ m)) h0 h1
    simpa [enc, List.append_assoc] using this
  have hz : size (enc f ++ m) = 8 + f.f2.length := by unfold size; rw [e4]; omega
  have hb := bytes_app (enc_byte ⟨h0, h1, h2, h3, h4, h5, h6⟩) hm
  rw [sp_eq hb, hz, if_pos (by rw [List.length_append]; omega), if_neg (by omega), if_neg (by omega), if_neg (by rw [List.length_append]; omega)]
  have ht : ((8 : Int) + f.f2.length).toNat = (enc f).length := by omega
  rw [ht, List.drop_left, k]
  have hf : frame1 (enc f ++ m) = f := by
    unfold frame1
    rw [e0, e4, hz, ht, List.take_left]
    have : (enc f).drop 8 = f.f2 := by
      unfold enc
      exact List.drop_left' (by simp [quad])
    rw [this, show ((8 + (f.f2.length : Int)) * 65536 + f.f1) % 65536 = f.f1 by omega]
  rw [hf]
  simp only
  rw [hl]
  simp
/-- A frame without its last byte. -/
theorem sp_cut {f : S25} (h : fitsP f) : sp ((enc f).take ((enc f).length - 1)) = ([], 0, 0) := by
  obtain ⟨h0, h1, h2, h3, h4, h5, h6⟩ := h
  have hl := enc_len f
  have hb := enc_byte ⟨h0, h1, h2, h3, h4, h5, h6⟩
  have hb' : ∀ x ∈ (enc f).take ((enc f).length - 1), 0 ≤ x ∧ x < 256 := fun x hx => hb x (List.mem_of_mem_take hx)
  have hk : ((enc f).take ((enc f).length - 1)).length = (enc f).length - 1 := by rw [List.length_take]; omega
  by_cases c : f.f2.length = 0
  · rw [sp_eq hb', if_neg (by omega)]
  have e4 : num (enc f) 4 = (8 + f.f2.length) * 65536 + f.f1 := by
    have := num_quad4 f.f0 ((8 + f.f2.length) * 65536 + f.f1) f.f2 (by omega) (by omega)
    simpa [enc, List.append_assoc] using this
  have hz : size ((enc f).take ((enc f).length - 1)) = 8 + f.f2.length := by
    have := num_app ((enc f).take ((enc f).length - 1)) ((enc f).drop ((enc f).length - 1)) 4 (by omega) (by omega)
    rw [List.take_append_drop] at this
    unfold size
    rw [← this, e4]
    omega
  rw [sp_eq hb', hz, if_pos (by omega), if_neg (by omega), if_neg (by omega), if_pos (by omega)]
def encs (fs : List S25) : List Int := fs.flatMap enc
theorem encs_byte : ∀ {fs : List S25}, (∀ f ∈ fs, fitsP f) → ∀ x ∈ encs fs, 0 ≤ x ∧ x < 256 := fun h x hx => by
  obtain ⟨f, hf, hx⟩ := List.mem_flatMap.1 hx
  exact enc_byte (h f hf) x hx
theorem sp_encs {m : List Int} (hm : ∀ x ∈ m, 0 ≤ x ∧ x < 256) (k : sp m = ([], 0, 0)) : ∀ (fs : List S25), (∀ f ∈ fs, fitsP f) → sp (encs fs ++ m) = (fs, (((encs fs).length : Nat) : Int), 0)
  | [], _ => by simpa [encs] using k
  | f :: fs, h => by
    have ih := sp_encs hm k fs (fun g hg => h g (List.mem_cons_of_mem _ hg))
    have hb := bytes_app (encs_byte (fun g hg => h g (List.mem_cons_of_mem _ hg))) hm
    have := sp_enc (h f (List.mem_cons_self ..)) hb ih
    simp only [encs, List.flatMap_cons, List.append_assoc] at this ⊢
    rw [this]
    simp
theorem sp_nil : sp [] = ([], 0, 0) := by simp [sp, spl]
theorem sp_all (fs : List S25) (h : ∀ f ∈ fs, fitsP f) : sp (encs fs) = (fs, (((encs fs).length : Nat) : Int), 0) := by
  have := sp_encs (m := []) (by simp) sp_nil fs h
  simpa using this
theorem sp_last (fs : List S25) (f : S25) (h : ∀ g ∈ fs, fitsP g) (hf : fitsP f) : sp ((encs (fs ++ [f])).take ((encs (fs ++ [f])).length - 1)) = (fs, (((encs fs).length : Nat) : Int), 0) := by
  have hl := enc_len f
  have e : encs (fs ++ [f]) = encs fs ++ enc f := by simp [encs]
  rw [e, List.length_append, show (encs fs).length + (enc f).length - 1 = (encs fs).length + ((enc f).length - 1) by omega, List.take_append, List.take_of_length_le (by omega), show (encs fs).length + ((enc f).length - 1) - (encs fs).length = (enc f).length - 1 by omega]
  exact sp_encs (fun x hx => enc_byte hf x (List.mem_of_mem_take hx)) (sp_cut hf) fs h
end Go.Proofs.Ytipmcklkflgppaa.Q
