import Derived.Test.YtlfediaeaaodpaaQu1
namespace Go.Proofs.Ytlfediaeaaodpaa.Q
open Go.RowKit Go.Proofs.YtlfediaeaaodpaaW.PrintWords Go.Proofs.YtlfediaeaaodpaaW.PrintLast Go.Proofs.YtlfediaeaaodpaaW.PrintMore Go.Proofs.Ytlfediaeaaodpaa.Sl Go.Proofs.Ytlfediaeaaodpaa.Hand 
attribute [local go_sem] max2_int min2_int max_two min_two max_three min_three max_four min_four 
set_option linter.unusedVariables false
set_option linter.unusedSimpArgs false

/-! ### The store of a cell of a row -/
theorem l_set {w : World} {n size : Nat} {e : TypeId} {xs : List Value} {ad : Addr} {c : Nat} (h : LRow w e size (.slice (some ad) n c) n xs) (j : Nat) (u : Value) (hj : j < xs.length) :
    LRow (w.setCell (ad.add j) u) e size (.slice (some ad) n c) n (xs.set j u) := by
  obtain ⟨h1, h2⟩ := h
  refine ⟨by rw [List.length_set]; exact h1, ?_⟩
  rcases h2 with ⟨_, h0⟩ | ⟨g, off, cap, cur, he, hh, hnc, hm, hcs, ht⟩
  · injection h0 with h0
    cases h0
  · injection he with ha _ hc
    injection ha with ha
    subst ha; subst hc
    refine .inr ⟨g, off, c, cur.setIfInBounds (off * size + j) u, rfl, ?_, hnc, hm, by simpa using hcs, ?_⟩
    · rw [add_at]
      exact blk_set hh _ u
    · rw [← ht, Array.toList_setIfInBounds, List.drop_set, if_neg (by omega), Nat.add_sub_cancel_left, List.take_set]
theorem flat_set {α : Type} {d : Kd α} {enc : α → List Value} (f : Flat d enc) (q : α) : ∀ (xs : List α) (j i : Nat) (p : α) (u : Value), xs[j]? = some p → i < d.sz → enc q = (enc p).set i u → (xs.set j q).flatMap enc = (xs.flatMap enc).set (j * d.sz + i) u
  | [], _, _, _, _, h, _, _ => by simp at h
  | x :: xs, 0, i, p, u, h, hi, hq => by
    obtain rfl : x = p := by simpa using h
    rw [List.set_cons_zero, List.flatMap_cons, List.flatMap_cons, hq, Nat.zero_mul, Nat.zero_add, List.set_append_left _ _ (by rw [f.len]; exact hi)]
  | x :: xs, j + 1, i, p, u, h, hi, hq => by
    rw [List.set_cons_succ, List.flatMap_cons, List.flatMap_cons, flat_set f q xs j i p u (by simpa using h) hi hq, List.set_append_right _ _ (by rw [f.len, Nat.add_mul]; omega), f.len]
    congr 2
    rw [Nat.add_mul]; omega
theorem LR.set {α : Type} {d : Kd α} {enc : α → List Value} {e : TypeId} {w : World} {F : Nat → Prop} {ad : Addr} {n c : Nat} {xs : List α} (f : Flat d enc) (h : LR d enc e w F (.slice (some ad) n c) xs) (j i : Nat) (p q : α) (u : Value) (hj : xs[j]? = some p) (hi : i < d.sz) (hq : enc q = (enc p).set i u) :
    LR d enc e (w.setCell (ad.add (j * d.sz + i)) u) F (.slice (some ad) n c) (xs.set j q) := by
  obtain ⟨rfl, _, _⟩ := h.reads' f
  refine ⟨h.1, ?_⟩
  rw [List.length_set, flat_set f q xs j i p u hj hi hq]
  refine l_set h.2 _ u ?_
  rw [f.flat_len]
  have hl := (List.getElem?_eq_some_iff.1 hj).1
  have := Nat.mul_le_mul_right d.sz (show j + 1 ≤ xs.length by omega)
  rw [Nat.add_mul] at this
  omega
structure S58 where
  f0 : Int
  f1 : Int
def z58 : S58 := ⟨0, 0⟩
def k58 : Kd S58 := Kd.iso (Kd.pair (Kd.int .i64) (Kd.int .i64)) (fun x : S58 => (x.f0, x.f1))
def enc58 (x : S58) : List Value := [.int .i64 x.f0, .int .i64 x.f1]
theorem k58_open {w : World} {x : S58} {cs : List Value} (h : k58.K w x cs) : cs = [.int .i64 x.f0, .int .i64 x.f1] := by
  obtain ⟨_, _, rfl, rfl, rfl⟩ := h
  exact rfl
theorem k58_mk (w : World) (x : S58) : k58.K w x [.int .i64 x.f0, .int .i64 x.f1] := ⟨[.int .i64 x.f0], [.int .i64 x.f1], rfl, rfl, rfl⟩
theorem flat58 : Flat k58 enc58 := ⟨fun w x => k58_mk w x, fun w x cs h => k58_open h⟩
def rd_T58 (xs : List S58) (i : Int) : S58 := xs.getD i.toNat z58
theorem at_T58 {w : World} {A : Option Addr} {n : Nat} {xs : List S58} (h : Kd.C k58 w A n xs) (i : Int) (h0 : 0 ≤ i) (h1 : i < n) : ∃ ad, A = some ad ∧ w.cell? (ad.add (i.toNat * 2)) = some (.int .i64 (rd_T58 xs i).f0) ∧ w.cell? ⟨(ad.add (i.toNat * 2)).block, (ad.add (i.toNat * 2)).off + 1, none⟩ = some (.int .i64 (rd_T58 xs i).f1) := by
  obtain ⟨ad, c, e, _, hK, hc0⟩ := Kd.C_get h z58 i h0 h1
  have hc : ∀ j u, c[j]? = some u → w.cell? (ad.add (i.toNat * 2 + j)) = some u := hc0
  obtain rfl := k58_open hK
  exact ⟨ad, e, hc 0 _ rfl, by rw [← add_field _ _ 1 (by omega)]; exact hc 1 _ rfl⟩
end Go.Proofs.Ytlfediaeaaodpaa.Q
