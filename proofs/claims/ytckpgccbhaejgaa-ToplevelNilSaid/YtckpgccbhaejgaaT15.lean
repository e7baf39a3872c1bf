import Derived.Test.YtckpgccbhaejgaaT12
namespace Go.Proofs.Ytckpgccbhaejgaa.Q
open Go.RowKit Go.Proofs.YtckpgccbhaejgaaW.PrintWords Go.Proofs.YtckpgccbhaejgaaW.PrintLast Go.Proofs.YtckpgccbhaejgaaW.PrintMore Go.Proofs.Ytckpgccbhaejgaa.Sl Go.Proofs.Ytckpgccbhaejgaa.Hand 
attribute [local go_sem] max2_int min2_int max_two min_two max_three min_three max_four min_four 
set_option linter.unusedVariables false
set_option linter.unusedSimpArgs false

section
variable {w0 w : World} {R : Res}
theorem call_in (g : Nat) (s : WSt) (x : S46) (hs : SL w0 w [winR g s, R]) : Calls Try.prog 16 #[.pointer (some ⟨g, 0, none⟩), ag46 x] w fun e w' => e = .returned (.agg #[.int .i64 (opA s x), .int .i64 (opB s x), .int .i64 (opC s x), .int .i64 (opE s x)]) ∧ SL w0 w' [winR g (opS s x), R] := by
  unfold opA opB opC opE opS
  by_cases h0 : x.f0 = 0
  · rw [if_neg (show ¬ x.f0 = 2 by omega), if_neg (show ¬ x.f0 = 3 by omega), if_neg (show ¬ x.f0 = 2 by omega), if_neg (show ¬ x.f0 = 3 by omega), if_neg (show ¬ x.f0 = 2 by omega), if_pos h0, if_pos h0]
    exact call_0 g s x h0 hs
  rw [if_neg h0, if_neg h0]
  by_cases h1 : x.f0 = 1
  · rw [if_neg (show ¬ x.f0 = 2 by omega), if_neg (show ¬ x.f0 = 3 by omega), if_neg (show ¬ x.f0 = 2 by omega), if_neg (show ¬ x.f0 = 3 by omega), if_neg (show ¬ x.f0 = 2 by omega), if_pos h1, if_pos h1]
    exact call_1 g s x h0 h1 hs
  rw [if_neg h1, if_neg h1]
  by_cases h2 : x.f0 = 2
  · rw [if_pos h2, if_pos h2, if_pos h2, if_pos h2, if_pos h2]
    exact call_2 g s x h0 h1 h2 hs
  rw [if_neg h2, if_neg h2, if_neg h2, if_neg h2, if_neg h2]
  by_cases h3 : x.f0 = 3
  · rw [if_pos h3, if_pos h3, if_pos h3, if_pos h3]
    exact call_3 g s x h0 h1 h2 h3 hs
  rw [if_neg h3, if_neg h3, if_neg h3, if_neg h3]
  by_cases h4 : x.f0 = 4
  · rw [if_pos h4, if_pos h4]
    exact call_4 g s x h0 h1 h2 h3 h4 hs
  rw [if_neg h4, if_neg h4]
  exact call_5 g s x h0 h1 h2 h3 h4 hs
end
section
variable {w0 w : World} {L : List Res} {g : Nat} {s s' : WSt}
theorem call_eq (h : SL w0 w L) (i : Nat) (x : S46) {A B C E : Int} (hA : opA s x = A) (hB : opB s x = B) (hC : opC s x = C) (hE : opE s x = E) (hS : opS s x = s') (hi : L[i]? = some (winR g s)) : Calls Try.prog 16 #[.pointer (some ⟨g, 0, none⟩), ag46 x] w fun e w' => e = .returned (.agg #[.int .i64 A, .int .i64 B, .int .i64 C, .int .i64 E]) ∧ SL w0 w' (L.set i (winR g s')) := by
  subst hA; subst hB; subst hC; subst hE; subst hS
  exact lift1 h i hi fun h => call_in g s x h
end
def At46 (w : World) (p : Addr) (x : S46) : Prop := w.cell? (p) = some (.int .i64 x.f0) ∧ w.cell? ⟨(p).block, (p).off + 1, none⟩ = some (.int .i64 x.f1) ∧ w.cell? ⟨(p).block, (p).off + 2, none⟩ = some (.int .i64 x.f2) ∧ w.cell? ⟨(p).block, (p).off + 3, none⟩ = some (.int .i64 x.f3) ∧ w.cell? ⟨(p).block, (p).off + 4, none⟩ = some (.bool x.f4) ∧ w.cell? ⟨(p).block, (p).off + 5, none⟩ = some (.int .i64 x.f5.f0) ∧ w.cell? ⟨(p).block, (p).off + 6, none⟩ = some (.int .i64 x.f5.f1) ∧ w.cell? ⟨(p).block, (p).off + 7, none⟩ = some (.int .i64 x.f5.f2) ∧ w.cell? ⟨(p).block, (p).off + 8, none⟩ = some (.int .i64 x.f5.f3) ∧ w.cell? ⟨(p).block, (p).off + 9, none⟩ = some (.string x.f6)
theorem rd46 {l : List S46} {i : Nat} (h : i < l.length) : rd_T46 l (i : Int) = l[i] := by
  unfold rd_T46
  rw [Int.toNat_natCast, List.getD_eq_getElem?_getD, List.getElem?_eq_getElem h]
  rfl
theorem atO {w : World} {A : Option Addr} {l : List S46} (hr : Kd.C k46 w A l.length l) (i : Nat) (hi : i < l.length) : ∃ ad, A = some ad ∧ ∀ w', Below w.heap.size w w' → At46 w' (ad.add (i * 10)) l[i] := by
  obtain ⟨ad, rfl, _⟩ := at_T46 hr (i : Int) (by omega) (by omega)
  refine ⟨ad, rfl, fun w' hb => ?_⟩
  obtain ⟨ad2, e, r⟩ := at_T46 (Kd.C_below hr hb) (i : Int) (by omega) (by omega)
  injection e with e
  subst e
  rw [rd46 hi, Int.toNat_natCast] at r
  exact r
/-! ### Is a list light -/
def lightB (l : List S46) : Bool := decide (l.length ≤ 40) && l.all (fun x => decide (x.f6.size ≤ 1100))
theorem light_l0 (l : List S46) (hl : l.length ≤ 40) : ∀ (k i : Nat), i ≤ l.length → l.length - i < k → compositorlaw22_light.l0 k l (i : Int) = some ((l.drop i).all (fun x => decide (x.f6.size ≤ 1100)))
  | 0, i, hi, hk => by omega
  | k + 1, i, hi, hk => by
    unfold compositorlaw22_light.l0
    by_cases h : i < l.length
    · rw [if_pos (show (i : Int) < (l.length : Int) by omega), if_pos (show (0 : Int) ≤ (i : Int) by omega), rd46 h, List.drop_eq_getElem_cons h, List.all_cons]
      by_cases h2 : l[i].f6.size ≤ 1100
      · rw [if_neg (show ¬ (l[i].f6.size : Int) > 1100 by omega), decide_eq_true h2, Bool.true_and]
        have : wrap64 ((i : Int) + 1) = ((i + 1 : Nat) : Int) := by unfold wrap64; omega
        rw [this]
        exact light_l0 l hl k (i + 1) (by omega) (by omega)
      · rw [if_pos (show (l[i].f6.size : Int) > 1100 by omega), decide_eq_false h2, Bool.false_and]
    · rw [if_neg (show ¬ (i : Int) < (l.length : Int) by omega), List.drop_eq_nil_of_le (by omega)]
      rfl
theorem light_f (l : List S46) : compositorlaw22_light.f 42 l = some (lightB l) := by
  unfold compositorlaw22_light.f lightB
  by_cases h : l.length ≤ 40
  · rw [if_neg (show ¬ (l.length : Int) > 40 by omega), decide_eq_true h, Bool.true_and]
    exact light_l0 l h 42 0 (by omega) (by omega)
  · rw [if_pos (show (l.length : Int) > 40 by omega), decide_eq_false h, Bool.false_and]
theorem light_c {w0 w : World} {L : List Res} (h : SL w0 w L) {A : Option Addr} {c : Nat} {l : List S46} (hr : Kd.C k46 w A l.length l) (hc : l.length ≤ c) {b : Bool} (hb : lightB l = b) : Calls Try.prog 13 #[.slice A l.length c] w fun e w' => e = .returned (.bool b) ∧ SL w0 w' L := by
  subst hb
  refine (compositorlaw22_light.calls 42 A c l _ w hr hc (light_f l)).mono ?_
  rintro e w' ⟨rfl, n, rfl⟩
  exact ⟨rfl, sl_drewN h n⟩
end Go.Proofs.Ytckpgccbhaejgaa.Q
