import Derived.Test.YtckpgccbhaejgaaLr
namespace Go.Proofs.Ytckpgccbhaejgaa.Sl
open Go.RowKit Go.Proofs.YtckpgccbhaejgaaW.PrintWords Go.Proofs.YtckpgccbhaejgaaW.PrintLast Go.Proofs.YtckpgccbhaejgaaW.PrintMore Go.Proofs.Ytckpgccbhaejgaa.Sl Go.Proofs.Ytckpgccbhaejgaa.Hand 
attribute [local go_sem] max2_int min2_int max_two min_two max_three min_three max_four min_four 
set_option linter.unusedVariables false
set_option linter.unusedSimpArgs false

/-- A literal. -/
theorem LR.lit {α : Type} {d : Kd α} {enc : α → List Value} {e : TypeId} {w : World} {g : Nat} {xs : List α} (f : Flat d enc) (hb : w.heap[g]? = some (.cells (xs.flatMap enc).toArray e (0, 0))) (hl : xs.length ≤ maxLen) :
    LR d enc e w (fun k => k = g) (.slice (some ⟨g, 0, none⟩) xs.length xs.length) xs := by
  refine ⟨fun k hk => ?_, f.flat_len xs, .inr ⟨g, 0, xs.length, _, by rw [Nat.zero_mul], hb, Nat.le_refl _, by omega, ?_, ?_⟩⟩
  · have : g = k := by simpa [Value.ownBlock] using hk
    exact this.symm
  · rw [Nat.zero_add, List.size_toArray, f.flat_len]
    exact Nat.le_refl _
  · rw [Nat.zero_mul, List.drop_zero, ← f.flat_len, List.take_length]
/-! ### Slices that are only read, whatever they share: what they lead to lies in blocks of F -/
def FR {α : Type} (d : Kd α) (w : World) (F : Nat → Prop) (v : Value) (xs : List α) : Prop := ∃ A c, v = .slice A xs.length c ∧ xs.length ≤ c ∧ Kd.F d w F A xs.length xs
namespace FR
variable {α : Type} {d : Kd α} {w w1 : World} {F F' : Nat → Prop} {v : Value} {xs : List α}
theorem nil (d : Kd α) (w : World) (F : Nat → Prop) : FR d w F (.slice none 0 0) [] := ⟨none, 0, rfl, Nat.le_refl _, fun _ _ => ⟨rfl, by simp, fun h => absurd h (Nat.lt_irrefl 0)⟩⟩
theorem step (h : FR d w F v xs) (hs : w.heap.size ≤ w1.heap.size) (hm : ∀ k, F k → k < w.heap.size → w1.heap[k]? = w.heap[k]?) : FR d w1 F v xs := by
  obtain ⟨A, c, e, hc, hf⟩ := h
  exact ⟨A, c, e, hc, fun W' hW => hf W' (fun k hk hlt => (hW k hk (Nat.lt_of_lt_of_le hlt hs)).trans (hm k hk hlt))⟩
theorem step' (h : FR d w F v xs) (hm : ∀ k, F k → k < w.heap.size → w1.heap[k]? = w.heap[k]?) : FR d w1 F v xs := by
  obtain ⟨A, c, e, hc, hf⟩ := h
  refine ⟨A, c, e, hc, fun W' hW => hf W' (fun k hk hlt => ?_)⟩
  have h1 := hm k hk hlt
  by_cases h2 : k < w1.heap.size
  · exact (hW k hk h2).trans h1
  · rw [Array.getElem?_eq_none (Nat.le_of_not_lt h2), Array.getElem?_eq_getElem hlt] at h1
    cases h1
theorem below (h : FR d w F v xs) (hb : Below w.heap.size w w1) : FR d w1 F v xs := h.step hb.size fun k _ hlt => hb.block k hlt
theorem mono (h : FR d w F v xs) (hF : ∀ k, F k → k < w.heap.size → F' k) : FR d w F' v xs := by
  obtain ⟨A, c, e, hc, hf⟩ := h
  exact ⟨A, c, e, hc, fun W' hW => hf W' (fun k hk hlt => hW k (hF k hk hlt) hlt)⟩
theorem reads (h : FR d w F v xs) : ∃ A c, v = .slice A xs.length c ∧ xs.length ≤ c ∧ d.C w A xs.length xs := by
  obtain ⟨A, c, e, hc, hf⟩ := h
  exact ⟨A, c, e, hc, hf w (fun _ _ _ => rfl)⟩
theorem far (h : FR d w F v xs) {p : Addr} (hp : ¬ F p.block) (u : Value) : FR d (w.setCell p u) F v xs := h.step' fun k hk _ => Below.heap_setCell w p u k (fun he => hp (he ▸ hk))
/-- 'v[m:]' -/
theorem drop {A : Option Addr} {n c m : Nat} (h : FR d w F (.slice A n c) xs) (hm : m ≤ xs.length) : FR d w F (.slice (if c = m then A else A.map (·.add (m * d.sz))) (n - m) (c - m)) (xs.drop m) := by
  obtain ⟨A', c', e, hc, hf⟩ := h
  injection e with e1 e2 e3
  subst e1; subst e2; subst e3
  refine ⟨_, _, by rw [List.length_drop], by rw [List.length_drop]; omega, fun W' hW => ?_⟩
  exact Kd.C_drop (hf W' hW) hm hc
end FR
end Go.Proofs.Ytckpgccbhaejgaa.Sl
