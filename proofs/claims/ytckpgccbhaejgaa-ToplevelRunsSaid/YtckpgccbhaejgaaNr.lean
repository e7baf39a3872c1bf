import Derived.Test.YtckpgccbhaejgaaSlr
namespace Go.Proofs.Ytckpgccbhaejgaa.Sl
open Go.RowKit Go.Proofs.YtckpgccbhaejgaaW.PrintWords Go.Proofs.YtckpgccbhaejgaaW.PrintLast Go.Proofs.YtckpgccbhaejgaaW.PrintMore Go.Proofs.Ytckpgccbhaejgaa.Sl Go.Proofs.Ytckpgccbhaejgaa.Hand 
attribute [local go_sem] max2_int min2_int max_two min_two max_three min_three max_four min_four 
set_option linter.unusedVariables false
set_option linter.unusedSimpArgs false

/-! ### Rows of the call's own whose elements lead to what came in or to the thing's own blocks, only read -/
def rowN {α : Type} (w0 : World) (d : Kd α) (e : Nat) (v : Value) (xs : List α) : Res where
  P := fun w F => ∀ w', Below w0.heap.size w0 w' → (∀ k, F k → k < w.heap.size → w'.heap[k]? = w.heap[k]?) → Kd.N d e w' w0.heap.size (fun k => F k ∨ k < w0.heap.size) v xs
  loc := fun h hm w2 hb hk => h w2 hb fun k hF hlt => (hk k hF (heap_lt (hm k hF hlt) hlt)).trans (hm k hF hlt)
/-- Two things as one. -/
def andR (A B : Res) : Res where
  P := fun w F => ∃ F1 F2 : Nat → Prop, A.P w F1 ∧ B.P w F2 ∧ (∀ k, F1 k → F k) ∧ (∀ k, F2 k → F k) ∧ ∀ k, F1 k → F2 k → False
  loc := fun ⟨F1, F2, h1, h2, h3, h4, h5⟩ hm => ⟨F1, F2, A.loc h1 (fun k hk => hm k (h3 k hk)), B.loc h2 (fun k hk => hm k (h4 k hk)), h3, h4, h5⟩
section
variable {w0 w w1 : World} {L : List Res} {A B : Res} {α : Type} {d : Kd α} {e : TypeId} {v : Value} {xs : List α}
theorem sl_merge (h : SL w0 w L) (i j : Nat) (hij : i ≠ j) (hi : L[i]? = some A) (hj : L[j]? = some B) : SL w0 w ((L.set i (andR A B)).set j noneR) := by
  obtain ⟨hb, G, h1, h2, h3⟩ := h
  have hil : i < L.length := (List.getElem?_eq_some_iff.1 hi).1
  have hjl : j < L.length := (List.getElem?_eq_some_iff.1 hj).1
  refine ⟨hb, fun q k => if q = i then G i k ∨ G j k else if q = j then False else G q k, fun q C hC => ?_, fun q k hk => ?_, fun q q' k hk hk' => ?_⟩
  · by_cases hq : q = j
    · subst hq
      rw [List.getElem?_set_self (by rw [List.length_set]; exact hjl)] at hC
      injection hC with hC
      subst hC
      trivial
    rw [List.getElem?_set_ne (Ne.symm hq)] at hC
    by_cases hq2 : q = i
    · subst hq2
      rw [List.getElem?_set_self hil] at hC
      injection hC with hC
      subst hC
      show (andR A B).P w (fun k => if q = q then G q k ∨ G j k else if q = j then False else G q k)
      simp only [if_true]
      exact ⟨G q, G j, h1 q A hi, h1 j B hj, fun k hk => .inl hk, fun k hk => .inr hk, fun k hk hk' => hij (h3 _ _ _ hk hk')⟩
    · rw [List.getElem?_set_ne (Ne.symm hq2)] at hC
      show C.P w (fun k => if q = i then G i k ∨ G j k else if q = j then False else G q k)
      simp only [hq, hq2, if_false]
      exact h1 q C hC
  · simp only at hk
    rw [List.length_set, List.length_set]
    split at hk
    · rename_i hq
      subst hq
      rcases hk with hk | hk
      · exact h2 _ _ hk
      · exact ⟨(h2 _ _ hk).1, (h2 _ _ hk).2.1, hil⟩
    · split at hk
      · exact hk.elim
      · exact h2 _ _ hk
  · simp only at hk hk'
    split at hk <;> split at hk'
    · omega
    · split at hk'
      · exact hk'.elim
      · rename_i q1 q2 q3
        rcases hk with hk | hk
        · exact absurd (h3 _ _ _ hk' hk) q2
        · exact absurd (h3 _ _ _ hk' hk) q3
    · split at hk
      · exact hk.elim
      · rename_i q1 q2 q3
        rcases hk' with hk' | hk'
        · exact absurd (h3 _ _ _ hk hk') q1
        · exact absurd (h3 _ _ _ hk hk') q3
    · split at hk
      · exact hk.elim
      · split at hk'
        · exact hk'.elim
        · exact h3 _ _ _ hk hk'
variable {P : Program} {ops : Array Oper} {rest : List Oper} {o : Oper} {a : Act} {Q : Exit → Act → World → Prop}
end
/-! ### A method on one thing, walked with all the other things as one -/
def restR (w1 : World) (S : Nat → Prop) : Res where
  P := fun w F => (∀ k, S k → F k) ∧ ∀ k, S k → k < w1.heap.size ∧ w.heap[k]? = w1.heap[k]?
  loc := fun h hm => ⟨h.1, fun k hk => ⟨(h.2 k hk).1, (hm k (h.1 k hk) (heap_lt (h.2 k hk).2 (h.2 k hk).1)).trans (h.2 k hk).2⟩⟩
/-- Two things that share a value. -/
def exR {X : Type} (A B : X → Res) : Res where
  P := fun w F => ∃ (v : X) (F1 F2 : Nat → Prop), (A v).P w F1 ∧ (B v).P w F2 ∧ (∀ k, F1 k → F k) ∧ (∀ k, F2 k → F k) ∧ ∀ k, F1 k → F2 k → False
  loc := fun ⟨v, F1, F2, h1, h2, h3, h4, h5⟩ hm => ⟨v, F1, F2, (A v).loc h1 (fun k hk => hm k (h3 k hk)), (B v).loc h2 (fun k hk => hm k (h4 k hk)), h3, h4, h5⟩
section
variable {w0 w w1 : World} {L L' : List Res} {A : Res} {i : Nat}
theorem sl_lift (h : SL w0 w L) (hi : L[i]? = some A) : ∃ S, SL w0 w [A, restR w S] ∧ ∀ w' B Cs, SL w0 w' (B :: restR w S :: Cs) → SL w0 w' (L.set i B ++ Cs) := by
  obtain ⟨hb, G, h1, h2, h3⟩ := h
  have hil : i < L.length := (List.getElem?_eq_some_iff.1 hi).1
  refine ⟨fun k => ∃ j, j ≠ i ∧ G j k, ⟨hb, fun q k => if q = 0 then G i k else if q = 1 then (∃ j, j ≠ i ∧ G j k) else False, fun q C hC => ?_, fun q k hk => ?_, fun q q' k hk hk' => ?_⟩, fun w' B Cs ⟨hb', G', k1, k2, k3⟩ => ?_⟩
  · rcases q with _ | _ | q
    · obtain rfl : A = C := by simpa using hC
      show A.P w (fun k => if 0 = 0 then G i k else _)
      simpa using h1 i A hi
    · obtain rfl : restR w (fun k => ∃ j, j ≠ i ∧ G j k) = C := by simpa using hC
      exact ⟨fun k hk => by simpa using hk, fun k ⟨j, _, hk⟩ => ⟨(h2 j k hk).2.1, rfl⟩⟩
    · simp at hC
  · rcases q with _ | _ | q
    · have hk : G i k := by simpa using hk
      exact ⟨(h2 i k hk).1, (h2 i k hk).2.1, by simp⟩
    · obtain ⟨j, _, hk⟩ : ∃ j, j ≠ i ∧ G j k := by simpa using hk
      exact ⟨(h2 j k hk).1, (h2 j k hk).2.1, by simp⟩
    · simp at hk
  · rcases q with _ | _ | q <;> rcases q' with _ | _ | q'
    · rfl
    · have hk : G i k := by simpa using hk
      obtain ⟨j, hj, hk'⟩ : ∃ j, j ≠ i ∧ G j k := by simpa using hk'
      exact absurd (h3 _ _ _ hk' hk) hj
    · simp at hk'
    · have hk' : G i k := by simpa using hk'
      obtain ⟨j, hj, hk⟩ : ∃ j, j ≠ i ∧ G j k := by simpa using hk
      exact absurd (h3 _ _ _ hk hk') hj
    · rfl
    · simp at hk'
    · simp at hk
    · simp at hk
    · simp at hk
  · have hr := k1 1 _ rfl
    have hB := k1 0 _ rfl
    refine ⟨hb', fun q k => if q < L.length then (if q = i then G' 0 k else G q k) else G' (q - L.length + 2) k, fun q C hC => ?_, fun q k hk => ?_, fun q q' k hk hk' => ?_⟩
    · by_cases hq : q < L.length
      · rw [List.getElem?_append_left (by rw [List.length_set]; exact hq)] at hC
        by_cases hq2 : q = i
        · subst hq2
          rw [List.getElem?_set_self hil] at hC
          injection hC with hC
          subst hC
          show B.P w' (fun k => if q < L.length then (if q = q then G' 0 k else G q k) else G' (q - L.length + 2) k)
          simpa [hq] using hB
        · rw [List.getElem?_set_ne (Ne.symm hq2)] at hC
          show C.P w' (fun k => if q < L.length then (if q = i then G' 0 k else G q k) else G' (q - L.length + 2) k)
          simp only [hq, hq2, if_true, if_false]
          exact C.loc (h1 q C hC) fun k hk _ => (hr.2 k ⟨q, hq2, hk⟩).2
      · rw [List.getElem?_append_right (by rw [List.length_set]; omega), List.length_set] at hC
        show C.P w' (fun k => if q < L.length then (if q = i then G' 0 k else G q k) else G' (q - L.length + 2) k)
        simp only [hq, if_false]
        exact k1 (q - L.length + 2) C hC
    · simp only at hk
      rw [List.length_append, List.length_set]
      split at hk
      · split at hk
        · have := k2 _ _ hk
          exact ⟨this.1, this.2.1, by omega⟩
        · rename_i hq hq2
          have h5 := k2 _ _ (hr.1 k ⟨q, hq2, hk⟩)
          exact ⟨h5.1, h5.2.1, by omega⟩
      · have := k2 _ _ hk
        simp only [List.length_cons] at this
        exact ⟨this.1, this.2.1, by omega⟩
    · simp only at hk hk'
      have old : ∀ q, q ≠ i → G q k → G' 1 k := fun q hq hk => hr.1 k ⟨q, hq, hk⟩
      split at hk <;> split at hk'
      · split at hk <;> split at hk'
        · omega
        · rename_i h4 h5
          exact absurd (k3 _ _ _ hk (old _ h5 hk')) (by omega)
        · rename_i h4 h5
          exact absurd (k3 _ _ _ hk' (old _ h4 hk)) (by omega)
        · exact h3 _ _ _ hk hk'
      · split at hk
        · exact absurd (k3 _ _ _ hk hk') (by omega)
        · rename_i h4
          exact absurd (k3 _ _ _ (old _ h4 hk) hk') (by omega)
      · split at hk'
        · exact absurd (k3 _ _ _ hk' hk) (by omega)
        · rename_i h4
          exact absurd (k3 _ _ _ (old _ h4 hk') hk) (by omega)
      · have := k3 _ _ _ hk hk'
        omega
theorem sl_open {X : Type} {A B : X → Res} (h : SL w0 w L) (i : Nat) (hi : L[i]? = some (exR A B)) : ∃ v, SL w0 w (L.set i (A v) ++ [B v]) := by
  obtain ⟨hb, G, h1, h2, h3⟩ := h
  have hil : i < L.length := (List.getElem?_eq_some_iff.1 hi).1
  obtain ⟨v, F1, F2, hA, hB, hF1, hF2, hd⟩ := h1 i _ hi
  refine ⟨v, hb, fun q k => if q = L.length then F2 k else if q = i then F1 k else G q k, fun q C hC => ?_, fun q k hk => ?_, fun q q' k hk hk' => ?_⟩
  · by_cases hq : q = L.length
    · subst hq
      rw [List.getElem?_append_right (by rw [List.length_set]; exact Nat.le_refl _), List.length_set, Nat.sub_self] at hC
      obtain rfl : B v = C := by simpa using hC
      show (B v).P w (fun k => if L.length = L.length then F2 k else if L.length = i then F1 k else G L.length k)
      simpa using hB
    · have hql : q < L.length := by
        have := (List.getElem?_eq_some_iff.1 hC).1
        simp at this
        omega
      rw [List.getElem?_append_left (by rw [List.length_set]; exact hql)] at hC
      by_cases hq2 : q = i
      · subst hq2
        rw [List.getElem?_set_self hil] at hC
        injection hC with hC
        subst hC
        show (A v).P w (fun k => if q = L.length then F2 k else if q = q then F1 k else G q k)
        simpa [hq] using hA
      · rw [List.getElem?_set_ne (Ne.symm hq2)] at hC
        show C.P w (fun k => if q = L.length then F2 k else if q = i then F1 k else G q k)
        simp only [hq, hq2, if_false]
        exact h1 q C hC
  · simp only at hk
    rw [List.length_append, List.length_set, List.length_singleton]
    split at hk
    · have := h2 _ _ (hF2 k hk)
      exact ⟨this.1, this.2.1, by omega⟩
    · split at hk
      · have := h2 _ _ (hF1 k hk)
        exact ⟨this.1, this.2.1, by omega⟩
      · have := h2 _ _ hk
        exact ⟨this.1, this.2.1, by omega⟩
  · simp only at hk hk'
    split at hk <;> split at hk'
    · omega
    · split at hk'
      · exact (hd _ hk' hk).elim
      · rename_i h4 h5 h6
        exact absurd (h3 _ _ _ hk' (hF2 k hk)) h6
    · split at hk
      · exact (hd _ hk hk').elim
      · rename_i h4 h5 h6
        exact absurd (h3 _ _ _ hk (hF2 k hk')) h6
    · split at hk <;> split at hk'
      · omega
      · rename_i h4 h5
        exact absurd (h3 _ _ _ hk' (hF1 k hk)) h5
      · rename_i h4 h5
        exact absurd (h3 _ _ _ hk (hF1 k hk')) h4
      · exact h3 _ _ _ hk hk'
theorem sl_imp {A' : Res} (h : SL w0 w L) (hi : L[i]? = some A) (k : ∀ F, A.P w F → A'.P w F) : SL w0 w (L.set i A') := by
  obtain ⟨F, h1, h2, h3⟩ := sl_upd h hi
  exact h3 w A' F (k F h1) (fun k hk => ⟨.inl hk, (h2 k hk).2⟩) (Chg.refl F w)
theorem sl_close {X : Type} {A B : X → Res} (v : X) (h : SL w0 w L) (i j : Nat) (hij : i ≠ j) (hi : L[i]? = some (A v)) (hj : L[j]? = some (B v)) : SL w0 w (((L.set i (andR (A v) (B v))).set j noneR).set i (exR A B)) := by
  have hil : i < L.length := (List.getElem?_eq_some_iff.1 hi).1
  refine sl_imp (sl_merge h i j hij hi hj) (by rw [List.getElem?_set_ne (Ne.symm hij), List.getElem?_set_self hil]) (fun F hP => ?_)
  obtain ⟨F1, F2, h1, h2, h3, h4, h5⟩ := hP
  exact ⟨v, F1, F2, h1, h2, h3, h4, h5⟩
/-- Some of the things, in any order. -/
theorem sl_pick (h : SL w0 w L) (js : List Nat) (hn : js.Nodup) (he : js.map (fun j => L[j]?) = L'.map some) : SL w0 w L' := by
  obtain ⟨hb, G, h1, h2, h3⟩ := h
  have hlen : js.length = L'.length := by have := congrArg List.length he; simpa using this
  have key : ∀ (q j : Nat), js[q]? = some j → L'[q]? = L[j]? := fun q j hq => by
    have h5 := congrArg (fun z : List (Option Res) => z[q]?) he
    simp only [List.getElem?_map, hq, Option.map_some] at h5
    cases h6 : L'[q]? with
    | none => rw [h6] at h5; cases h5
    | some B => rw [h6] at h5; simpa using h5.symm
  refine ⟨hb, fun q k => ∃ j, js[q]? = some j ∧ G j k, fun q B hB => ?_, fun q k ⟨j, hj, hk⟩ => ?_, fun q q' k ⟨j, hj, hk⟩ ⟨j', hj', hk'⟩ => ?_⟩
  · have hq : q < js.length := by rw [hlen]; exact (List.getElem?_eq_some_iff.1 hB).1
    have hj := List.getElem?_eq_getElem hq
    have h6 := h1 js[q] B (by rw [← key q _ hj]; exact hB)
    have e : (fun k => ∃ j, js[q]? = some j ∧ G j k) = G js[q] := funext fun k => propext ⟨fun ⟨j, hj', hk⟩ => by rw [hj] at hj'; injection hj' with hj'; rw [hj']; exact hk, fun hk => ⟨_, hj, hk⟩⟩
    show B.P w (fun k => ∃ j, js[q]? = some j ∧ G j k)
    rw [e]
    exact h6
  · have := h2 j k hk
    exact ⟨this.1, this.2.1, by rw [← hlen]; exact (List.getElem?_eq_some_iff.1 hj).1⟩
  · obtain rfl := h3 _ _ _ hk hk'
    obtain ⟨hq, e1⟩ := List.getElem?_eq_some_iff.1 hj
    obtain ⟨hq', e2⟩ := List.getElem?_eq_some_iff.1 hj'
    exact (List.getElem?_inj hq hn).1 (hj.trans hj'.symm)
end
/-! ### A call that only makes things -/
def rowS {α : Type} (b : Nat) (d : Kd α) (e : Nat) (v : Value) (xs : List α) : Res where
  P := fun w F => Kd.S d e w b F v xs
  loc := fun h hm => Kd.S_step h hm
section
variable {w0 w w1 : World} {L M : List Res} {α : Type} {d : Kd α} {e : TypeId} {v : Value} {xs : List α}
end
end Go.Proofs.Ytckpgccbhaejgaa.Sl
