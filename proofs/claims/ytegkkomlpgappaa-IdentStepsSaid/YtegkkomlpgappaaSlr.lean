import Derived.Test.YtegkkomlpgappaaLr
namespace Go.Proofs.Ytegkkomlpgappaa.Sl
open Go.RowKit Go.Proofs.YtegkkomlpgappaaW.PrintWords Go.Proofs.YtegkkomlpgappaaW.PrintLast Go.Proofs.YtegkkomlpgappaaW.PrintMore Go.Proofs.Ytegkkomlpgappaa.Sl Go.Proofs.Ytegkkomlpgappaa.Hand 
attribute [local go_sem] max2_int min2_int max_two min_two max_three min_three max_four min_four 
set_option linter.unusedVariables false
set_option linter.unusedSimpArgs false

/-! ### Rows of the call's own among its things -/
def lrR {α : Type} (d : Kd α) (enc : α → List Value) (e : TypeId) (v : Value) (xs : List α) : Res where
  P := fun w F => LR d enc e w F v xs
  loc := fun h hm => h.step hm
section
variable {w0 w : World} {L : List Res} {A : Res} {α : Type} {d : Kd α} {enc : α → List Value} {e : TypeId} {v : Value} {xs : List α}
theorem sl_nil (h : SL w0 w L) (d : Kd α) (enc : α → List Value) (e : TypeId) : SL w0 w (L ++ [lrR d enc e (.slice none 0 0) []]) :=
  sl_new h (Below.refl _ _) (F := fun _ => False) (LR.nil d enc e w _) (fun k hk => hk.elim)
/-- Some of the things are forgotten. -/
theorem sl_take (h : SL w0 w L) (n : Nat) : SL w0 w (L.take n) := by
  obtain ⟨hb, G, h1, h2, h3⟩ := h
  refine ⟨hb, fun j k => j < n ∧ G j k, fun j B hB => ?_, fun j k hk => ⟨(h2 j k hk.2).1, (h2 j k hk.2).2.1, ?_⟩, fun j j' k hk hk' => h3 j j' k hk.2 hk'.2⟩
  · rw [List.getElem?_take] at hB
    split at hB
    · rename_i hj
      have := h1 j B hB
      show B.P w (fun k => j < n ∧ G j k)
      simpa [hj] using this
    · cases hB
  · have := (h2 j k hk.2).2.2
    rw [List.length_take]
    omega
theorem sl_lr (h : SL w0 w L) (i : Nat) (hi : L[i]? = some (lrR d enc e v xs)) : ∃ F, LR d enc e w F v xs := by
  obtain ⟨F, h1, _, _⟩ := sl_upd h hi
  exact ⟨F, h1⟩
theorem sl_reads (f : Flat d enc) (h : SL w0 w L) (i : Nat) (hi : L[i]? = some (lrR d enc e v xs)) : ∃ A c, v = .slice A xs.length c ∧ xs.length ≤ c ∧ d.C w A xs.length xs := by
  obtain ⟨F, h1⟩ := sl_lr h i hi
  exact h1.reads f
theorem sl_reads' (f : Flat d enc) {A : Option Addr} {n c : Nat} (h : SL w0 w L) (i : Nat) (hi : L[i]? = some (lrR d enc e (.slice A n c) xs)) : d.C w A xs.length xs := by
  obtain ⟨F, h1⟩ := sl_lr h i hi
  exact (h1.reads' f).2.2
variable {P : Program} {ops : Array Oper} {rest : List Oper} {o : Oper} {a : Act} {Q : Exit → Act → World → Prop}
theorem sl_grown {w1 : World} {v1 : Value} {ys : List α} (h : SL w0 w L) (i : Nat) (hi : L[i]? = some (lrR d enc e v xs)) (hk : ∀ F, LR d enc e w F v xs → ∃ F', (∀ k, F' k → F k ∨ w.heap.size ≤ k) ∧ LR d enc e w1 F' v1 ys) (hg : w.grownBy w1 v.ownBlock) : SL w0 w1 (L.set i (lrR d enc e v1 ys)) := by
  obtain ⟨F, h1, h2, h3⟩ := sl_upd h hi
  obtain ⟨F', h4, h5⟩ := hk F h1
  exact h3 w1 _ (fun k => F' k ∧ k < w1.heap.size) (h5.bound.mono fun k hk => ⟨hk.1, hk.2.1⟩) (fun k hk => ⟨h4 k hk.1, hk.2⟩) ((Chg.refl F w).grown hg (fun k hk => .inl (h1.1 k hk)))
theorem sl_append_one (f : Flat d enc) (hgd : o.guard = none) (s x : Operand) (t : TypeId) (z : Value) (bytes : Nat)
    (ho : o.op = .call { callee := .builtin .append, args := #[s, x], argTypes := #[t, t] })
    (ht : P.underlying t = some (.slice e)) (hinfo : (P.info? e).map (fun i => (i.zero, i.size, i.bytes)) = some (some z, d.sz, bytes)) (hz : z.cells.size = d.sz) (hs0 : 0 < d.sz) (hb0 : 0 < bytes)
    (y : α) (cs : List Value) (hcs : enc y = cs) (hs : a.eval s = v) (hx : a.eval x = .slice (some ⟨w.heap.size, 0, none⟩) 1 1) (i : Nat) (hi : L[i]? = some (lrR d enc e v xs)) (h : SL w0 w L) (hl : (xs.length + 1) * bytes ≤ 140737488355328)
    (hk : ∀ A c w1, SL w0 w1 (L.set i (lrR d enc e (.slice A (xs.length + 1) c) (xs ++ [y]))) → wpList P ops Q rest (a.put o.dst (.slice A (xs.length + 1) c)) w1) :
    wpList P ops Q (o :: rest) a (w.alloc (.cells cs.toArray e)) := by
  obtain ⟨F, h1, h4, h5⟩ := sl_upd h hi
  refine LR.append_one f hgd s x t z bytes ho ht hinfo hz hs0 hb0 y cs hcs hs hx h1 hl ?_
  intro v1 w1 h2 h3
  obtain ⟨A, c, hv, _⟩ := h2.slice
  rw [List.length_append, List.length_singleton] at hv
  subst hv
  exact hk A c w1 (h5 w1 _ (fun k => (F k ∨ w.heap.size ≤ k) ∧ k < w1.heap.size) (h2.bound.mono fun k hk => ⟨hk.1, hk.2.1⟩) (fun k hk => hk) ((Chg.refl F w).grown h3 (fun k hk => .inl (h1.1 k hk))))
theorem sl_append_rows (f : Flat d enc) (hgd : o.guard = none) (s x : Operand) (t : TypeId) (z : Value) (bytes : Nat)
    (ho : o.op = .call { callee := .builtin .append, args := #[s, x], argTypes := #[t, t] })
    (ht : P.underlying t = some (.slice e)) (hinfo : (P.info? e).map (fun i => (i.zero, i.size, i.bytes)) = some (some z, d.sz, bytes)) (hz : z.cells.size = d.sz) (hs0 : 0 < d.sz) (hb0 : 0 < bytes)
    {B : Option Addr} {m c : Nat} (ys : List α) (hs : a.eval s = v) (hx : a.eval x = .slice B m c) (i : Nat) (hi : L[i]? = some (lrR d enc e v xs)) (h : SL w0 w L) (hy : d.C w B m ys) (hl : (xs.length + m) * bytes ≤ 140737488355328)
    (hk : ∀ A c w1, SL w0 w1 (L.set i (lrR d enc e (.slice A (xs.length + ys.length) c) (xs ++ ys))) → wpList P ops Q rest (a.put o.dst (.slice A (xs.length + ys.length) c)) w1) :
    wpList P ops Q (o :: rest) a w := by
  obtain ⟨F, h1, h4, h5⟩ := sl_upd h hi
  refine LR.append_rows f hgd s x t z bytes ho ht hinfo hz hs0 hb0 hs hx h1 hy hl ?_
  intro v1 w1 h2 h3
  obtain ⟨A, c, hv, _⟩ := h2.slice
  rw [List.length_append] at hv
  subst hv
  exact hk A c w1 (h5 w1 _ (fun k => (F k ∨ w.heap.size ≤ k) ∧ k < w1.heap.size) (h2.bound.mono fun k hk => ⟨hk.1, hk.2.1⟩) (fun k hk => hk) ((Chg.refl F w).grown h3 (fun k hk => .inl (h1.1 k hk))))
end
end Go.Proofs.Ytegkkomlpgappaa.Sl
