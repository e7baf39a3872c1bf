import Derived.Test.YtipmcklkflgppaaOpen
import Derived.SizedLaws
/- The same, with the bound that the form sets on each slice that is met in reading. -/
namespace Go.Proofs.Ytipmcklkflgppaa.Open
open Go.ChangeShapes Go.WideShapes Go.ChangeAt Go.RowKit Go.Proofs.YtipmcklkflgppaaW.PrintWords Go.Proofs.YtipmcklkflgppaaW.PrintLast Go.Proofs.YtipmcklkflgppaaW.PrintMore
def OpensW {α : Type} (P : Program) (t : TypeId) (d : Kd α) (good : α → Prop) : Prop :=
  ∀ (H : Type) (enc : TypeId × Value → H) (w : World) (base : Nat) (spare : Nat → Bool) (held : Bool) (fuel : Nat) (cs : List Value) (x : DataW H × List MemPlace),
    DataW.trod enc P w base spare held fuel t cs = some x → (∀ n ∈ x.1.weights P t, n ≤ reachBytes) → ∃ a, good a ∧ d.K w a cs
theorem openedW {α : Type} {P : Program} {t : TypeId} {d : Kd α} {good : α → Prop} (h : OpensW P t d good) {H : Type} {enc : TypeId × Value → H} {w : World} {base : Nat} {spare : Nat → Bool} {held : Bool} {v : Value} {y : DataW H} {p : List MemPlace}
    (k : DataW.Trod enc P w base spare held t v y p) (hw : ∀ n ∈ y.weights P t, n ≤ reachBytes) : ∃ a, good a ∧ d.K w a v.cells.toList := by
  obtain ⟨fuel, hf⟩ := k
  exact h _ _ _ _ _ _ _ _ _ hf hw
theorem opensW_of {α : Type} {P : Program} {t : TypeId} {d : Kd α} {good : α → Prop} (h : Opens P t d good) : OpensW P t d good := fun H enc w base spare held fuel cs x hx _ => h H enc w base spare held fuel cs x hx
theorem weightsAll_mem {H : Type} {P : Program} {e : TypeId} : ∀ {ds : List (DataW H)} {d : DataW H}, d ∈ ds → ∀ n ∈ d.weights P e, n ∈ DataW.weightsAll P e ds
  | d0 :: ds, d, hd, n, hn => by
    simp only [DataW.weightsAll, List.mem_append]
    rcases List.mem_cons.1 hd with rfl | h
    · exact .inl hn
    · exact .inr (weightsAll_mem h n hn)
def gallW {α : Type} (P : Program) (e : TypeId) (g : α → Prop) (xs : List α) : Prop := (∀ x ∈ xs, g x) ∧ xs.length * P.bytesOf e ≤ reachBytes
theorem opensW_slice {α : Type} {P : Program} {t e : TypeId} {d : Kd α} {good : α → Prop} (ht : P.underlying t = some (.slice e)) (hc : P.cellsOf e = d.sz) (h : OpensW P e d good) :
    OpensW P t (Kd.slice e d) (gallW P e good) := fun H enc w base spare held fuel cs x hx hw => by
  rcases DataW.trod_slice ht hx with ⟨rfl, _⟩ | ⟨a, len, cap, elems, rest, n, _, rfl, hxe, hb, hl, hm, hlen, hel, _, _⟩
  · exact ⟨[], ⟨fun _ h => by simp at h, by simp⟩, none, 0, rfl, Nat.le_refl _, Kd.C_nil _ _⟩
  · have hw2 : ∀ m ∈ (elems.map (·.1)).length * P.bytesOf e :: DataW.weightsAll P e (elems.map (·.1)), m ≤ reachBytes := fun m hm2 => by
      rw [hxe] at hw
      simp only [DataW.weights, ht] at hw
      rcases List.mem_cons.1 hm2 with h1 | h1
      · have := hw _ (List.mem_cons_self ..)
        refine Nat.le_trans ?_ this
        rw [h1]
        exact Nat.mul_le_mul_right _ (by omega)
      · exact hw m (List.mem_cons_of_mem _ (List.mem_append_left _ h1))
    have each : ∀ i, i < len → ∃ q, good q ∧ ∃ c, c.length = d.sz ∧ d.K w q c ∧ ∀ j u, c[j]? = some u → w.cell? (a.add (i * d.sz + j)) = some u := by
      intro i hi
      have h1 := hel i hi
      rw [List.getElem?_eq_getElem (by omega), Option.bind_eq_some_iff] at h1
      obtain ⟨c, hcs, hy⟩ := h1
      obtain ⟨q, hq, hk⟩ := h H enc w base spare held n c _ hy (fun m hm2 => hw2 m (List.mem_cons_of_mem _ (weightsAll_mem (List.mem_map.2 ⟨_, List.getElem_mem _, rfl⟩) m hm2)))
      obtain ⟨_, hcl, hat⟩ := World.cells?_some hcs
      refine ⟨q, hq, c, d.K_len hk, hk, fun j u hu => ?_⟩
      have hj : j < P.cellsOf e := by
        have := (List.getElem?_eq_some_iff.1 hu).1
        have := d.K_len hk
        omega
      rw [← add_add', ← hc, hat j hj, hu]
    obtain ⟨xs, hxl, hxs⟩ := list_of (fun i q => good q ∧ ∃ c, c.length = d.sz ∧ d.K w q c ∧ ∀ j u, c[j]? = some u → w.cell? (a.add (i * d.sz + j)) = some u) len each
    refine ⟨xs, ⟨fun q hq => ?_, ?_⟩, some a, cap, by rw [hxl], by omega, rfl, by rw [hxl]; unfold maxLen at hm; omega, fun _ => ⟨a, rfl, fun j p hp => ?_⟩⟩
    · obtain ⟨i, hi⟩ := List.getElem?_of_mem hq
      exact (hxs i q hi).1
    · have := hw2 _ (List.mem_cons_self ..)
      rw [List.length_map, hlen] at this
      rw [hxl]
      exact this
    · obtain ⟨_, c, h1, h2, h3⟩ := hxs j p hp
      exact ⟨c, h1, h2, h3⟩
end Go.Proofs.Ytipmcklkflgppaa.Open
