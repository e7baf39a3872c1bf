import Derived.Test.YtckpgccbhaejgaaWMore
import Derived.Test.YtckpgccbhaejgaaWArr
import Derived.WalkKit
import Derived.ProofKit
import Derived.OpenShut
import Derived.ChangeOld
import Derived.Below
/- What a law's arguments hold, read as plain data, type by type: from the form's own reading ('DataW.trod') to the kinds of the printed contracts. -/
namespace Go.Proofs.Ytckpgccbhaejgaa.Open
open Go.ChangeShapes Go.WideShapes Go.ChangeAt Go.RowKit Go.Proofs.YtckpgccbhaejgaaW.PrintWords Go.Proofs.YtckpgccbhaejgaaW.PrintLast Go.Proofs.YtckpgccbhaejgaaW.PrintMore

/-- What lies in such cells reads as a datum of d, which is good. -/
def Opens {α : Type} (P : Program) (t : TypeId) (d : Kd α) (good : α → Prop) : Prop :=
  ∀ (H : Type) (enc : TypeId × Value → H) (w : World) (base : Nat) (spare : Nat → Bool) (held : Bool) (fuel : Nat) (cs : List Value) (x : DataW H × List MemPlace),
    DataW.trod enc P w base spare held fuel t cs = some x → ∃ a, good a ∧ d.K w a cs
theorem opened {α : Type} {P : Program} {t : TypeId} {d : Kd α} {good : α → Prop} (h : Opens P t d good) {H : Type} {enc : TypeId × Value → H} {w : World} {base : Nat} {spare : Nat → Bool} {held : Bool} {v : Value} {y : DataW H} {p : List MemPlace}
    (k : DataW.Trod enc P w base spare held t v y p) : ∃ a, good a ∧ d.K w a v.cells.toList := by
  obtain ⟨fuel, hf⟩ := k
  exact h _ _ _ _ _ _ _ _ _ hf
theorem Opens.imp {α : Type} {P : Program} {t : TypeId} {d : Kd α} {g g' : α → Prop} (h : Opens P t d g) (k : ∀ a, g a → g' a) : Opens P t d g' := fun H enc w base spare held fuel cs x hx => by
  obtain ⟨a, ha, hk⟩ := h H enc w base spare held fuel cs x hx
  exact ⟨a, k a ha, hk⟩
def gint (k : IntKind) (n : Int) : Prop := (Lit.int k n).wf = true
def gany {α : Type} (_ : α) : Prop := True
def gstr (s : ByteArray) : Prop := s.size ≤ maxLen
def gall {α : Type} (g : α → Prop) (xs : List α) : Prop := ∀ x ∈ xs, g x
def gpair {α β : Type} (g : α → Prop) (g' : β → Prop) (x : α × β) : Prop := g x.1 ∧ g' x.2
def giso {α β : Type} (g : α → Prop) (f : β → α) (b : β) : Prop := g (f b)
theorem opens_int {P : Program} {t : TypeId} {k : IntKind} (ht : P.underlying t = some (.int k)) : Opens P t (Kd.int k) (gint k) := fun H enc w base spare held fuel cs x hx => by
  obtain ⟨n, rfl, _, hw⟩ := DataW.trod_int ht hx
  exact ⟨n, hw, rfl⟩
theorem opens_bool {P : Program} {t : TypeId} (ht : P.underlying t = some .bool) : Opens P t Kd.bool gany := fun H enc w base spare held fuel cs x hx => by
  obtain ⟨b, rfl, _⟩ := DataW.trod_bool ht hx
  exact ⟨b, trivial, rfl⟩
theorem opens_string {P : Program} {t : TypeId} (ht : P.underlying t = some .string) : Opens P t Kd.string gstr := fun H enc w base spare held fuel cs x hx => by
  obtain ⟨s, rfl, _, hs⟩ := DataW.trod_string ht hx
  exact ⟨s, hs, rfl⟩
theorem list_of {α : Type} (g : Nat → α → Prop) : ∀ n : Nat, (∀ i, i < n → ∃ a, g i a) → ∃ xs : List α, xs.length = n ∧ ∀ i a, xs[i]? = some a → g i a
  | 0, _ => ⟨[], rfl, fun i a h => by simp at h⟩
  | n + 1, h => by
    obtain ⟨xs, hl, hx⟩ := list_of g n (fun i hi => h i (by omega))
    obtain ⟨a, ha⟩ := h n (by omega)
    refine ⟨xs ++ [a], by simp [hl], fun i b hb => ?_⟩
    by_cases hi : i < n
    · rw [List.getElem?_append_left (by omega)] at hb
      exact hx i b hb
    · have h2 := (List.getElem?_eq_some_iff.1 hb).1
      simp [hl] at h2
      have : i = n := by omega
      subst this
      rw [List.getElem?_append_right (by omega), hl, Nat.sub_self] at hb
      simp at hb
      exact hb ▸ ha
theorem add_add' (a : Addr) (i j : Nat) : (a.add i).add j = a.add (i + j) := by
  unfold Addr.add
  by_cases hj : j = 0
  · subst hj; simp
  · by_cases hi : i = 0
    · subst hi; simp [hj]
    · simp [hi, hj, Nat.add_assoc]
theorem opens_slice {α : Type} {P : Program} {t e : TypeId} {d : Kd α} {good : α → Prop} (ht : P.underlying t = some (.slice e)) (hc : P.cellsOf e = d.sz) (h : Opens P e d good) :
    Opens P t (Kd.slice e d) (gall good) := fun H enc w base spare held fuel cs x hx => by
  rcases DataW.trod_slice ht hx with ⟨rfl, _⟩ | ⟨a, len, cap, elems, rest, n, _, rfl, _, hb, hl, hm, hlen, hel, _, _⟩
  · exact ⟨[], fun _ h => by simp at h, none, 0, rfl, Nat.le_refl _, Kd.C_nil _ _⟩
  · have each : ∀ i, i < len → ∃ q, good q ∧ ∃ c, c.length = d.sz ∧ d.K w q c ∧ ∀ j u, c[j]? = some u → w.cell? (a.add (i * d.sz + j)) = some u := by
      intro i hi
      have h1 := hel i hi
      rw [List.getElem?_eq_getElem (by omega), Option.bind_eq_some_iff] at h1
      obtain ⟨c, hcs, hy⟩ := h1
      obtain ⟨q, hq, hk⟩ := h H enc w base spare held n c _ hy
      obtain ⟨_, hcl, hat⟩ := World.cells?_some hcs
      refine ⟨q, hq, c, d.K_len hk, hk, fun j u hu => ?_⟩
      have hj : j < P.cellsOf e := by
        have := (List.getElem?_eq_some_iff.1 hu).1
        have := d.K_len hk
        omega
      rw [← add_add', ← hc, hat j hj, hu]
    obtain ⟨xs, hxl, hxs⟩ := list_of (fun i q => good q ∧ ∃ c, c.length = d.sz ∧ d.K w q c ∧ ∀ j u, c[j]? = some u → w.cell? (a.add (i * d.sz + j)) = some u) len each
    refine ⟨xs, fun q hq => ?_, some a, cap, by rw [hxl], by omega, rfl, by rw [hxl]; unfold maxLen at hm; omega, fun _ => ⟨a, rfl, fun j p hp => ?_⟩⟩
    · obtain ⟨i, hi⟩ := List.getElem?_of_mem hq
      exact (hxs i q hi).1
    · obtain ⟨_, c, h1, h2, h3⟩ := hxs j p hp
      exact ⟨c, h1, h2, h3⟩
/-- Fields fs, the first at cell off, read as a datum of d. -/
def OpensAt {α : Type} (P : Program) (off : Nat) (fs : List Field) (d : Kd α) (good : α → Prop) : Prop :=
  ∀ (H : Type) (enc : TypeId × Value → H) (w : World) (base : Nat) (spare : Nat → Bool) (held : Bool) (n : Nat) (cs : List Value), cs.length = off + d.sz →
    (∀ f ∈ fs, ∃ y, DataW.trod enc P w base spare held n f.type ((cs.drop f.offset).take (P.cellsOf f.type)) = some y) → ∃ a, good a ∧ d.K w a (cs.drop off)
theorem at_last {α : Type} {P : Program} {off : Nat} {f : Field} {d : Kd α} {good : α → Prop} (ho : f.offset = off) (hc : P.cellsOf f.type = d.sz) (h : Opens P f.type d good) : OpensAt P off [f] d good := fun H enc w base spare held n cs hl hf => by
  obtain ⟨y, hy⟩ := hf f (by simp)
  obtain ⟨a, ha, hk⟩ := h H enc w base spare held n _ _ hy
  rw [ho, hc, List.take_of_length_le (by rw [List.length_drop]; omega)] at hk
  exact ⟨a, ha, hk⟩
theorem at_cons {α β : Type} {P : Program} {off off' : Nat} {f : Field} {fs : List Field} {d : Kd α} {d' : Kd β} {good : α → Prop} {good' : β → Prop} (ho : f.offset = off) (hc : P.cellsOf f.type = d.sz) (hn : off + d.sz = off') (h : Opens P f.type d good) (h' : OpensAt P off' fs d' good') :
    OpensAt P off (f :: fs) (Kd.pair d d') (gpair good good') := fun H enc w base spare held n cs hl hf => by
  obtain ⟨y, hy⟩ := hf f (by simp)
  obtain ⟨a, ha, hk⟩ := h H enc w base spare held n _ _ hy
  have hl' : cs.length = off + (d.sz + d'.sz) := hl
  obtain ⟨b, hb, hk'⟩ := h' H enc w base spare held n cs (by omega) (fun g hg => hf g (by simp [hg]))
  rw [ho] at hk
  refine ⟨(a, b), ⟨ha, hb⟩, (cs.drop off).take (P.cellsOf f.type), cs.drop off', ?_, hk, hk'⟩
  rw [hc, ← hn, ← List.drop_drop, List.take_append_drop]
theorem opens_struct {α : Type} {P : Program} {t : TypeId} {fs : Array Field} {d : Kd α} {good : α → Prop} (ht : P.underlying t = some (.struct fs)) (hc : P.cellsOf t = d.sz) (h : OpensAt P 0 fs.toList d good) : Opens P t d good := fun H enc w base spare held fuel cs x hx => by
  obtain ⟨xs, n, _, _, hl, hxl, hf⟩ := DataW.trod_struct ht hx
  obtain ⟨a, ha, hk⟩ := h H enc w base spare held n cs (by omega) (fun f hm => by
    obtain ⟨i, hi⟩ := List.getElem?_of_mem hm
    have h1 := hf i f (by simpa using hi)
    have hil : i < xs.length := by
      have := (List.getElem?_eq_some_iff.1 hi).1
      simp at this
      omega
    exact ⟨_, h1.trans (List.getElem?_eq_getElem hil)⟩)
  exact ⟨a, ha, hk⟩
theorem opens_iso {α β : Type} {P : Program} {t : TypeId} {d : Kd α} {good : α → Prop} (f : β → α) (g : α → β) (hfg : ∀ a, f (g a) = a) (h : Opens P t d good) : Opens P t (Kd.iso d f) (giso good f) := fun H enc w base spare held fuel cs x hx => by
  obtain ⟨a, ha, hk⟩ := h H enc w base spare held fuel cs x hx
  refine ⟨g a, (show good (f (g a)) by rw [hfg]; exact ha), ?_⟩
  show d.K w (f (g a)) cs
  rw [hfg]
  exact hk
end Go.Proofs.Ytckpgccbhaejgaa.Open
