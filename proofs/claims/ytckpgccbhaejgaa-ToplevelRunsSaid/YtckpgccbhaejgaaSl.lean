import Derived.Test.YtckpgccbhaejgaaProg
import Derived.Below
import Derived.Deep.Draws
import Derived.Deep.AppendLies
import Derived.Maps.AppendAt
import Derived.OwnWalk
import Derived.Laws.BytesArg
import Derived.Laws.MakeOwn
import Derived.Laws.OwnMore
import Derived.Deep.OwnRows
import Derived.Tactics
import Derived.Lib.ConvBytes
import Derived.Laws.Slices
import Derived.WalkKit
import Derived.KernelRfl
import Derived.RowKit3
import Derived.Deep.LoopGhost
import Derived.Deep.QuietTactic
import Derived.BigQuiet
import Derived.WideLaws
import Derived.Deep.DeepCutAuto
import Derived.Deep.CutBlock
import Derived.Deep.RegionHeld3
import Derived.Laws.Rows
import Derived.Lib.AppendStr
import Derived.ArgAppend
import Derived.Laws.IdiomCopy
import Derived.OrdersHeld
import Derived.Laws.BitsLemmas
import Derived.RowKit
import Derived.Test.YtckpgccbhaejgaaWWords
import Derived.Test.YtckpgccbhaejgaaWLast
import Derived.Test.YtckpgccbhaejgaaWTab
import Derived.Test.YtckpgccbhaejgaaWFour
import Derived.Test.YtckpgccbhaejgaaWQPut
import Derived.Test.YtckpgccbhaejgaaWApart
import Derived.Test.YtckpgccbhaejgaaWArr
import Derived.Test.YtckpgccbhaejgaaWZeros
import Derived.Test.YtckpgccbhaejgaaWFoot
import Derived.Test.YtckpgccbhaejgaaWKept
import Derived.Test.YtckpgccbhaejgaaWShare
import Derived.Test.YtckpgccbhaejgaaWN
import Derived.Test.YtckpgccbhaejgaaWFootNe
import Derived.Test.YtckpgccbhaejgaaWAt
import Derived.Test.YtckpgccbhaejgaaWEqStruct
import Derived.Test.YtckpgccbhaejgaaWRepsOne
import Derived.Test.YtckpgccbhaejgaaWInv
import Derived.Test.YtckpgccbhaejgaaWInvWords
import Derived.Test.YtckpgccbhaejgaaWGuard
import Derived.Test.YtckpgccbhaejgaaWNEv
import Derived.Test.YtckpgccbhaejgaaWMore
namespace Go.Proofs.Ytckpgccbhaejgaa.Sl
open Go.RowKit Go.Proofs.YtckpgccbhaejgaaW.PrintWords Go.Proofs.YtckpgccbhaejgaaW.PrintLast Go.Proofs.YtckpgccbhaejgaaW.PrintMore 
attribute [local go_sem] max2_int min2_int max_two min_two max_three min_three max_four min_four 
set_option linter.unusedVariables false
set_option linter.unusedSimpArgs false

/-! ### What is the call's own, thing by thing -/
/-- What turned between two worlds: nothing of the first but the blocks of F. -/
structure Chg (F : Nat → Prop) (w w' : World) : Prop where
  os : w'.os = w.os
  tape : w'.tape = w.tape
  output : w'.output = w.output
  size : w.heap.size ≤ w'.heap.size
  block : ∀ k, k < w.heap.size → ¬ F k → w'.heap[k]? = w.heap[k]?
namespace Chg
variable {F F1 : Nat → Prop} {w w1 w2 : World}
theorem refl (F : Nat → Prop) (w : World) : Chg F w w := ⟨rfl, rfl, rfl, Nat.le_refl _, fun _ _ _ => rfl⟩
theorem trans (h : Chg F w w1) (k : Chg F1 w1 w2) (hF : ∀ i, F1 i → F i ∨ w.heap.size ≤ i) : Chg F w w2 :=
  ⟨k.os.trans h.os, k.tape.trans h.tape, k.output.trans h.output, Nat.le_trans h.size k.size, fun i hi hn => (k.block i (Nat.lt_of_lt_of_le hi h.size) (fun h1 => by
    rcases hF i h1 with h2 | h2
    · exact hn h2
    · omega)).trans (h.block i hi hn)⟩
theorem then_ (h : Chg F w w1) (k : Chg F w1 w2) : Chg F w w2 := h.trans k fun _ hi => .inl hi
theorem mono (h : Chg F w w1) (hF : ∀ i, F i → F1 i ∨ w.heap.size ≤ i) : Chg F1 w w1 := (refl F1 w).trans h hF
theorem of_below (h : Below w.heap.size w w1) : Chg F w w1 := ⟨h.os, h.tape, h.output, h.size, fun i hi _ => h.block i hi⟩
theorem below (h : Chg F w w1) (k : Below w1.heap.size w1 w2) : Chg F w w2 := h.then_ (of_below k)
theorem drew (h : Chg F w w1) : Chg F w w1.drew := ⟨h.os, h.tape, h.output, h.size, h.block⟩
theorem drewN (h : Chg F w w1) (n : Nat) : Chg F w (w1.drewN n) := ⟨h.os, h.tape, h.output, h.size, h.block⟩
theorem alloc (h : Chg F w w1) (o : Obj) : Chg F w (w1.alloc o) := h.below (below_alloc (Below.refl _ _) o)
theorem setCell (h : Chg F w w1) {p : Addr} (hp : F p.block ∨ w.heap.size ≤ p.block) (u : Value) : Chg F w (w1.setCell p u) :=
  h.trans (F1 := fun i => i = p.block) ⟨rfl, rfl, rfl, by simp [World.setCell], fun i _ hi => Below.heap_setCell w1 p u i hi⟩ (fun i hi => by rw [hi]; exact hp)
theorem grown (h : Chg F w w1) {row : Option Nat} (hg : w1.grownBy w2 row) (hr : ∀ k, row = some k → F k ∨ w.heap.size ≤ k) : Chg F w w2 :=
  h.trans (F1 := fun i => row = some i) ⟨hg.os, hg.tape, hg.output, hg.size, fun i hi hn => hg.block i hi (fun e => hn e.symm)⟩ hr
theorem of_keep {B g : Nat} (hb : Below B w w1) (hk : KeepBut w w1 g none) (hF : F g) : Chg F w w1 := ⟨hb.os, hb.tape, hb.output, hk.1, fun i hi hn => hk.2 i hi (fun e => hn (e ▸ hF)) (by simp)⟩
end Chg

/-- A kind of thing in memory: P w F: in w it lies in blocks of F. -/
structure Res where
  P : World → (Nat → Prop) → Prop
  loc : ∀ {w w' : World} {F : Nat → Prop}, P w F → (∀ k, F k → k < w.heap.size → w'.heap[k]? = w.heap[k]?) → P w' F
/-- A block known whole. -/
def cellsR (g : Nat) (t : TypeId) (cs : Array Value) : Res where
  P := fun w F => F g ∧ w.heap[g]? = some (.cells cs t (0, 0))
  loc := fun ⟨h1, h2⟩ hm => ⟨h1, (hm _ h1 (blk_lt h2)).trans h2⟩
/-- A row. -/
def rowR {α : Type} (d : Kd α) (e : Nat) (v : Value) (xs : List α) : Res where
  P := fun w F => d.R e w 0 F v xs
  loc := fun h hm => Kd.R_step h hm
def rowQ {α : Type} (d : Kd α) (e : Nat) (v : Value) (xs : List α) : Res where
  P := fun w F => d.Q e w 0 F v xs
  loc := fun h hm => Kd.Q_step h hm
def noneR : Res where
  P := fun _ _ => True
  loc := fun _ _ => trivial

/-- w: since w0 nothing that was there has turned, and the things of L lie in blocks that are new since then, each in its own. -/
def SL (w0 w : World) (L : List Res) : Prop :=
  Below w0.heap.size w0 w ∧ ∃ G : Nat → Nat → Prop, (∀ (j : Nat) (A : Res), L[j]? = some A → A.P w (G j)) ∧ (∀ j k, G j k → w0.heap.size ≤ k ∧ k < w.heap.size ∧ j < L.length) ∧ ∀ j j' k, G j k → G j' k → j = j'
section
variable {w0 w w1 : World} {L : List Res} {A A' : Res} {i : Nat}
theorem sl_start (w : World) : SL w w [] := ⟨Below.refl _ _, fun _ _ => False, fun j A h => by simp at h, fun _ _ h => h.elim, fun _ _ _ h => h.elim⟩
theorem sl_below0 (h : SL w0 w L) : Below w0.heap.size w0 w := h.1
/-- One thing turns, all else stays. -/
theorem sl_upd (h : SL w0 w L) (hi : L[i]? = some A) : ∃ F : Nat → Prop, A.P w F ∧ (∀ k, F k → w0.heap.size ≤ k ∧ k < w.heap.size) ∧
    ∀ (w' : World) (A' : Res) (F' : Nat → Prop), A'.P w' F' → (∀ k, F' k → (F k ∨ w.heap.size ≤ k) ∧ k < w'.heap.size) → Chg F w w' → SL w0 w' (L.set i A') := by
  obtain ⟨hb, G, h1, h2, h3⟩ := h
  have hil : i < L.length := (List.getElem?_eq_some_iff.1 hi).1
  refine ⟨G i, h1 i A hi, fun k hk => ⟨(h2 i k hk).1, (h2 i k hk).2.1⟩, fun w' A' F' hP hF hc => ?_⟩
  refine ⟨hb.trans ⟨hc.os, hc.tape, hc.output, hc.size, fun k hk => hc.block k (Nat.lt_of_lt_of_le hk hb.size) (fun hg => by have := (h2 i k hg).1; omega)⟩, fun j k => if j = i then F' k else G j k, fun j B hB => ?_, fun j k hk => ?_, fun j j' k hk hk' => ?_⟩
  · by_cases hj : j = i
    · subst hj
      rw [List.getElem?_set_self hil] at hB
      injection hB with hB
      subst hB
      show A'.P w' (fun k => if j = j then F' k else G j k)
      simpa using hP
    · rw [List.getElem?_set_ne (Ne.symm hj)] at hB
      show B.P w' (fun k => if j = i then F' k else G j k)
      simp only [hj, if_false]
      exact B.loc (h1 j B hB) (fun k hk hlt => hc.block k hlt (fun hg => hj (h3 _ _ _ hk hg)))
  · by_cases hj : j = i
    · simp only [hj, if_true] at hk
      obtain ⟨h4, h5⟩ := hF k hk
      refine ⟨?_, h5, by rw [List.length_set, hj]; exact hil⟩
      rcases h4 with h4 | h4
      · exact (h2 i k h4).1
      · have := hb.size; omega
    · simp only [hj, if_false] at hk
      obtain ⟨h4, h5, h6⟩ := h2 j k hk
      exact ⟨h4, Nat.lt_of_lt_of_le h5 hc.size, by rw [List.length_set]; exact h6⟩
  · have far : ∀ j k, ¬ j = i → F' k → G j k → False := fun j k hj hf hg => by
      rcases (hF k hf).1 with h4 | h4
      · exact hj (h3 _ _ _ hg h4)
      · have := (h2 j k hg).2.1; omega
    by_cases hj : j = i <;> by_cases hj' : j' = i
    · omega
    · simp only [hj, hj', if_true, if_false] at hk hk'
      exact (far _ _ hj' hk hk').elim
    · simp only [hj, hj', if_true, if_false] at hk hk'
      exact (far _ _ hj hk' hk).elim
    · simp only [hj, hj', if_false] at hk hk'
      exact h3 _ _ _ hk hk'
/-- Something new. -/
theorem sl_new (h : SL w0 w L) (hw : Below w.heap.size w w1) {F : Nat → Prop} (hA : A.P w1 F) (hF : ∀ k, F k → w.heap.size ≤ k ∧ k < w1.heap.size) : SL w0 w1 (L ++ [A]) := by
  obtain ⟨hb, G, h1, h2, h3⟩ := h
  refine ⟨below_then hb hb.size hw, fun j k => if j = L.length then F k else G j k, fun j B hB => ?_, fun j k hk => ?_, fun j j' k hk hk' => ?_⟩
  · by_cases hj : j = L.length
    · subst hj
      simp at hB
      subst hB
      simpa using hA
    · have hjl : j < L.length := by
        have := (List.getElem?_eq_some_iff.1 hB).1
        simp at this
        omega
      rw [List.getElem?_append_left hjl] at hB
      show B.P w1 (fun k => if j = L.length then F k else G j k)
      simp only [hj, if_false]
      exact B.loc (h1 j B hB) (fun k _ hlt => hw.block k hlt)
  · by_cases hj : j = L.length
    · simp only [hj, if_true] at hk
      obtain ⟨h4, h5⟩ := hF k hk
      exact ⟨Nat.le_trans hb.size h4, h5, by simp [hj]⟩
    · simp only [hj, if_false] at hk
      obtain ⟨h4, h5, h6⟩ := h2 j k hk
      exact ⟨h4, Nat.lt_of_lt_of_le h5 hw.size, by simp; omega⟩
  · have far : ∀ j k, F k → G j k → False := fun j k hf hg => by
      have := (hF k hf).1
      have := (h2 j k hg).2.1
      omega
    by_cases hj : j = L.length <;> by_cases hj' : j' = L.length
    · omega
    · simp only [hj, hj', if_true, if_false] at hk hk'
      exact (far _ _ hk hk').elim
    · simp only [hj, hj', if_true, if_false] at hk hk'
      exact (far _ _ hk' hk).elim
    · simp only [hj, hj', if_false] at hk hk'
      exact h3 _ _ _ hk hk'
theorem sl_below (h : SL w0 w L) (hw : Below w.heap.size w w1) : SL w0 w1 L := by
  obtain ⟨hb, G, h1, h2, h3⟩ := h
  exact ⟨below_then hb hb.size hw, G, fun j B hB => B.loc (h1 j B hB) (fun k _ hlt => hw.block k hlt), fun j k hk => ⟨(h2 j k hk).1, Nat.lt_of_lt_of_le (h2 j k hk).2.1 hw.size, (h2 j k hk).2.2⟩, h3⟩
theorem sl_drew (h : SL w0 w L) : SL w0 w.drew L := sl_below h (below_drew (Below.refl _ _))
theorem sl_drewN (h : SL w0 w L) (n : Nat) : SL w0 (w.drewN n) L := sl_below h (pw_below_drewN (Below.refl _ _) n)
theorem sl_alloc (h : SL w0 w L) (o : Obj) : SL w0 (w.alloc o) L := sl_below h (below_alloc (Below.refl _ _) o)
theorem sl_box (h : SL w0 w L) (cs : Array Value) (t : TypeId) : SL w0 (w.alloc (.cells cs t)) (L ++ [cellsR w.heap.size t cs]) :=
  sl_new h (below_alloc (Below.refl _ _) _) (F := fun k => k = w.heap.size) ⟨rfl, by simpa using heap_alloc_new w (.cells cs t)⟩ (fun k hk => by simp [hk])
/-- A box that has just been made, its place a letter. -/
theorem sl_box' {g : Nat} {t : TypeId} {cs : Array Value} (h : SL w0 w L) (hw : Below w.heap.size w w1) (hg : w.heap.size ≤ g) (hb : w1.heap[g]? = some (.cells cs t (0, 0))) : SL w0 w1 (L ++ [cellsR g t cs]) :=
  sl_new h hw (F := fun k => k = g) ⟨rfl, hb⟩ (fun k hk => by rw [hk]; exact ⟨hg, blk_lt hb⟩)
theorem sl_blk {g : Nat} {t : TypeId} {cs : Array Value} (h : SL w0 w L) (i : Nat) (hi : L[i]? = some (cellsR g t cs)) : w.heap[g]? = some (.cells cs t (0, 0)) := by
  obtain ⟨hb, G, h1, _, _⟩ := h
  exact (h1 i _ hi).2
theorem sl_put {g : Nat} {t : TypeId} {cs : Array Value} (h : SL w0 w L) (i : Nat) (hi : L[i]? = some (cellsR g t cs)) (j : Nat) (u : Value) : SL w0 (w.setCell ⟨g, j, none⟩ u) (L.set i (cellsR g t (cs.setIfInBounds j u))) := by
  obtain ⟨F, ⟨h1, h2⟩, h3, h4⟩ := sl_upd h hi
  refine h4 _ _ F ⟨h1, blk_set h2 j u⟩ (fun k hk => ⟨.inl hk, by simpa [World.setCell] using (h3 k hk).2⟩) ((Chg.refl F w).setCell (.inl h1) u)
end
end Go.Proofs.Ytckpgccbhaejgaa.Sl
