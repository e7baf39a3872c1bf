import Derived.Test.YtckpgccbhaejgaaNr
namespace Go.Proofs.Ytckpgccbhaejgaa.Sl
open Go.RowKit Go.Proofs.YtckpgccbhaejgaaW.PrintWords Go.Proofs.YtckpgccbhaejgaaW.PrintLast Go.Proofs.YtckpgccbhaejgaaW.PrintMore Go.Proofs.Ytckpgccbhaejgaa.Sl Go.Proofs.Ytckpgccbhaejgaa.Hand 
attribute [local go_sem] max2_int min2_int max_two min_two max_three min_three max_four min_four 
set_option linter.unusedVariables false
set_option linter.unusedSimpArgs false

/-! ### A whole block stored at once -/
theorem sl_row {w0 w : World} {L : List Res} {g : Nat} {t : TypeId} {cs : Array Value} (h : SL w0 w L) (i : Nat) (hi : L[i]? = some (cellsR g t cs)) (cs' : Array Value) : SL w0 (w.setRow g cs') (L.set i (cellsR g t cs')) := by
  obtain ⟨F, ⟨h1, h2⟩, h3, h4⟩ := sl_upd h hi
  refine h4 _ _ F ⟨h1, setRow_heap w g cs cs' t (0, 0) h2⟩ (fun k hk => ⟨.inl hk, by rw [setRow_size]; exact (h3 k hk).2⟩) ⟨rfl, rfl, rfl, by rw [setRow_size]; exact Nat.le_refl _, fun k hk hn => setRow_other w g k cs' (fun e => hn (e ▸ h1))⟩
theorem sl_ne {w0 w : World} {L : List Res} {g g' : Nat} {t t' : TypeId} {cs cs' : Array Value} (h : SL w0 w L) (i j : Nat) (hij : i ≠ j) (hi : L[i]? = some (cellsR g t cs)) (hj : L[j]? = some (cellsR g' t' cs')) : g ≠ g' := by
  obtain ⟨hb, G, h1, _, h3⟩ := h
  intro e
  subst e
  exact hij (h3 _ _ _ (h1 i _ hi).1 (h1 j _ hj).1)
theorem cell_row {w : World} {g n j : Nat} {v : Value} (hne : n ≠ g) (cs : Array Value) (h : w.cell? ⟨n, j, none⟩ = some v) : (w.setRow g cs).cell? ⟨n, j, none⟩ = some v := by
  rw [cell_setRow_other w g cs _ hne]
  exact h
theorem c_at {w0 w : World} {L : List Res} {g : Nat} {t : TypeId} {cs : Array Value} (h : SL w0 w L) (i : Nat) (hi : L[i]? = some (cellsR g t cs)) (j : Nat) {v : Value} (hv : cs[j]? = some v) : w.cell? ⟨g, j, none⟩ = some v := (blk_cell (sl_blk h i hi) j).trans hv
theorem f_at {w0 w : World} {L : List Res} {g : Nat} {t : TypeId} {cs : Array Value} (h : SL w0 w L) (i : Nat) (hi : L[i]? = some (cellsR g t cs)) (j : Nat) : w.frozen? ⟨g, j, none⟩ = false := blk_frozen (sl_blk h i hi) j
end Go.Proofs.Ytckpgccbhaejgaa.Sl
