import Derived.Maps.OwnSet
import Derived.Test.YtegkkomlpgappaaNr
namespace Go.Proofs.Ytegkkomlpgappaa.Sl
open Go.RowKit Go.Proofs.YtegkkomlpgappaaW.PrintWords Go.Proofs.YtegkkomlpgappaaW.PrintLast Go.Proofs.YtegkkomlpgappaaW.PrintMore Go.Proofs.Ytegkkomlpgappaa.Sl Go.Proofs.Ytegkkomlpgappaa.Hand 
attribute [local go_sem] max2_int min2_int max_two min_two max_three min_three max_four min_four 
set_option linter.unusedVariables false
set_option linter.unusedSimpArgs false

/-! ### Sets of numbers: maps whose elements are all true -/
open Go.Maps (Keyed)
theorem plainElem_bool_inv {P : Program} {e : TypeId} (he : P.underlying e = some .bool) {v : Value} {z : DataW Unit × List MemPlace} (h : plainElem P e v = some z) : ∃ x, v = .bool x ∧ z = (.lit (.bool x), []) := by
  unfold plainElem at h
  rw [he] at h
  cases v <;> simp at h
  exact ⟨_, rfl, h.symm⟩
def addS (xs : List Int) (k : Int) : List Int := if k ∈ xs then xs else xs ++ [k]
def delS (xs : List Int) (k : Int) : List Int := xs.filter (fun x => decide (x ≠ k))
/-- Block b is a set of numbers. -/
def SetP (P : Program) (K E : TypeId) (q : IntKind) (w : World) (b : Nat) (xs : List Int) : Prop :=
  ∃ D : DataW Unit, w.ownsMap P K (plainElem P E) b xs.length D ∧ xs.Nodup ∧ (∀ x : Int, Maps.has D (.int q x) = decide (x ∈ xs)) ∧ (∀ x ∈ xs, ∀ z, D.atKey (.int q x) z = .lit (.bool true)) ∧ Maps.size D = xs.length
section
variable {P : Program} {K E T : TypeId} {q : IntKind} {w w1 : World} {b : Nat} {xs : List Int}
theorem SetP.made (w : World) (P : Program) (K E : TypeId) (q : IntKind) : SetP P K E q (w.alloc (.map #[] 0)) w.heap.size [] :=
  ⟨.map [], World.ownsMap_made w P K _, List.nodup_nil, fun x => by simp [Maps.has], fun x hx => by simp at hx, rfl⟩
theorem SetP.step (h : SetP P K E q w b xs) (hm : b < w.heap.size → w1.heap[b]? = w.heap[b]?) : SetP P K E q w1 b xs := by
  obtain ⟨D, h2, r⟩ := h
  have hlt := h2.lt
  obtain ⟨es, clock, hb, F, hs, hD⟩ := h2
  exact ⟨D, ⟨es, clock, (hm hlt).trans hb, F, hs, hD⟩, r⟩
theorem SetP.lt (h : SetP P K E q w b xs) : b < w.heap.size := by
  obtain ⟨D, h2, r⟩ := h
  exact h2.lt
theorem SetP.nodup (h : SetP P K E q w b xs) : xs.Nodup := by
  obtain ⟨D, _, r, _⟩ := h
  exact r
theorem SetP.look (h : SetP P K E q w b xs) (hk : P.underlying K = some (.int q)) (ht : P.underlying T = some (.map K E)) (he : P.underlying E = some .bool) (hz : (zeroValue E).run P w = .ok (.bool false) w) {k : Int} (hw : (Lit.int q k).wf = true) :
    (Instr.lookup T (.map (some b)) (.int q k) false).run P w = .ok (.bool (decide (k ∈ xs))) w := by
  obtain ⟨D, h2, h3, h4, h5, h6⟩ := h
  obtain ⟨v, ps, hrun, hv⟩ := h2.lookup (Maps.int_keyed hk) ht hz (plainElem_bool he false) (Maps.keyOf_int_mk hk hw)
  obtain ⟨x, rfl, hx⟩ := plainElem_bool_inv he hv
  rw [hrun]
  by_cases hm : k ∈ xs
  · rw [h5 k hm] at hx
    injection hx with hx _
    injection hx with hx
    injection hx with hx
    rw [decide_eq_true hm, ← hx]
  · have h7 : Maps.has D (.int q k) = false := by rw [h4, decide_eq_false hm]
    rw [Maps.atKey_of_not_has h7] at hx
    injection hx with hx _
    injection hx with hx
    injection hx with hx
    rw [decide_eq_false hm, ← hx]
theorem addS_len (xs : List Int) (k : Int) : xs.length ≤ (addS xs k).length ∧ (addS xs k).length = (if k ∈ xs then xs.length else xs.length + 1) := by
  unfold addS
  split <;> simp
theorem mem_addS {xs : List Int} {k x : Int} : x ∈ addS xs k ↔ x ∈ xs ∨ x = k := by
  unfold addS
  split
  · rename_i h
    exact ⟨.inl, fun h2 => h2.elim id fun e => e ▸ h⟩
  · simp
theorem mem_delS {xs : List Int} {k x : Int} : x ∈ delS xs k ↔ x ∈ xs ∧ x ≠ k := by
  unfold delS
  rw [List.mem_filter, decide_eq_true_eq]
theorem nodup_addS {xs : List Int} {k : Int} (h : xs.Nodup) : (addS xs k).Nodup := by
  unfold addS
  split
  · exact h
  · rename_i hk
    rw [List.nodup_append]
    exact ⟨h, by simp, fun a ha b hb => by simp at hb; subst hb; exact fun e => hk (e ▸ ha)⟩
theorem key_wf {q : IntKind} {k : Int} (hw : (Lit.int q k).wf = true) : WideAt.IsKeyLit (.int q k) := trivial
theorem SetP.put (h : SetP P K E q w b xs) (hk : P.underlying K = some (.int q)) (ht : P.underlying T = some (.map K E)) (he : P.underlying E = some .bool) {k : Int} (hw : (Lit.int q k).wf = true) (hl : xs.length < maxLen) :
    ∃ w', (Instr.mapUpdate T (.map (some b)) (.int q k) (.bool true)).run P w = .ok () w' ∧ SetP P K E q w' b (addS xs k) ∧ w.grownBy w' (some b) := by
  obtain ⟨D, h2, h3, h4, h5, h6⟩ := h
  obtain ⟨w', hrun, h7, h8⟩ := h2.update (Maps.int_keyed hk) ht hl (Maps.keyOf_int_mk hk hw) (plainElem_bool he true)
  have hmap := h2.isMap
  have htidy := h2.tidy (Maps.int_keyed hk)
  have hsz : Maps.size (D.put (.int q k) (.lit (.bool true))) = (addS xs k).length := by
    rw [Maps.size_put htidy, h4, h6, (addS_len xs k).2]
    by_cases hm : k ∈ xs <;> simp [hm]
  refine ⟨w', hrun, ⟨_, ?_, nodup_addS h3, fun x => ?_, fun x hx z => ?_, hsz⟩, h8⟩
  · obtain ⟨es, clock, hb, F, hs, hD⟩ := h7
    refine ⟨es, clock, hb, F, ?_, hD⟩
    rw [← hsz, hD]
    simp [Maps.size, length_sorted]
  · by_cases hx : x = k
    · subst hx
      rw [Maps.has_put_same hmap (key_wf hw), decide_eq_true (mem_addS.2 (.inr rfl))]
    · rw [Maps.has_put_other (fun e => hx (by injection e)), h4]
      exact decide_eq_decide.2 ⟨fun h => mem_addS.2 (.inl h), fun h => (mem_addS.1 h).elim id fun e => absurd e hx⟩
  · by_cases hxk : x = k
    · subst hxk
      exact Maps.atKey_put_same hmap (key_wf hw) _ _
    · rw [Maps.atKey_put_other (fun e => hxk (by injection e))]
      exact h5 x ((mem_addS.1 hx).elim id fun e => absurd e hxk) z
theorem SetP.del (h : SetP P K E q w b xs) (hk : P.underlying K = some (.int q)) (ht : P.underlying T = some (.map K E)) {k : Int} (hw : (Lit.int q k).wf = true) (ty : TypeId) :
    ∃ w', (Builtin.delete_ #[T, K] ty #[.map (some b), .int q k]).run P w = .ok (.tuple #[]) w' ∧ SetP P K E q w' b (delS xs k) ∧ w.grownBy w' (some b) := by
  obtain ⟨D, h2, h3, h4, h5, h6⟩ := h
  obtain ⟨w', hrun, h7, h8⟩ := h2.drop (Maps.int_keyed hk) ht (Maps.keyOf_int_mk hk hw) ty
  have htidy := h2.tidy (Maps.int_keyed hk)
  have hnd : (delS xs k).Nodup := h3.filter _
  have hsz : Maps.size (D.del (.int q k)) = (delS xs k).length := by
    have h9 := Maps.size_del (k := .int q k) htidy
    rw [h4, h6] at h9
    by_cases hm : k ∈ xs
    · have h10 : (delS xs k).length + 1 = xs.length := by
        have : delS xs k = xs.erase k := by
          unfold delS
          rw [h3.erase_eq_filter]
          refine congrArg (fun f => xs.filter f) (funext fun x => ?_)
          by_cases hx : x = k
          · subst hx; simp
          · simp [hx]
        rw [this, List.length_erase_of_mem hm]
        have := List.length_pos_of_mem hm
        omega
      rw [decide_eq_true hm, if_pos rfl] at h9
      omega
    · have h10 : delS xs k = xs := by
        unfold delS
        rw [List.filter_eq_self]
        intro x hx
        exact decide_eq_true fun e => hm (e ▸ hx)
      rw [decide_eq_false hm, if_neg (by decide)] at h9
      rw [h10]
      omega
  refine ⟨w', hrun, ⟨_, ?_, hnd, fun x => ?_, fun x hx z => ?_, hsz⟩, h8.grown⟩
  · obtain ⟨es, clock, hb, F, hs, hD⟩ := h7
    refine ⟨es, clock, hb, F, ?_, hD⟩
    rw [← hsz, hD]
    simp [Maps.size, length_sorted]
  · by_cases hx : x = k
    · subst hx
      rw [Maps.has_del_same, decide_eq_false (fun h => (mem_delS.1 h).2 rfl)]
    · rw [Maps.has_del_other (fun e => hx (by injection e)), h4]
      exact decide_eq_decide.2 ⟨fun h => mem_delS.2 ⟨h, hx⟩, fun h => (mem_delS.1 h).1⟩
  · obtain ⟨h11, h12⟩ := mem_delS.1 hx
    rw [Maps.atKey_del_other (fun e => h12 (by injection e))]
    exact h5 x h11 z
theorem SetP.len (h : SetP P K E q w b xs) (ht : P.underlying T = some (.map K E)) (ty : TypeId) : (Builtin.len_ #[T] ty #[.map (some b)]).run P w = .ok (.int .i64 (xs.length : Int)) w := by
  obtain ⟨D, h2, h3, h4, h5, h6⟩ := h
  rw [h2.len ht ty, h6]
end
def setR (P : Program) (K E : TypeId) (q : IntKind) (b : Nat) (xs : List Int) : Res where
  P := fun w F => F b ∧ SetP P K E q w b xs
  loc := fun h hm => ⟨h.1, h.2.step fun hlt => hm b h.1 hlt⟩
section
variable {P : Program} {K E T : TypeId} {q : IntKind} {w0 w w1 : World} {b : Nat} {xs : List Int} {L : List Res} {ops : Array Oper} {rest : List Oper} {o : Oper} {a : Act} {Q : Exit → Act → World → Prop}
theorem sl_set (h : SL w0 w L) (i : Nat) (hi : L[i]? = some (setR P K E q b xs)) : SetP P K E q w b xs := by
  obtain ⟨F, h1, _, _⟩ := sl_upd h hi
  exact h1.2
theorem sl_made (h : SL w0 w L) (P : Program) (K E : TypeId) (q : IntKind) : SL w0 (w.alloc (.map #[] 0)) (L ++ [setR P K E q w.heap.size []]) :=
  sl_new h (below_alloc (Below.refl _ _) _) (F := fun k => k = w.heap.size) ⟨rfl, SetP.made w P K E q⟩ (fun k hk => by simp [hk])
theorem sl_setgrow {ys : List Int} (h : SL w0 w L) (i : Nat) (hi : L[i]? = some (setR P K E q b xs)) (h1 : SetP P K E q w1 b ys) (hg : w.grownBy w1 (some b)) : SL w0 w1 (L.set i (setR P K E q b ys)) := by
  obtain ⟨F, h2, h3, h4⟩ := sl_upd h hi
  exact h4 w1 _ F ⟨h2.1, h1⟩ (fun k hk => ⟨.inl hk, Nat.lt_of_lt_of_le (h3 k hk).2 hg.size⟩) ((Chg.refl F w).grown hg (fun k hk => by injection hk with hk; subst hk; exact .inl h2.1))
theorem sl_look (h : SL w0 w L) (i : Nat) (hi : L[i]? = some (setR P K E q b xs)) (hgd : o.guard = none) (m x : Operand) (hop : o.op = Op.lookup T m x false) (hk : P.underlying K = some (.int q)) (ht : P.underlying T = some (.map K E)) (he : P.underlying E = some .bool) (hz : ∀ w, (zeroValue E).run P w = .ok (.bool false) w)
    (hm : a.eval m = .map (some b)) (k : Int) (hx : a.eval x = .int q k) (hw : (Lit.int q k).wf = true)
    (hK : wpList P ops Q rest (a.put o.dst (.bool (decide (k ∈ xs)))) w) : wpList P ops Q (o :: rest) a w := by
  have hr := (sl_set h i hi).look hk ht he (hz w) hw
  refine wpList_plain hgd fun K' hK' => ?_
  unfold Oper.wp
  simp only [execOp, hop, hm, hx, hr, Sem.run_bind, Sem.run_pure, Result.andThen_ok]
  exact hK' _ _ hK
theorem sl_mput (h : SL w0 w L) (i : Nat) (hi : L[i]? = some (setR P K E q b xs)) (hgd : o.guard = none) (m x v : Operand) (hop : o.op = Op.mapUpdate T m x v) (hk : P.underlying K = some (.int q)) (ht : P.underlying T = some (.map K E)) (he : P.underlying E = some .bool)
    (hm : a.eval m = .map (some b)) (k : Int) (hx : a.eval x = .int q k) (hv : a.eval v = .bool true) (hw : (Lit.int q k).wf = true) (hl : xs.length < maxLen)
    (hK : ∀ w1, SL w0 w1 (L.set i (setR P K E q b (addS xs k))) → wpList P ops Q rest (a.put o.dst undef) w1) : wpList P ops Q (o :: rest) a w := by
  obtain ⟨w1, hr, h1, h2⟩ := (sl_set h i hi).put hk ht he hw hl
  refine wpList_plain hgd fun K' hK' => ?_
  unfold Oper.wp
  simp [execOp, hop, hm, hx, hv, hr, Result.andThen]
  exact hK' _ _ (hK w1 (sl_setgrow h i hi h1 h2))
theorem sl_mdel (h : SL w0 w L) (i : Nat) (hi : L[i]? = some (setR P K E q b xs)) (hgd : o.guard = none) (m x : Operand) (hop : o.op = Op.call { callee := Callee.builtin Builtin.delete, args := #[m, x], argTypes := #[T, K] }) (hk : P.underlying K = some (.int q)) (ht : P.underlying T = some (.map K E))
    (hm : a.eval m = .map (some b)) (k : Int) (hx : a.eval x = .int q k) (hw : (Lit.int q k).wf = true)
    (hK : ∀ w1, SL w0 w1 (L.set i (setR P K E q b (delS xs k))) → wpList P ops Q rest (a.put o.dst (.tuple #[])) w1) : wpList P ops Q (o :: rest) a w := by
  obtain ⟨w1, hr, h1, h2⟩ := (sl_set h i hi).del hk ht hw o.type
  refine wpList_plain hgd fun K' hK' => ?_
  unfold Oper.wp
  simp [execOp, hop, resolve, invoke, builtin, hm, hx, hr, Result.andThen]
  exact hK' _ _ (hK w1 (sl_setgrow h i hi h1 h2))
theorem sl_mlen (h : SL w0 w L) (i : Nat) (hi : L[i]? = some (setR P K E q b xs)) (hgd : o.guard = none) (m : Operand) (hop : o.op = Op.call { callee := Callee.builtin Builtin.len, args := #[m], argTypes := #[T] }) (ht : P.underlying T = some (.map K E))
    (hm : a.eval m = .map (some b)) (hK : wpList P ops Q rest (a.put o.dst (.int .i64 (xs.length : Int))) w) : wpList P ops Q (o :: rest) a w := by
  have hr := (sl_set h i hi).len ht o.type
  refine wpList_plain hgd fun K' hK' => ?_
  unfold Oper.wp
  simp [execOp, hop, resolve, invoke, builtin, hm, hr, Result.andThen]
  exact hK' _ _ hK
end
/-! ### A whole block stored at once -/
theorem sl_row {w0 w : World} {L : List Res} {g : Nat} {t : TypeId} {cs : Array Value} (h : SL w0 w L) (i : Nat) (hi : L[i]? = some (cellsR g t cs)) (cs' : Array Value) : SL w0 (w.setRow g cs') (L.set i (cellsR g t cs')) := by
  obtain ⟨F, ⟨h1, h2⟩, h3, h4⟩ := sl_upd h hi
  refine h4 _ _ F ⟨h1, setRow_heap w g cs cs' t (0, 0) h2⟩ (fun k hk => ⟨.inl hk, by rw [setRow_size]; exact (h3 k hk).2⟩) ⟨rfl, rfl, rfl, by rw [setRow_size]; exact Nat.le_refl _, fun k hk hn => setRow_other w g k cs' (fun e => hn (e ▸ h1))⟩
theorem sl_ne {w0 w : World} {L : List Res} {g g' : Nat} {t t' : TypeId} {cs cs' : Array Value} (h : SL w0 w L) (i j : Nat) (hij : i ≠ j) (hi : L[i]? = some (cellsR g t cs)) (hj : L[j]? = some (cellsR g' t' cs')) : g ≠ g' := by
  obtain ⟨hb, G, h1, _, h3⟩ := h
  intro e
  subst e
  exact hij (h3 _ _ _ (h1 i _ hi).1 (h1 j _ hj).1)
theorem cell_row {w : World} {g n j : Nat} {v : Value} (hne : n ≠ g) (cs : Array Value) (h : w.cell? ⟨n, j, none⟩ = some v) : (w.setRow g cs).cell? ⟨n, j, none⟩ = some v := by
  rw [cell_setRow_other w g cs _ hne]
  exact h
theorem c_at {w0 w : World} {L : List Res} {g : Nat} {t : TypeId} {cs : Array Value} (h : SL w0 w L) (i : Nat) (hi : L[i]? = some (cellsR g t cs)) (j : Nat) {v : Value} (hv : cs[j]? = some v) : w.cell? ⟨g, j, none⟩ = some v := (blk_cell (sl_blk h i hi) j).trans hv
theorem f_at {w0 w : World} {L : List Res} {g : Nat} {t : TypeId} {cs : Array Value} (h : SL w0 w L) (i : Nat) (hi : L[i]? = some (cellsR g t cs)) (j : Nat) : w.frozen? ⟨g, j, none⟩ = false := blk_frozen (sl_blk h i hi) j
end Go.Proofs.Ytegkkomlpgappaa.Sl
