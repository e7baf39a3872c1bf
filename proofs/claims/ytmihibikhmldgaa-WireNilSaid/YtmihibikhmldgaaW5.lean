import Derived.Test.YtmihibikhmldgaaW4
namespace Go.Proofs.Ytmihibikhmldgaa.Q
open Go.RowKit Go.Proofs.YtmihibikhmldgaaW.PrintWords Go.Proofs.YtmihibikhmldgaaW.PrintLast Go.Proofs.YtmihibikhmldgaaW.PrintMore Go.Proofs.Ytmihibikhmldgaa.Sl Go.Proofs.Ytmihibikhmldgaa.Hand 
attribute [local go_sem] max2_int min2_int max_two min_two max_three min_three max_four min_four 
set_option linter.unusedVariables false
set_option linter.unusedSimpArgs false

/-! ### Rows that begin at their block's head -/
abbrev rowO (v : Value) (xs : List Int) : Res := rowR (Kd.int .u8) 5 v xs
theorem sl_readO {w0 w : World} {L : List Res} {A : Option Addr} {n c : Nat} {xs : List Int} (h : SL w0 w L) (i : Nat) (hi : L[i]? = some (rowO (.slice A n c) xs)) : n = xs.length ∧ n ≤ c ∧ Kd.C (Kd.int .u8) w A xs.length xs := by
  obtain ⟨F, h1, _, _⟩ := sl_upd h hi
  exact Kd.R_reads' h1
theorem own_grown {w0 w w1 : World} {L : List Res} {v v1 : Value} {xs ys : List Int} (h : SL w0 w L) (i : Nat) (hi : L[i]? = some (rowO v xs)) (hk : ∀ F : Nat → Prop, (Kd.int .u8).R 5 w 0 F v xs → (Kd.int .u8).R 5 w1 0 (fun k => F k ∨ w.heap.size ≤ k) v1 ys) (hg : w.grownBy w1 v.ownBlock) : SL w0 w1 (L.set i (rowO v1 ys)) := by
  obtain ⟨F, h1, h2, h3⟩ := sl_upd h hi
  have h1 : (Kd.int .u8).R 5 w 0 F v xs := h1
  exact h3 w1 _ (fun k => (F k ∨ w.heap.size ≤ k) ∧ k < w1.heap.size) (Kd.R_mono (Kd.R_bound (hk F h1)) (fun k hk => ⟨hk.1, hk.2.2.1⟩)) (fun k hk => hk) ((Chg.refl F w).grown hg (fun k hk => .inl (h1.1 k hk)))
section
variable {w0 w : World} {L : List Res} {ops : Array Oper} {rest : List Oper} {o : Oper} {a : Act} {Q : Exit → Act → World → Prop}
theorem appO (h : SL w0 w L) (i : Nat) (v : Value) (xs ys : List Int) (hgd : o.guard = none) (s x : Operand) (ho : o.op = .call { callee := .builtin .append, args := #[s, x], argTypes := #[22, 22] })
    {B : Option Addr} {m c : Nat} (hs : a.eval s = v) (hx : a.eval x = .slice B m c) (hi : L[i]? = some (rowO v xs)) (hy : Kd.C (Kd.int .u8) w B m ys) (hl : xs.length + m ≤ 140737488355328)
    (hk : ∀ A c w1, SL w0 w1 (L.set i (rowO (.slice A (xs.length + ys.length) c) (xs ++ ys))) → wpList Try.prog ops Q rest (a.put o.dst (.slice A (xs.length + ys.length) c)) w1) :
    wpList Try.prog ops Q (o :: rest) a w := by
  obtain ⟨F, h1, h2, h3⟩ := sl_upd h hi
  have h1 : (Kd.int .u8).R 5 w 0 F v xs := h1
  refine Kd.R_append_rows (Kd.int .u8) (w0 := w) 0 hgd s x 22 5 (.int .u8 0) 1 ho Try.underlying22 info5 rfl (by decide) (by omega) v xs ys B m c (fun k => F k ∨ w.heap.size ≤ k) (fun _ => False) hs hx (Kd.R_mono h1 fun k hk => .inl hk) hy (fun _ _ hk => hk) (fun _ hk => hk.elim) (fun k hk => .inr hk) (Below.refl _ _) (Nat.zero_le _) (by omega) ?_
  intro v1 w1 hr _ hg _
  obtain ⟨A, c1, rfl⟩ := Kd.R_slice hr
  rw [List.length_append] at hr ⊢
  exact hk A c1 w1 (h3 w1 _ (fun k => (F k ∨ w.heap.size ≤ k) ∧ k < w1.heap.size) (Kd.R_mono (Kd.R_bound hr) (fun k hk => ⟨hk.1, hk.2.2.1⟩)) (fun k hk => hk) ((Chg.refl F w).grown hg (fun k hk => .inl (h1.1 k hk))))
/-- append(v, make([]byte, n)...) -/
theorem appO_zeros (h : SL w0 w L) (i : Nat) (v : Value) (xs : List Int) (n : Nat) (hgd : o.guard = none) (s x : Operand) (ho : o.op = .call { callee := .builtin .append, args := #[s, x], argTypes := #[22, 3] })
    (hs : a.eval s = v) (hx : a.eval x = .int .i64 (n : Int)) (hi : L[i]? = some (rowO v xs)) (hl : xs.length + n ≤ 140737488355328)
    (hk : ∀ A c w1, SL w0 w1 (L.set i (rowO (.slice A (xs.length + n) c) (xs ++ List.replicate n 0))) → wpList Try.prog ops Q rest (a.put o.dst (.slice A (xs.length + n) c)) w1) :
    wpList Try.prog ops Q (o :: rest) a w := by
  obtain ⟨F, h1, h2, h3⟩ := sl_upd h hi
  have h1 : (Kd.int .u8).R 5 w 0 F v xs := h1
  refine Kd.R_append_zeros (Kd.int .u8) (w0 := w) 0 hgd s x 22 3 5 (.int .u8 0) 1 ho Try.underlying22 Try.underlying3 info5 rfl (by decide) (by omega) v xs 0 (n : Int) (fun k => F k ∨ w.heap.size ≤ k) hs hx rfl (fun k hk => .inr hk) (Kd.R_mono h1 fun k hk => .inl hk) (by omega) (Below.refl _ _) (Nat.zero_le _) (by rw [Int.toNat_natCast]; omega) ?_
  intro v1 w1 hr _ hg _
  rw [Int.toNat_natCast] at hr
  obtain ⟨A, c1, rfl⟩ := Kd.R_slice hr
  rw [List.length_append, List.length_replicate] at hr ⊢
  exact hk A c1 w1 (h3 w1 _ (fun k => (F k ∨ w.heap.size ≤ k) ∧ k < w1.heap.size) (Kd.R_mono (Kd.R_bound hr) (fun k hk => ⟨hk.1, hk.2.2.1⟩)) (fun k hk => hk) ((Chg.refl F w).grown hg (fun k hk => .inl (h1.1 k hk))))
end
end Go.Proofs.Ytmihibikhmldgaa.Q
