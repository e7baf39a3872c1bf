import Derived.WalkSpells
import Derived.Test.YtmihibikhmldgaaW2
namespace Go.Proofs.Ytmihibikhmldgaa.Q
open Go.RowKit Go.Proofs.YtmihibikhmldgaaW.PrintWords Go.Proofs.YtmihibikhmldgaaW.PrintLast Go.Proofs.YtmihibikhmldgaaW.PrintMore Go.Proofs.Ytmihibikhmldgaa.Sl Go.Proofs.Ytmihibikhmldgaa.Hand 
attribute [local go_sem] max2_int min2_int max_two min_two max_three min_three max_four min_four 
set_option linter.unusedVariables false
set_option linter.unusedSimpArgs false

theorem Int_sl {w0 w : World} {L : List Res} (h : SL w0 w L) (i : Nat) {g : Nat} {s : RSt} (hi : L[i]? = some (rdS g s)) : Calls Try.prog 22 #[.pointer (some ⟨g, 0, none⟩)] w fun e w' => e = .returned (.int .i32 (wrap32 (uintV s))) ∧ SL w0 w' (L.set i (rdS g (uintS s))) := by
  have H := Aside0.mk h
  have HI := Aside0.mk hi
  clear h hi
  go_enter Try.func22, Try.ntmps22
  go_wp2_with (first | (go_at_call 20; refine (Uint_sl H.out i HI.out).mono ?_; rintro e w1 ⟨rfl, hs⟩; have HS := Aside0.mk hs; clear hs))
  go_ret
  exact ⟨rfl, HS.out⟩
def endE (s : RSt) : Int := if s.er ≠ 0 then s.er else if 0 < s.u.length then 3 else 0
theorem End_sl {w0 w : World} {L : List Res} (h : SL w0 w L) (i : Nat) {g : Nat} {s : RSt} (hi : L[i]? = some (rdS g s)) : Calls Try.prog 31 #[.pointer (some ⟨g, 0, none⟩)] w fun e w' => e = .returned (.int .i64 (endE s)) ∧ w = w' := by
  obtain ⟨u, er⟩ := s
  have H := Aside0.mk h
  have HI := Aside0.mk hi
  obtain ⟨A, c, hc, hC, hs⟩ := rd_open h i hi
  have hil : i < L.length := (List.getElem?_eq_some_iff.1 hi).1
  have hb := sl_blk hs i (g := g) (t := 68) (cs := #[.slice A u.length c, .int .i64 er, .bool true]) (by rw [List.getElem?_append_left (by rw [List.length_set]; exact hil), List.getElem?_set_self hil])
  have m0 := (blk_cell hb 0).trans (show _ = some (Value.slice A u.length c) from rfl)
  clear h hs hb hC hc hi hil
  by_cases h0 : er = 0
  · subst h0
    have bz : ((0 : Int) != 0) = false := rfl
    by_cases h1 : 0 < u.length
    · have E := Aside0.mk (show endE ⟨u, 0⟩ = 3 from (if_neg (by simp)).trans (if_pos h1))
      have b1 : (0 < u.length) = True := eq_true h1
      clear h1
      go_enter Try.func31, Try.ntmps31
      go_wp2_with (first | (go_at_call 29; refine (Err_sl H.out i HI.out).mono ?_; rintro e w1 ⟨rfl, rfl⟩))
      try rw [Exit.noGoto_ret]
      go_ret
      exact ⟨by rw [E.out]; rfl, rfl⟩
    · have E := Aside0.mk (show endE ⟨u, 0⟩ = 0 from (if_neg (by simp)).trans (if_neg h1))
      have b1 : (0 < u.length) = False := eq_false h1
      clear h1
      go_enter Try.func31, Try.ntmps31
      go_wp2_with (first | (go_at_call 29; refine (Err_sl H.out i HI.out).mono ?_; rintro e w1 ⟨rfl, rfl⟩))
      try rw [Exit.noGoto_ret]
      go_ret
      exact ⟨by rw [E.out]; rfl, rfl⟩
  · have bz : (er != 0) = true := bne_iff_ne.2 h0
    have E := Aside0.mk (show endE ⟨u, er⟩ = er from if_pos h0)
    clear h0
    go_enter Try.func31, Try.ntmps31
    go_wp2_with (first | (go_at_call 29; refine (Err_sl H.out i HI.out).mono ?_; rintro e w1 ⟨rfl, rfl⟩))
    try rw [Exit.noGoto_ret]
    go_ret
    exact ⟨by rw [E.out]; rfl, rfl⟩
/-! ### append to a slice without room -/
section
variable {w0 w : World} {L : List Res} {ops : Array Oper} {rest : List Oper} {o : Oper} {a : Act} {Q : Exit → Act → World → Prop}
theorem app_grow (h : SL w0 w L) (xs ys : List Int) (hgd : o.guard = none) (s x : Operand) (ho : o.op = .call { callee := .builtin .append, args := #[s, x], argTypes := #[22, 22] })
    {A B : Option Addr} {m c n : Nat} (hs : a.eval s = .slice A n n) (hx : a.eval x = .slice B m c) (hX : Kd.C (Kd.int .u8) w A n xs) (hy : Kd.C (Kd.int .u8) w B m ys) (hm : 0 < m) (hl : n + m ≤ 140737488355328)
    (hk : ∀ A c w1, SL w0 w1 (L ++ [row8 (.slice A (xs.length + ys.length) c) (xs ++ ys)]) → wpList Try.prog ops Q rest (a.put o.dst (.slice A (xs.length + ys.length) c)) w1) :
    wpList Try.prog ops Q (o :: rest) a w := by
  have hn : xs.length = n := hX.1
  have hmy : ys.length = m := hy.1
  cases A with
  | none =>
    have h0 : n = 0 := by
      rcases Nat.eq_zero_or_pos n with h0 | h0
      · exact h0
      · obtain ⟨ad, e, _⟩ := hX.2.2 h0
        cases e
    subst h0
    obtain rfl : xs = [] := List.eq_nil_of_length_eq_zero hn
    refine app8n h ys hgd s x ho hs hx hy (by omega) (fun A c w1 h1 => ?_)
    have := hk A c w1 (by simpa using h1)
    simpa using this
  | some ad =>
    obtain ⟨i0, hi, hzz⟩ := Option.map_eq_some_iff.1 info5
    simp only [Prod.mk.injEq] at hzz
    obtain ⟨hz0, hz1, hz2⟩ := hzz
    have hcX : ∀ j u, (xs.flatMap enc8)[j]? = some u → w.cell? (ad.add j) = some u := by
      rcases Nat.eq_zero_or_pos n with h0 | h0
      · intro j u hu
        obtain rfl : xs = [] := List.eq_nil_of_length_eq_zero (hn.trans h0)
        simp at hu
      · obtain ⟨ad', e, hc⟩ := flat8.cells hX h0
        injection e with e
        subst e
        exact hc
    obtain ⟨bd, rfl, hcY⟩ := flat8.cells hy hm
    obtain ⟨v1, w1, hr, hown, hg⟩ := run_append_arg_grows (P := Try.prog) (w := w) 22 o.type 5 i0 (.int .u8 0) 1 1 Try.underlying22 hi hz0 hz1 hz2 rfl (by decide) ad n n (xs.flatMap enc8) (by rw [flat8.flat_len, hn]; rfl) hcX bd m c (ys.flatMap enc8) (by rw [flat8.flat_len, hmy]; rfl) hcY (by omega) (by simp only [maxLen]; omega) (by omega)
    have hlr : LR (Kd.int .u8) enc8 5 w1 (fun k => w.heap.size ≤ k ∧ k < w1.heap.size) v1 (xs ++ ys) := by
      refine ⟨fun k hk => ?_, by rw [List.length_append, List.flatMap_append, hn, hmy]; exact l_of_own hown⟩
      rcases hown.2 with ⟨hv, _⟩ | ⟨g, cap, cur, hv, hge, hh, _⟩
      · rw [hv] at hk; simp [Value.ownBlock] at hk
      · rw [hv] at hk
        have : g = k := by simpa [Value.ownBlock] using hk
        subst this
        exact ⟨hge, blk_lt hh⟩
    obtain ⟨A1, c1, hv, _⟩ := hlr.slice
    rw [List.length_append] at hv
    have hS : SL w0 w1 (L ++ [row8 v1 (xs ++ ys)]) := sl_new h ⟨hg.os, hg.tape, hg.output, hg.size, fun k hk => hg.block k hk (by simp)⟩ (F := fun k => w.heap.size ≤ k ∧ k < w1.heap.size) hlr (fun k hk => hk)
    rw [hv] at hS hr
    refine wpList_plain hgd fun K hK => ?_
    unfold Oper.wp execOp
    simp only [ho, resolve, invoke, builtin, Sem.run_bind, Sem.run_pure, Result.andThen_ok, List.map_toArray, List.map_cons, List.map_nil, hs, hx, hr]
    exact hK _ _ (hk _ _ _ hS)
end
end Go.Proofs.Ytmihibikhmldgaa.Q
