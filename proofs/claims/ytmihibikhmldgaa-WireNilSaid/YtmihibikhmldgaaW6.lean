import Derived.Test.YtmihibikhmldgaaW5
namespace Go.Proofs.Ytmihibikhmldgaa.Q
open Go.RowKit Go.Proofs.YtmihibikhmldgaaW.PrintWords Go.Proofs.YtmihibikhmldgaaW.PrintLast Go.Proofs.YtmihibikhmldgaaW.PrintMore Go.Proofs.Ytmihibikhmldgaa.Sl Go.Proofs.Ytmihibikhmldgaa.Hand 
attribute [local go_sem] max2_int min2_int max_two min_two max_three min_three max_four min_four 
set_option linter.unusedVariables false
set_option linter.unusedSimpArgs false

theorem encs_flat : ∀ xs : List Int, encs (Value.int .u8) xs = xs.flatMap enc8
  | [] => rfl
  | x :: xs => by
    have := encs_flat xs
    simp only [encs, List.map_cons, List.flatMap_cons, enc8] at this ⊢
    rw [this]
    rfl
section
variable {w0 w : World} {L : List Res} {ops : Array Oper} {rest : List Oper} {o : Oper} {a : Act} {Q : Exit → Act → World → Prop}
theorem sl_nilO (h : SL w0 w L) : SL w0 w (L ++ [rowO (.slice none 0 0) []]) :=
  sl_new h (Below.refl _ _) (F := fun _ => False) (Kd.R_nil _ _ _ _ _) (fun k hk => hk.elim)
theorem appOn (h : SL w0 w L) (ys : List Int) (hgd : o.guard = none) (s x : Operand) (ho : o.op = .call { callee := .builtin .append, args := #[s, x], argTypes := #[22, 22] })
    {B : Option Addr} {m c : Nat} (hs : a.eval s = .slice none 0 0) (hx : a.eval x = .slice B m c) (hy : Kd.C (Kd.int .u8) w B m ys) (hl : m ≤ 140737488355328)
    (hk : ∀ A c w1, SL w0 w1 (L ++ [rowO (.slice A ys.length c) ys]) → wpList Try.prog ops Q rest (a.put o.dst (.slice A ys.length c)) w1) :
    wpList Try.prog ops Q (o :: rest) a w := by
  refine appO (sl_nilO h) L.length (.slice none 0 0) [] ys hgd s x ho hs hx (by simp) hy (by simpa using hl) (fun A c w1 h1 => ?_)
  have e : (L ++ [rowO (.slice none 0 0) []]).set L.length (rowO (.slice A (([] : List Int).length + ys.length) c) ([] ++ ys)) = L ++ [rowO (.slice A ys.length c) ys] := by
    rw [List.set_append_right _ _ (Nat.le_refl _), Nat.sub_self]
    simp
  rw [e] at h1
  have := hk A c w1 h1
  simpa using this
theorem app_growO (h : SL w0 w L) (xs ys : List Int) (hgd : o.guard = none) (s x : Operand) (ho : o.op = .call { callee := .builtin .append, args := #[s, x], argTypes := #[22, 22] })
    {A B : Option Addr} {m c n : Nat} (hs : a.eval s = .slice A n n) (hx : a.eval x = .slice B m c) (hX : Kd.C (Kd.int .u8) w A n xs) (hy : Kd.C (Kd.int .u8) w B m ys) (hm : 0 < m) (hl : n + m ≤ 140737488355328)
    (hk : ∀ A c w1, SL w0 w1 (L ++ [rowO (.slice A (xs.length + ys.length) c) (xs ++ ys)]) → wpList Try.prog ops Q rest (a.put o.dst (.slice A (xs.length + ys.length) c)) w1) :
    wpList Try.prog ops Q (o :: rest) a w := by
  have hn : xs.length = n := hX.1
  have hmy : ys.length = m := hy.1
  cases A with
  | none =>
    have h0 : n = 0 := by
      rcases Nat.eq_zero_or_pos n with h0 | h0
      · exact h0
      · obtain ⟨ad, e, _⟩ := hX.2.2 h0
        cases e
    subst h0
    obtain rfl : xs = [] := List.eq_nil_of_length_eq_zero hn
    refine appOn h ys hgd s x ho hs hx hy (by omega) (fun A c w1 h1 => ?_)
    have := hk A c w1 (by simpa using h1)
    simpa using this
  | some ad =>
    obtain ⟨i0, hi, hzz⟩ := Option.map_eq_some_iff.1 info5
    simp only [Prod.mk.injEq] at hzz
    obtain ⟨hz0, hz1, hz2⟩ := hzz
    have hcX : ∀ j u, (xs.flatMap enc8)[j]? = some u → w.cell? (ad.add j) = some u := by
      rcases Nat.eq_zero_or_pos n with h0 | h0
      · intro j u hu
        obtain rfl : xs = [] := List.eq_nil_of_length_eq_zero (hn.trans h0)
        simp at hu
      · obtain ⟨ad', e, hc⟩ := flat8.cells hX h0
        injection e with e
        subst e
        exact hc
    obtain ⟨bd, rfl, hcY⟩ := flat8.cells hy hm
    obtain ⟨v1, w1, hr, hown, hg⟩ := run_append_arg_grows (P := Try.prog) (w := w) 22 o.type 5 i0 (.int .u8 0) 1 1 Try.underlying22 hi hz0 hz1 hz2 rfl (by decide) ad n n (xs.flatMap enc8) (by rw [flat8.flat_len, hn]; rfl) hcX bd m c (ys.flatMap enc8) (by rw [flat8.flat_len, hmy]; rfl) hcY (by omega) (by simp only [maxLen]; omega) (by omega)
    have hR : (Kd.int .u8).R 5 w1 w.heap.size (fun _ => True) v1 (xs ++ ys) := by
      refine Kd.R_of_own ?_ (fun _ _ => trivial)
      rw [encs_flat, List.length_append, List.flatMap_append, hn, hmy]
      exact hown
    obtain ⟨A1, c1, hv⟩ := Kd.R_slice hR
    rw [List.length_append] at hv
    have hS : SL w0 w1 (L ++ [rowO v1 (xs ++ ys)]) := sl_new h ⟨hg.os, hg.tape, hg.output, hg.size, fun k hk => hg.block k hk (by simp)⟩ (F := fun k => w.heap.size ≤ k ∧ k < w1.heap.size) (Kd.R_lower (Kd.R_mono (Kd.R_bound hR) (fun k hk => ⟨hk.2.1, hk.2.2.1⟩)) (Nat.zero_le _)) (fun k hk => hk)
    rw [hv] at hS hr
    refine wpList_plain hgd fun K hK => ?_
    unfold Oper.wp execOp
    simp only [ho, resolve, invoke, builtin, Sem.run_bind, Sem.run_pure, Result.andThen_ok, List.map_toArray, List.map_cons, List.map_nil, hs, hx, hr]
    exact hK _ _ (hk _ _ _ hS)
end
set_option maxHeartbeats 2000000 in
set_option maxRecDepth 100000 in
theorem PutUintO {w0 w : World} {L : List Res} (h : SL w0 w L) (A : Option Addr) (c : Nat) (b : List Int) (n : Int) (hr : Kd.C (Kd.int .u8) w A b.length b) (hc : b.length ≤ c) (h0 : 0 ≤ n) (h1 : n < 4294967296) (hl : b.length ≤ 1000000) :
    Calls Try.prog 37 #[.slice A b.length c, .int .u32 n] w fun e w' => ∃ A' c', e = .returned (.slice A' (b.length + 4) c') ∧ SL w0 w' (L ++ [rowO (.slice A' (b.length + 4) c') (b ++ quad n)]) := by
  have H := Aside0.mk h
  have HR := Aside0.mk hr
  have HL := Aside0.mk hl
  have HS := Aside0.mk (sl_start w)
  have q1 : (b.length : Int) ≤ (c : Int) := by omega
  clear h hr hc hl
  go_enter Try.func37, Try.ntmps37
  go_wp2_with (first | (at_builtin; refine app_growO (by repeat (with_reducible first | exact HS.out | apply sl_drewN | apply sl_drew | apply sl_box | apply sl_alloc)) b (quad n) rfl (.tmp 10) (.tmp 22) rfl rfl rfl (Kd.C_below HR.out (by repeat (with_reducible first | exact Below.refl _ _ | apply below_alloc | apply pw_below_drewN | apply below_drew1))) (by exact lit_C (xs := quad n) (by exact heap_alloc_new _ _) (by simp [quad, maxLen])) (by decide) (by have := HL.out; omega) ?_; intro A1 c1 w1 hs; replace HS := Aside0.mk hs; clear hs))
  go_ret
  exact ⟨A1, c1, rfl, sl_new2 H.out (sl_pick HS.out [1] (by decide) rfl)⟩
theorem padN_range (n : Nat) : ∃ k : Nat, padN n = (k : Int) ∧ k ≤ 3 := ⟨(padN n).toNat, by unfold padN; omega, by unfold padN; omega⟩
def padL (n : Nat) : List Int := List.replicate (padN n).toNat 0
set_option maxHeartbeats 2000000 in
set_option maxRecDepth 100000 in
theorem PutArray_sl {w0 w : World} {L : List Res} (h : SL w0 w L) (A B : Option Addr) (c e : Nat) (b x : List Int) (hr : Kd.C (Kd.int .u8) w A b.length b) (hc : b.length ≤ c) (hx : Kd.C (Kd.int .u8) w B x.length x) (hl : b.length ≤ 1000000) (hlx : x.length ≤ 1000000) :
    Calls Try.prog 38 #[.slice A b.length c, .slice B x.length e] w fun e w' => ∃ A' c', e = .returned (.slice A' (b.length + 4 + x.length + (padN x.length).toNat) c') ∧ SL w0 w' (L ++ [rowO (.slice A' (b.length + 4 + x.length + (padN x.length).toNat) c') (b ++ quad x.length ++ x ++ padL x.length)]) := by
  have H := Aside0.mk h
  have HR := Aside0.mk hr
  have HX := Aside0.mk hx
  have HC := Aside0.mk hc
  have HL := Aside0.mk (And.intro hl hlx)
  have HS := Aside0.mk (sl_start w)
  obtain ⟨k, hk, hk3⟩ := padN_range x.length
  have HK := Aside0.mk hk
  have hm : (x.length : Int) % 4294967296 = (x.length : Int) := by omega
  have HPL := Aside0.mk (show padL x.length = List.replicate k 0 ∧ (padN x.length).toNat = k by unfold padL; rw [hk]; exact ⟨rfl, rfl⟩)
  have hql : (b ++ quad (x.length : Int)).length = b.length + 4 := by simp [quad]
  have HQL := Aside0.mk hql
  have hql2 : (b ++ quad (x.length : Int) ++ x).length = b.length + 4 + x.length := by rw [List.length_append, hql]
  have HQL2 := Aside0.mk hql2
  rw [HPL.out.1, HPL.out.2]
  clear h hr hx hc hk hql hql2
  go_enter Try.func38, Try.ntmps38
  go_wp2_with (first
    | (go_at_call 37; refine (PutUintO (by repeat (with_reducible first | exact HS.out | apply sl_drewN | apply sl_drew | apply sl_alloc)) A c b (x.length : Int) HR.out HC.out (by omega) (by omega) HL.out.1).mono ?_; rintro e w1 ⟨A1, c1, rfl, hs⟩; replace HS := Aside0.mk hs; clear hs)
    | (at_builtin; refine appO (by repeat (with_reducible first | exact HS.out | apply sl_drewN | apply sl_drew | apply sl_alloc)) 0 (.slice A1 (b.length + 4) c1) (b ++ quad (x.length : Int)) x rfl (.tmp 9) (.tmp 10) rfl rfl rfl (by rfl) (Kd.C_below HX.out (sl_below0 (by repeat (with_reducible first | exact HS.out | apply sl_drewN | apply sl_drew | apply sl_alloc)))) (by have := HQL.out; have := HL.out; omega) ?_; rw [HQL.out]; intro A2 c2 w2 hs; replace HS := Aside0.mk hs; clear hs)
    | (go_at_call 49; refine (padding_calls x.length _ HL.out.2).mono ?_; rw [HK.out]; rintro e w3 ⟨rfl, rfl⟩)
    | (at_builtin; refine appO_zeros (by repeat (with_reducible first | exact HS.out | apply sl_drewN | apply sl_drew | apply sl_alloc)) 0 (.slice A2 (b.length + 4 + x.length) c2) (b ++ quad (x.length : Int) ++ x) k rfl (.tmp 12) (.tmp 15) rfl rfl rfl (by rfl) (by have := HQL2.out; have := HL.out; omega) ?_; rw [HQL2.out]; intro A3 c3 w3 hs; replace HS := Aside0.mk hs; clear hs))
  go_ret
  exact ⟨A3, c3, rfl, sl_new2 H.out HS.out⟩
end Go.Proofs.Ytmihibikhmldgaa.Q
