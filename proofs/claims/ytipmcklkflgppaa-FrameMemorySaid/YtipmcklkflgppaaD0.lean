import Derived.Test.YtipmcklkflgppaaPB
import Derived.Test.YtipmcklkflgppaaQx5
namespace Go.Proofs.Ytipmcklkflgppaa.Q
open Go.RowKit Go.Proofs.YtipmcklkflgppaaW.PrintWords Go.Proofs.YtipmcklkflgppaaW.PrintLast Go.Proofs.YtipmcklkflgppaaW.PrintMore Go.Proofs.Ytipmcklkflgppaa.Sl Go.Proofs.Ytipmcklkflgppaa.Hand Go.Proofs.Ytipmcklkflgppaa.Plain
attribute [local go_sem] max2_int min2_int max_two min_two max_three min_three max_four min_four 
set_option linter.unusedVariables false
set_option linter.unusedSimpArgs false

def enc8 (x : Int) : List Value := [.int .u8 x]
theorem flat8 : Flat (Kd.int .u8) enc8 := ⟨fun _ _ => rfl, fun _ _ _ h => h⟩
abbrev row8 (v : Value) (xs : List Int) : Res := lrR (Kd.int .u8) enc8 5 v xs
theorem sl_cap {w0 w : World} {L : List Res} {α : Type} {d : Kd α} {enc : α → List Value} {e : TypeId} {xs : List α} {A : Option Addr} {n c : Nat} (f : Flat d enc) (h : SL w0 w L) (i : Nat) (hi : L[i]? = some (lrR d enc e (.slice A n c) xs)) : n ≤ c := by
  obtain ⟨F, h1⟩ := sl_lr h i hi
  exact (h1.reads' f).2.1
theorem drop8 {w : World} {A : Option Addr} {m c k : Nat} {xs : List Int} (h : Kd.C (Kd.int .u8) w A xs.length xs) (hc : xs.length ≤ c) (hk : k ≤ xs.length) (hm : m = xs.length) : Kd.C (Kd.int .u8) w (if c = k then A else Option.map (fun x => x.add k) A) (m - k) (xs.drop k) := by
  have := Kd.C_drop h hk hc
  rw [List.length_drop] at this
  subst hm
  have e : k * (Kd.int .u8).sz = k := Nat.mul_one k
  rw [e] at this
  exact this
/-- Frames of the call's own. -/
abbrev rowF (w0 : World) (v : Value) (xs : List S25) : Res := rowN w0 k25 25 v xs
abbrev rowB (w0 : World) (v : Value) (xs : List Int) : Res := rowN w0 (Kd.int .u8) 5 v xs
theorem heap25 : Kd.Heap k25 := Kd.heap_iso _ (Kd.heap_pair (Kd.heap_int _) (Kd.heap_pair (Kd.heap_int _) (Kd.heap_slice 5 (Kd.heap_int _))))
theorem ex_sl {w0 w : World} {L : List Res} (h : SL w0 w L) : Calls Try.prog 10 #[] w fun e w' => e = .returned (.bool true) ∧ SL w0 w' L :=
  (compositorlaw02_exampleHolds.calls true w (by first | rfl | kernel_rfl)).mono fun e w' ⟨h1, h2⟩ => ⟨h1, sl_below h h2⟩
def fitsB (f : S25) : Prop := 0 ≤ f.f1 ∧ f.f1 ≤ 65535 ∧ (f.f2.length : Int) % 4 = 0 ∧ f.f2.length ≤ 4088
theorem Put_yes {w0 w : World} {L : List Res} (h : SL w0 w L) (f : S25) (A : Option Addr) (c : Nat) (hf : fitsB f) (hr : Kd.C (Kd.int .u8) w A f.f2.length f.f2) (hc : f.f2.length ≤ c) :
    Calls Try.prog 11 #[.agg #[.int .u32 f.f0, .int .i64 f.f1, .slice A f.f2.length c]] w fun e w' => ∃ A' c', e = .returned (.tuple #[.slice A' (enc f).length c', .int .i64 0]) ∧ SL w0 w' (L ++ [rowB w0 (.slice A' (enc f).length c') (enc f)]) := by
  obtain ⟨h1, h2, h3, h4⟩ := hf
  have e : frame_Put.f 1 f.f0 f.f1 f.f2 = some (enc f, 0) := by
    rw [Put_f _ _ _ (by omega) 1 (by omega)]
    unfold putS
    rw [if_neg (by omega), if_neg (by omega), if_neg (by omega)]
    rfl
  refine (frame_Put.calls 1 f.f0 f.f1 A c f.f2 _ _ w hr hc e).mono ?_
  rintro e w' ⟨v, rfl, h5, h6⟩
  obtain ⟨A', c', rfl⟩ := Kd.R_slice h5
  exact ⟨A', c', rfl, sl_newR h h6 h5⟩
theorem Put_no {w0 w : World} {L : List Res} (h : SL w0 w L) (f : S25) (A : Option Addr) (c : Nat) (hf : ¬ fitsB f) (hl : f.f2.length ≤ 6000) (hr : Kd.C (Kd.int .u8) w A f.f2.length f.f2) (hc : f.f2.length ≤ c) :
    Calls Try.prog 11 #[.agg #[.int .u32 f.f0, .int .i64 f.f1, .slice A f.f2.length c]] w fun e w' => ∃ A' c' err, e = .returned (.tuple #[.slice A' 0 c', .int .i64 err]) ∧ (err == 0) = false ∧ SL w0 w' L := by
  have e : ∃ err, frame_Put.f 1 f.f0 f.f1 f.f2 = some ([], err) ∧ (err == 0) = false := by
    rw [Put_f _ _ _ (by omega) 1 (by omega)]
    unfold putS
    unfold fitsB at hf
    by_cases c1 : f.f1 < 0 ∨ f.f1 > 65535
    · rw [if_pos c1]; exact ⟨6, rfl, rfl⟩
    rw [if_neg c1]
    by_cases c2 : (f.f2.length : Int) % 4 ≠ 0
    · rw [if_pos c2]; exact ⟨2, rfl, rfl⟩
    rw [if_neg c2]
    by_cases c3 : (f.f2.length : Int) > 4088
    · rw [if_pos c3]; exact ⟨5, rfl, rfl⟩
    · exact (hf ⟨by omega, by omega, by omega, by omega⟩).elim
  obtain ⟨err, e, he⟩ := e
  refine (frame_Put.calls 1 f.f0 f.f1 A c f.f2 _ _ w hr hc e).mono ?_
  rintro e w' ⟨v, rfl, h5, h6⟩
  obtain ⟨A', c', rfl⟩ := Kd.R_slice h5
  exact ⟨A', c', err, rfl, he, sl_below h h6⟩
theorem Split_sl {w0 w : World} {L : List Res} (h : SL w0 w L) (A : Option Addr) (c : Nat) (l : List Int) (hl : l.length ≤ 1000000) (hb : ∀ x ∈ l, 0 ≤ x ∧ x < 256) (hr : Kd.C (Kd.int .u8) w A l.length l) (hc : l.length ≤ c) {fs : List S25} {n er : Int} (hs : sp l = (fs, n, er)) :
    Calls Try.prog 13 #[.slice A l.length c] w fun e w' => ∃ A' c', e = .returned (.tuple #[.slice A' fs.length c', .int .i64 n, .int .i64 er]) ∧ SL w0 w' (L ++ [rowF w0 (.slice A' fs.length c') fs]) := by
  refine (frame_Split.calls (l.length + 1) A c l _ _ _ w hr hc ((Split_f hb hl _ (by omega)).trans (congrArg some ((sp_splitS hb _ (by omega)).trans hs)))).mono ?_
  rintro e w' ⟨v, rfl, h5, h6⟩
  obtain ⟨A', c', rfl⟩ := Kd.S_slice h5
  exact ⟨A', c', rfl, sl_newS h h6 h5⟩
theorem same_yes {w : World} {A B : Option Addr} {c d : Nat} (l : List S25) (hl : l.length ≤ 1000000) (h0 : Kd.C k25 w A l.length l) (h1 : l.length ≤ c) (h2 : Kd.C k25 w B l.length l) (h3 : l.length ≤ d) :
    Calls Try.prog 15 #[.slice A l.length c, .slice B l.length d] w fun e w' => e = .returned (.bool true) ∧ Drawn0 w w' :=
  compositorlaw02_same.calls (l.length + 1) A c l B d l true w h0 h1 h2 h3 (same_f l hl _ (by omega))
theorem Split_len {w0 w : World} {L : List Res} (h : SL w0 w L) (A : Option Addr) (c m : Nat) (l : List Int) (hm : m = l.length) (hl : l.length ≤ 1000000) (hb : ∀ x ∈ l, 0 ≤ x ∧ x < 256) (hr : Kd.C (Kd.int .u8) w A l.length l) (hc : l.length ≤ c) {fs : List S25} {n er : Int} (hs : sp l = (fs, n, er)) :
    Calls Try.prog 13 #[.slice A m c] w fun e w' => ∃ A' c', e = .returned (.tuple #[.slice A' fs.length c', .int .i64 n, .int .i64 er]) ∧ SL w0 w' (L ++ [rowF w0 (.slice A' fs.length c') fs]) := by
  subst hm
  exact Split_sl h A c l hl hb hr hc hs
theorem Split_cut {w0 w : World} {L : List Res} (h : SL w0 w L) (A : Option Addr) (c : Nat) (l : List Int) (hl : l.length ≤ 1000000) (hb : ∀ x ∈ l, 0 ≤ x ∧ x < 256) (hr : Kd.C (Kd.int .u8) w A l.length l) (hc : l.length ≤ c) {fs : List S25} {n er : Int} (hs : sp (l.take (l.length - 1)) = (fs, n, er)) :
    Calls Try.prog 13 #[.slice A (l.length - 1) c] w fun e w' => ∃ A' c', e = .returned (.tuple #[.slice A' fs.length c', .int .i64 n, .int .i64 er]) ∧ SL w0 w' (L ++ [rowF w0 (.slice A' fs.length c') fs]) := by
  have e : (l.take (l.length - 1)).length = l.length - 1 := by rw [List.length_take]; omega
  have hC := Kd.C_take hr (m := l.length - 1) (by omega)
  have := Split_sl h A c (l.take (l.length - 1)) (by omega) (fun x hx => hb x (List.mem_of_mem_take hx)) (by first | exact hC | (rw [e]; exact hC)) (by omega) hs
  rw [e] at this
  exact this
theorem same_cut {w : World} {A B : Option Addr} {c d : Nat} (l gs : List S25) (f : S25) (e : l = gs ++ [f]) (hl : l.length ≤ 1000000) (h0 : Kd.C k25 w A gs.length gs) (h1 : gs.length ≤ c) (h2 : Kd.C k25 w B l.length l) (h3 : l.length ≤ d) :
    Calls Try.prog 15 #[.slice A gs.length c, .slice B (l.length - 1) d] w fun e w' => e = .returned (.bool true) ∧ Drawn0 w w' := by
  subst e
  have e1 : (gs ++ [f]).length - 1 = gs.length := by simp
  have e2 : (gs ++ [f]).take gs.length = gs := by simp
  have e3 : (gs ++ [f]).length = gs.length + 1 := by simp
  have hC := Kd.C_take h2 (m := gs.length) (by omega)
  rw [e2] at hC
  rw [e1]
  exact same_yes gs (by omega) h0 h1 hC (by omega)
/-- An element of what came in, for every later world. -/
theorem atF {w : World} {A : Option Addr} {l : List S25} (hr : Kd.C k25 w A l.length l) (i : Nat) (hi : i < l.length) : ∃ ad A2 c2, A = some ad ∧ (rd_T25 l (i : Int)).f2.length ≤ c2 ∧ ∀ w', Below w.heap.size w w' →
    w'.cell? (ad.add (i * 3)) = some (.int .u32 (rd_T25 l (i : Int)).f0) ∧ w'.cell? ⟨(ad.add (i * 3)).block, (ad.add (i * 3)).off + 1, none⟩ = some (.int .i64 (rd_T25 l (i : Int)).f1) ∧ w'.cell? ⟨(ad.add (i * 3)).block, (ad.add (i * 3)).off + 2, none⟩ = some (.slice A2 (rd_T25 l (i : Int)).f2.length c2) ∧
    Kd.C (Kd.int .u8) w' A2 (rd_T25 l (i : Int)).f2.length (rd_T25 l (i : Int)).f2 ∧ Kd.FK k25 w' (fun k => k < w.heap.size) (rd_T25 l (i : Int)) [.int .u32 (rd_T25 l (i : Int)).f0, .int .i64 (rd_T25 l (i : Int)).f1, .slice A2 (rd_T25 l (i : Int)).f2.length c2] := by
  obtain ⟨ad, cs, e, hcl, hK, hc0, _⟩ := Kd.F_get (Kd.C_F heap25 hr) z25 (i : Int) (by omega) (by omega)
  have hc : ∀ j u, cs[j]? = some u → w.cell? (ad.add (i * 3 + j)) = some u := hc0
  have hK2 : Kd.FK k25 w (fun k => k < w.heap.size) (rd_T25 l (i : Int)) cs := hK
  obtain ⟨A2, c2, rfl, hl2, hF⟩ := k25_openF hK2
  refine ⟨ad, A2, c2, e, hl2, fun w' hb => ⟨pw_cell_below hb (hc 0 _ rfl), ?_, ?_, Kd.C_below (Kd.F_now hF) hb, Kd.FK_step hK2 (fun k hk _ => hb.block k hk)⟩⟩
  · rw [← add_field _ _ 1 (by omega)]; exact pw_cell_below hb (hc 1 _ rfl)
  · rw [← add_field _ _ 2 (by omega)]; exact pw_cell_below hb (hc 2 _ rfl)
section
variable {w0 w : World} {L : List Res} {ops : Array Oper} {rest : List Oper} {o : Oper} {a : Act} {Q : Exit → Act → World → Prop}
/-- append to a row of bytes; the separation first. -/
theorem app8 (h : SL w0 w L) (i : Nat) (v : Value) (xs ys : List Int) (hgd : o.guard = none) (s x : Operand) (ho : o.op = .call { callee := .builtin .append, args := #[s, x], argTypes := #[23, 23] })
    {B : Option Addr} {m c : Nat} (hs : a.eval s = v) (hx : a.eval x = .slice B m c) (hi : L[i]? = some (row8 v xs)) (hy : Kd.C (Kd.int .u8) w B m ys) (hl : (xs.length + m) ≤ 140737488355328)
    (hk : ∀ A c w1, SL w0 w1 (L.set i (row8 (.slice A (xs.length + ys.length) c) (xs ++ ys))) → wpList Try.prog ops Q rest (a.put o.dst (.slice A (xs.length + ys.length) c)) w1) :
    wpList Try.prog ops Q (o :: rest) a w :=
  sl_append_rows flat8 hgd s x 23 (.int .u8 0) 1 ho Try.underlying23 info5 rfl (by decide) (by decide) ys hs hx i hi h hy (by omega) hk
theorem app8n (h : SL w0 w L) (ys : List Int) (hgd : o.guard = none) (s x : Operand) (ho : o.op = .call { callee := .builtin .append, args := #[s, x], argTypes := #[23, 23] })
    {B : Option Addr} {m c : Nat} (hs : a.eval s = .slice none 0 0) (hx : a.eval x = .slice B m c) (hy : Kd.C (Kd.int .u8) w B m ys) (hl : m ≤ 140737488355328)
    (hk : ∀ A c w1, SL w0 w1 (L ++ [row8 (.slice A ys.length c) ys]) → wpList Try.prog ops Q rest (a.put o.dst (.slice A ys.length c)) w1) :
    wpList Try.prog ops Q (o :: rest) a w := by
  refine app8 (sl_nil h (Kd.int .u8) enc8 5) L.length (.slice none 0 0) [] ys hgd s x ho hs hx (by simp) hy (by simpa using hl) (fun A c w1 h1 => ?_)
  have e : (L ++ [lrR (Kd.int .u8) enc8 5 (.slice none 0 0) []]).set L.length (row8 (.slice A (([] : List Int).length + ys.length) c) ([] ++ ys)) = L ++ [row8 (.slice A ys.length c) ys] := by
    rw [List.set_append_right _ _ (Nat.le_refl _), Nat.sub_self]
    simp
  rw [e] at h1
  have := hk A c w1 h1
  simpa using this
theorem appF (h : SL w0 w L) (i : Nat) (v : Value) (xs : List S25) (y : S25) (A2 : Option Addr) (c2 : Nat) (hgd : o.guard = none) (s x : Operand) (ho : o.op = .call { callee := .builtin .append, args := #[s, x], argTypes := #[31, 31] })
    (hp : Kd.FK k25 w (fun k => k < w0.heap.size) y [.int .u32 y.f0, .int .i64 y.f1, .slice A2 y.f2.length c2]) (hs : a.eval s = v) (hx : a.eval x = .slice (some ⟨w.heap.size, 0, none⟩) 1 1) (hi : L[i]? = some (rowF w0 v xs)) (hl : xs.length + 1 ≤ 1000000)
    (hk : ∀ A c w1, SL w0 w1 (L.set i (rowF w0 (.slice A (xs.length + 1) c) (xs ++ [y]))) → wpList Try.prog ops Q rest (a.put o.dst (.slice A (xs.length + 1) c)) w1) :
    wpList Try.prog ops Q (o :: rest) a (w.alloc (.cells #[.int .u32 y.f0, .int .i64 y.f1, .slice A2 y.f2.length c2] 25)) :=
  sl_appendN_one hgd s x 31 (.agg #[.int .u32 0, .int .i64 0, .slice none 0 0]) 40 ho Try.underlying31 info25 rfl (by decide) (by decide) y _ hp hs hx i hi h (by omega) hk
theorem appFs (h : SL w0 w L) (i j : Nat) (hij : i ≠ j) (v : Value) (xs ys : List S25) (hgd : o.guard = none) (s x : Operand) (ho : o.op = .call { callee := .builtin .append, args := #[s, x], argTypes := #[31, 31] })
    {B : Option Addr} {m c : Nat} (hs : a.eval s = v) (hx : a.eval x = .slice B m c) (hi : L[i]? = some (rowF w0 v xs)) (hj : L[j]? = some (rowF w0 (.slice B m c) ys)) (hl : xs.length + m ≤ 1000000)
    (hk : ∀ A c' w1, SL w0 w1 (((L.set i (andR (rowF w0 v xs) (rowF w0 (.slice B m c) ys))).set j noneR).set i (rowF w0 (.slice A (xs.length + ys.length) c') (xs ++ ys))) → wpList Try.prog ops Q rest (a.put o.dst (.slice A (xs.length + ys.length) c')) w1) :
    wpList Try.prog ops Q (o :: rest) a w :=
  sl_appendN_rows hgd s x 31 (.agg #[.int .u32 0, .int .i64 0, .slice none 0 0]) 40 ho Try.underlying31 info25 rfl (by decide) (by decide) ys hs hx i j hij hi hj h (by omega) hk
end
theorem sl_drop8 {w0 w : World} {L : List Res} (h : SL w0 w L) (i : Nat) {A : Option Addr} {m c k : Nat} {xs : List Int} (hi : L[i]? = some (row8 (.slice A m c) xs)) (hk : k ≤ xs.length) : SL w0 w (L.set i (row8 (.slice (if c = k then A else Option.map (fun x => x.add k) A) (m - k) (c - k)) (xs.drop k))) :=
  sl_imp h hi fun F hP => by
    have hP : LR (Kd.int .u8) enc8 5 w F (.slice A m c) xs := hP
    obtain ⟨rfl, hc, _⟩ := hP.reads' flat8
    have := hP.cut flat8 hk (Nat.le_refl _) hc (Nat.le_refl _)
    have e : k * (Kd.int .u8).sz = k := Nat.mul_one k
    rw [e, List.take_of_length_le (by rw [List.length_drop]; exact Nat.le_refl _)] at this
    exact this
end Go.Proofs.Ytipmcklkflgppaa.Q
