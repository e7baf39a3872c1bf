import Derived.Test.YtmihibikhmldgaaNr
import Derived.Test.YtmihibikhmldgaaFr
import Derived.Test.YtmihibikhmldgaaQx0
namespace Go.Proofs.Ytmihibikhmldgaa.Q
open Go.RowKit Go.Proofs.YtmihibikhmldgaaW.PrintWords Go.Proofs.YtmihibikhmldgaaW.PrintLast Go.Proofs.YtmihibikhmldgaaW.PrintMore Go.Proofs.Ytmihibikhmldgaa.Sl Go.Proofs.Ytmihibikhmldgaa.Hand 
attribute [local go_sem] max2_int min2_int max_two min_two max_three min_three max_four min_four 
set_option linter.unusedVariables false
set_option linter.unusedSimpArgs false

/-! ### The reader -/
def frR8 (v : Value) (u : List Int) : Res where
  P := fun w F => FR (Kd.int .u8) w F v u
  loc := fun h hm => h.step' hm
/-- A reader that lies at block g: its unread bytes, its error. -/
def rdR (g : Nat) (u : List Int) (er : Int) : Res := exR (fun v => cellsR g 68 #[v, .int .i64 er, .bool true]) (fun v => frR8 v u)
theorem sl_readF {w0 w : World} {L : List Res} {v : Value} {u : List Int} (h : SL w0 w L) (i : Nat) (hi : L[i]? = some (frR8 v u)) : ∃ A c, v = .slice A u.length c ∧ u.length ≤ c ∧ Kd.C (Kd.int .u8) w A u.length u := by
  obtain ⟨F, h1, _, _⟩ := sl_upd h hi
  exact FR.reads h1
theorem rd_open {w0 w : World} {L : List Res} (h : SL w0 w L) (i : Nat) {g : Nat} {u : List Int} {er : Int} (hi : L[i]? = some (rdR g u er)) : ∃ A c, u.length ≤ c ∧ Kd.C (Kd.int .u8) w A u.length u ∧ SL w0 w (L.set i (cellsR g 68 #[.slice A u.length c, .int .i64 er, .bool true]) ++ [frR8 (.slice A u.length c) u]) := by
  obtain ⟨v, hs⟩ := sl_open h i hi
  obtain ⟨A, c, rfl, hc, hC⟩ := sl_readF hs L.length (by rw [List.getElem?_append_right (by rw [List.length_set]; exact Nat.le_refl _), List.length_set, Nat.sub_self]; rfl)
  exact ⟨A, c, hc, hC, hs⟩
theorem ready_c (g : Nat) (v : Value) (er : Int) (w : World) (hb : w.heap[g]? = some (.cells #[v, .int .i64 er, .bool true] 68 (0, 0))) : Calls Try.prog 50 #[.pointer (some ⟨g, 0, none⟩)] w fun e w' => e = .returned (.bool (er == 0)) ∧ Drawn0 w w' := by
  have m1 := (blk_cell hb 1).trans (show _ = some (Value.int .i64 er) from rfl)
  have m2 := (blk_cell hb 2).trans (show _ = some (Value.bool true) from rfl)
  clear hb
  go_enter Try.func50, Try.ntmps50
  go_wp2
  go_ret
  exact ⟨rfl, by repeat (first | exact Drawn0.refl _ | apply Drawn0.step)⟩
theorem usable_c (g : Nat) (v : Value) (er : Int) (w : World) (hb : w.heap[g]? = some (.cells #[v, .int .i64 er, .bool true] 68 (0, 0))) : Calls Try.prog 44 #[.pointer (some ⟨g, 0, none⟩)] w fun e w' => e = .returned (.bool (er == 0)) ∧ Drawn0 w w' := by
  have HB := Aside0.mk hb
  clear hb
  go_enter Try.func44, Try.ntmps44
  go_wp2_with (first | (go_at_call 50; refine (ready_c g v er _ HB.out).mono ?_; rintro e w1 ⟨rfl, ⟨nd, rfl⟩⟩))
  go_ret
  exact ⟨rfl, ⟨nd, rfl⟩⟩
theorem fail_in {w0 w : World} {R : Res} (g : Nat) (u : List Int) (er e' : Int) (hs : SL w0 w [rdR g u er, R]) : Calls Try.prog 46 #[.pointer (some ⟨g, 0, none⟩), .int .i64 e'] w fun e w' => e = .returned (.tuple #[]) ∧ SL w0 w' [rdR g [] e', R] := by
  obtain ⟨A, c, hc, hC, hs1⟩ := rd_open hs 0 rfl
  have HS := Aside0.mk (show SL w0 w [cellsR g 68 #[.slice A u.length c, .int .i64 er, .bool true], R, frR8 (.slice A u.length c) u] from hs1)
  have f0 := blk_frozen (sl_blk HS.out 0 rfl) 0
  have f1 := blk_frozen (sl_blk HS.out 0 rfl) 1
  have m0 := (blk_cell (sl_blk HS.out 0 rfl) 0).trans (show _ = some (Value.slice A u.length c) from rfl)
  have m1 := (blk_cell (sl_blk HS.out 0 rfl) 1).trans (show _ = some (Value.int .i64 er) from rfl)
  have hg_ := blk_lt (sl_blk HS.out 0 rfl)
  clear hs hs1 hC hc
  go_enter Try.func46, Try.ntmps46
  go_wp2
  go_end0
  refine ⟨rfl, ?_⟩
  have h1 := sl_new (sl_put (sl_put HS.out 0 rfl 1 (.int .i64 e')) 0 rfl 0 (.slice none 0 0)) (Below.refl _ _) (A := frR8 (.slice none 0 0) []) (F := fun _ => False) (FR.nil _ _ _) (fun k hk => hk.elim)
  have h2 := sl_close (A := fun v => cellsR g 68 #[v, .int .i64 e', .bool true]) (B := fun v => frR8 v []) (.slice none 0 0) h1 0 3 (by decide) rfl rfl
  exact sl_pick h2 [0, 1] (by decide) rfl
def enc8 (x : Int) : List Value := [.int .u8 x]
theorem flat8 : Flat (Kd.int .u8) enc8 := ⟨fun _ _ => rfl, fun _ _ _ h => h⟩
abbrev row8 (v : Value) (xs : List Int) : Res := lrR (Kd.int .u8) enc8 5 v xs
section
variable {w0 w : World} {L : List Res} {ops : Array Oper} {rest : List Oper} {o : Oper} {a : Act} {Q : Exit → Act → World → Prop}
theorem app8 (h : SL w0 w L) (i : Nat) (v : Value) (xs ys : List Int) (hgd : o.guard = none) (s x : Operand) (ho : o.op = .call { callee := .builtin .append, args := #[s, x], argTypes := #[22, 22] })
    {B : Option Addr} {m c : Nat} (hs : a.eval s = v) (hx : a.eval x = .slice B m c) (hi : L[i]? = some (row8 v xs)) (hy : Kd.C (Kd.int .u8) w B m ys) (hl : (xs.length + m) ≤ 140737488355328)
    (hk : ∀ A c w1, SL w0 w1 (L.set i (row8 (.slice A (xs.length + ys.length) c) (xs ++ ys))) → wpList Try.prog ops Q rest (a.put o.dst (.slice A (xs.length + ys.length) c)) w1) :
    wpList Try.prog ops Q (o :: rest) a w :=
  sl_append_rows flat8 hgd s x 22 (.int .u8 0) 1 ho Try.underlying22 info5 rfl (by decide) (by decide) ys hs hx i hi h hy (by omega) hk
theorem app8n (h : SL w0 w L) (ys : List Int) (hgd : o.guard = none) (s x : Operand) (ho : o.op = .call { callee := .builtin .append, args := #[s, x], argTypes := #[22, 22] })
    {B : Option Addr} {m c : Nat} (hs : a.eval s = .slice none 0 0) (hx : a.eval x = .slice B m c) (hy : Kd.C (Kd.int .u8) w B m ys) (hl : m ≤ 140737488355328)
    (hk : ∀ A c w1, SL w0 w1 (L ++ [row8 (.slice A ys.length c) ys]) → wpList Try.prog ops Q rest (a.put o.dst (.slice A ys.length c)) w1) :
    wpList Try.prog ops Q (o :: rest) a w := by
  refine app8 (sl_nil h (Kd.int .u8) enc8 5) L.length (.slice none 0 0) [] ys hgd s x ho hs hx (by simp) hy (by simpa using hl) (fun A c w1 h1 => ?_)
  have e : (L ++ [lrR (Kd.int .u8) enc8 5 (.slice none 0 0) []]).set L.length (row8 (.slice A (([] : List Int).length + ys.length) c) ([] ++ ys)) = L ++ [row8 (.slice A ys.length c) ys] := by
    rw [List.set_append_right _ _ (Nat.le_refl _), Nat.sub_self]
    simp
  rw [e] at h1
  have := hk A c w1 h1
  simpa using this
end
theorem From_sl {w0 w : World} {L : List Res} (h : SL w0 w L) (A : Option Addr) (c : Nat) (b : List Int) (hr : Kd.C (Kd.int .u8) w A b.length b) (hl : b.length ≤ 1000000) : Calls Try.prog 17 #[.slice A b.length c] w fun e w' => ∃ g : Nat, e = .returned (.pointer (some ⟨g, 0, none⟩)) ∧ SL w0 w' (L ++ [rdR g b 0]) := by
  have HR := Aside0.mk hr
  have HL := Aside0.mk hl
  have HS := Aside0.mk (sl_start w)
  have H := Aside0.mk h
  clear hr hl h
  go_enter Try.func17, Try.ntmps17
  go_wp2_with (first | (at_builtin; refine app8n (by repeat (with_reducible first | exact HS.out | apply sl_drewN | apply sl_drew | apply sl_alloc)) b rfl (.const (.slice none 0 0)) (.tmp 3) rfl rfl rfl HR.out (by have := HL.out; omega) ?_; intro A1 c1 w1 hs; replace HS := Aside0.mk hs; clear hs))
  go_ret
  refine ⟨w1.heap.size, rfl, sl_new2 H.out ?_⟩
  have h1 := sl_box HS.out #[.slice A1 b.length c1, .int .i64 0, .bool true] 68
  have h2 := sl_imp (A' := frR8 (.slice A1 b.length c1) b) (i := 0) h1 rfl (fun F hP => FR.of_lr flat8 hP)
  have h3 := sl_close (A := fun v => cellsR w1.heap.size 68 #[v, .int .i64 0, .bool true]) (B := fun v => frR8 v b) (.slice A1 b.length c1) h2 1 0 (by decide) rfl rfl
  exact sl_pick h3 [1] (by decide) rfl
theorem drop8 {w : World} {A : Option Addr} {m c k : Nat} {xs : List Int} (h : Kd.C (Kd.int .u8) w A xs.length xs) (hc : xs.length ≤ c) (hk : k ≤ xs.length) (hm : m = xs.length) : Kd.C (Kd.int .u8) w (if c = k then A else Option.map (fun x => x.add k) A) (m - k) (xs.drop k) := by
  have := Kd.C_drop h hk hc
  rw [List.length_drop] at this
  subst hm
  have e : k * (Kd.int .u8).sz = k := Nat.mul_one k
  rw [e] at this
  exact this
theorem sl_dropF {w0 w : World} {L : List Res} (h : SL w0 w L) (i : Nat) {A : Option Addr} {m c k : Nat} {xs : List Int} (hi : L[i]? = some (frR8 (.slice A m c) xs)) (hk : k ≤ xs.length) : SL w0 w (L.set i (frR8 (.slice (if c = k then A else Option.map (fun x => x.add k) A) (m - k) (c - k)) (xs.drop k))) :=
  sl_imp h hi fun F hP => by
    have hP : FR (Kd.int .u8) w F (.slice A m c) xs := hP
    have := hP.drop hk
    have e : k * (Kd.int .u8).sz = k := Nat.mul_one k
    rw [e] at this
    exact this
/-- What Left answers. -/
def leftE (u : List Int) (er : Int) : Int := if er = 0 then (u.length : Int) else 0
theorem Left_sl {w0 w : World} {L : List Res} (h : SL w0 w L) (i : Nat) {g : Nat} {u : List Int} {er : Int} (hi : L[i]? = some (rdR g u er)) : Calls Try.prog 27 #[.pointer (some ⟨g, 0, none⟩)] w fun e w' => e = .returned (.int .i64 (leftE u er)) ∧ SL w0 w' L := by
  have H := Aside0.mk h
  obtain ⟨A, c, hc, hC, hs⟩ := rd_open h i hi
  have hil : i < L.length := (List.getElem?_eq_some_iff.1 hi).1
  have hb := sl_blk hs i (g := g) (t := 68) (cs := #[.slice A u.length c, .int .i64 er, .bool true]) (by rw [List.getElem?_append_left (by rw [List.length_set]; exact hil), List.getElem?_set_self hil])
  have HB := Aside0.mk hb
  have m0 := (blk_cell hb 0).trans (show _ = some (Value.slice A u.length c) from rfl)
  clear h hs hb hC hc hi hil
  by_cases h0 : er = 0
  · subst h0
    have bz : ((0 : Int) == 0) = true := rfl
    have E := Aside0.mk (show leftE u 0 = (u.length : Int) from rfl)
    go_enter Try.func27, Try.ntmps27
    go_wp2_with (first | (go_at_call 44; refine (usable_c g _ 0 _ HB.out).mono ?_; rintro e w1 ⟨rfl, ⟨nd, rfl⟩⟩))
    go_ret
    exact ⟨by rw [E.out]; rfl, sl_drewN H.out nd⟩
  · have bz : (er == 0) = false := beq_eq_false_iff_ne.2 h0
    have E := Aside0.mk (show leftE u er = 0 from if_neg h0)
    clear h0
    go_enter Try.func27, Try.ntmps27
    go_wp2_with (first | (go_at_call 44; refine (usable_c g _ er _ HB.out).mono ?_; rintro e w1 ⟨rfl, ⟨nd, rfl⟩⟩))
    go_ret
    exact ⟨by rw [E.out]; rfl, sl_drewN H.out nd⟩
theorem Err_sl {w0 w : World} {L : List Res} (h : SL w0 w L) (i : Nat) {g : Nat} {u : List Int} {er : Int} (hi : L[i]? = some (rdR g u er)) : Calls Try.prog 29 #[.pointer (some ⟨g, 0, none⟩)] w fun e w' => e = .returned (.int .i64 er) ∧ w = w' := by
  obtain ⟨A, c, hc, hC, hs⟩ := rd_open h i hi
  have hil : i < L.length := (List.getElem?_eq_some_iff.1 hi).1
  have hb := sl_blk hs i (g := g) (t := 68) (cs := #[.slice A u.length c, .int .i64 er, .bool true]) (by rw [List.getElem?_append_left (by rw [List.length_set]; exact hil), List.getElem?_set_self hil])
  have m1 := (blk_cell hb 1).trans (show _ = some (Value.int .i64 er) from rfl)
  have m2 := (blk_cell hb 2).trans (show _ = some (Value.bool true) from rfl)
  clear h hs hb hC hc hi hil
  go_enter Try.func29, Try.ntmps29
  go_wp2
  go_ret
  exact ⟨rfl, rfl⟩
theorem take_no {w0 w : World} {R : Res} (g : Nat) (u : List Int) (er n : Int) (hs : SL w0 w [rdR g u er, R]) (hn : (u.length : Int) < n) : Calls Try.prog 45 #[.pointer (some ⟨g, 0, none⟩), .int .i64 n] w fun e w' => e = .returned (.slice none 0 0) ∧ SL w0 w' [rdR g [] 4, R] := by
  have H := Aside0.mk hs
  obtain ⟨A, c, hc, hC, hs1⟩ := rd_open hs 0 rfl
  have m0 := (blk_cell (sl_blk hs1 0 rfl) 0).trans (show _ = some (Value.slice A u.length c) from rfl)
  have b1 : decide ((u.length : Int) < n) = true := decide_eq_true hn
  clear hs hs1 hC hc hn
  go_enter Try.func45, Try.ntmps45
  go_wp2_with (first | (go_at_call 46; refine (fail_in g u er 4 (by repeat (with_reducible first | exact H.out | apply sl_drewN | apply sl_drew | apply sl_alloc))).mono ?_; rintro e w1 ⟨rfl, hs⟩; have HS := Aside0.mk hs; clear hs))
  try rw [Exit.noGoto_ret]
  go_ret
  exact ⟨rfl, HS.out⟩
set_option maxHeartbeats 2000000 in
theorem take_in {w0 w : World} {R : Res} (g : Nat) (u : List Int) (er : Int) (n : Nat) (hs : SL w0 w [rdR g u er, R]) (hn : n ≤ u.length) (hp : 0 < n) : Calls Try.prog 45 #[.pointer (some ⟨g, 0, none⟩), .int .i64 (n : Int)] w fun e w' => ∃ ad, e = .returned (.slice (some ad) n n) ∧ SL w0 w' [rdR g (u.drop n) er, R] ∧ Kd.C (Kd.int .u8) w' (some ad) n (u.take n) := by
  obtain ⟨A, c, hc, hC, hs1⟩ := rd_open hs 0 rfl
  have HS := Aside0.mk (show SL w0 w [cellsR g 68 #[.slice A u.length c, .int .i64 er, .bool true], R, frR8 (.slice A u.length c) u] from hs1)
  obtain ⟨ad, rfl, _⟩ := Kd.at_int hC 0 (Int.le_refl _) (by omega)
  have m0 := (blk_cell (sl_blk HS.out 0 rfl) 0).trans (show _ = some (Value.slice (some ad) u.length c) from rfl)
  have f0 := blk_frozen (sl_blk HS.out 0 rfl) 0
  have hg_ := blk_lt (sl_blk HS.out 0 rfl)
  have b1 : decide ((u.length : Int) < (n : Int)) = false := decide_eq_false (by omega)
  have b1n : decide (u.length < n) = false := decide_eq_false (by omega)
  have q0 : (0 : Int) ≤ (n : Int) := by omega
  have q1 : (n : Int) ≤ (c : Int) := by omega
  have q2 : (n : Int) ≤ (u.length : Int) := by omega
  have q3 : (n = 0) = False := eq_false (by omega)
  have HN := Aside0.mk hn
  have hlt : (u.take n).length = n := by rw [List.length_take]; omega
  have HCt := Aside0.mk (show Kd.C (Kd.int .u8) w (some ad) n (u.take n) by have := Kd.C_take hC hn; rw [hlt] at this; exact this)
  clear hs hs1 hC hc hn hlt
  by_cases hcn : c = n
  · have q4 : (c = n) = True := eq_true hcn
    go_enter Try.func45, Try.ntmps45
    go_wp2
    go_ret
    have hp1 := sl_put HS.out 0 rfl 0 (.slice (some ad) (u.length - n) 0)
    obtain ⟨A1, c1, e1, _, hC1⟩ := sl_readF hp1 2 rfl
    injection e1 with e1
    subst e1
    have hC2 := Kd.C_take hC1 HN.out
    rw [List.length_take, Nat.min_eq_left HN.out] at hC2
    have hp2 := sl_dropF hp1 2 rfl HN.out
    rw [if_pos hcn, hcn, Nat.sub_self] at hp2
    have hp3 := sl_close (A := fun v => cellsR g 68 #[v, .int .i64 er, .bool true]) (B := fun v => frR8 v (u.drop n)) (.slice (some ad) (u.length - n) 0) hp2 0 2 (by decide) rfl rfl
    exact ⟨ad, rfl, sl_pick hp3 [0, 1] (by decide) rfl, hC2⟩
  · have q4 : (c = n) = False := eq_false hcn
    go_enter Try.func45, Try.ntmps45
    go_wp2
    go_ret
    have hp1 := sl_put HS.out 0 rfl 0 (.slice (some (ad.add n)) (u.length - n) (c - n))
    obtain ⟨A1, c1, e1, _, hC1⟩ := sl_readF hp1 2 rfl
    injection e1 with e1
    subst e1
    have hC2 := Kd.C_take hC1 HN.out
    rw [List.length_take, Nat.min_eq_left HN.out] at hC2
    have hp2 := sl_dropF hp1 2 rfl HN.out
    rw [if_neg hcn] at hp2
    have hp3 := sl_close (A := fun v => cellsR g 68 #[v, .int .i64 er, .bool true]) (B := fun v => frR8 v (u.drop n)) (.slice (some (ad.add n)) (u.length - n) (c - n)) hp2 0 2 (by decide) rfl rfl
    exact ⟨ad, rfl, sl_pick hp3 [0, 1] (by decide) rfl, hC2⟩
end Go.Proofs.Ytmihibikhmldgaa.Q
