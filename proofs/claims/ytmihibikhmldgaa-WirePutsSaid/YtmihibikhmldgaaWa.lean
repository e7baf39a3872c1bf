import Derived.Laws.BytesArg
import Derived.Laws.IdiomStrings
import Derived.WalkSpells
import Derived.Test.YtmihibikhmldgaaNr
import Derived.Test.YtmihibikhmldgaaFr
import Derived.Test.YtmihibikhmldgaaQx0
namespace Go.Proofs.Ytmihibikhmldgaa.Q
open Go.RowKit Go.Proofs.YtmihibikhmldgaaW.PrintWords Go.Proofs.YtmihibikhmldgaaW.PrintLast Go.Proofs.YtmihibikhmldgaaW.PrintMore Go.Proofs.Ytmihibikhmldgaa.Sl Go.Proofs.Ytmihibikhmldgaa.Hand 
attribute [local go_sem] max2_int min2_int max_two min_two max_three min_three max_four min_four 
set_option linter.unusedVariables false
set_option linter.unusedSimpArgs false

/-! ### The reader -/
def frR8 (v : Value) (u : List Int) : Res where
  P := fun w F => FR (Kd.int .u8) w F v u
  loc := fun h hm => h.step' hm
/-- A reader that lies at block g: its unread bytes, its error. -/
def rdR (g : Nat) (u : List Int) (er : Int) : Res := exR (fun v => cellsR g 68 #[v, .int .i64 er, .bool true]) (fun v => frR8 v u)
theorem sl_readF {w0 w : World} {L : List Res} {v : Value} {u : List Int} (h : SL w0 w L) (i : Nat) (hi : L[i]? = some (frR8 v u)) : ∃ A c, v = .slice A u.length c ∧ u.length ≤ c ∧ Kd.C (Kd.int .u8) w A u.length u := by
  obtain ⟨F, h1, _, _⟩ := sl_upd h hi
  exact FR.reads h1
theorem rd_open {w0 w : World} {L : List Res} (h : SL w0 w L) (i : Nat) {g : Nat} {u : List Int} {er : Int} (hi : L[i]? = some (rdR g u er)) : ∃ A c, u.length ≤ c ∧ Kd.C (Kd.int .u8) w A u.length u ∧ SL w0 w (L.set i (cellsR g 68 #[.slice A u.length c, .int .i64 er, .bool true]) ++ [frR8 (.slice A u.length c) u]) := by
  obtain ⟨v, hs⟩ := sl_open h i hi
  obtain ⟨A, c, rfl, hc, hC⟩ := sl_readF hs L.length (by rw [List.getElem?_append_right (by rw [List.length_set]; exact Nat.le_refl _), List.length_set, Nat.sub_self]; rfl)
  exact ⟨A, c, hc, hC, hs⟩
theorem ready_c (g : Nat) (v : Value) (er : Int) (w : World) (hb : w.heap[g]? = some (.cells #[v, .int .i64 er, .bool true] 68 (0, 0))) : Calls Try.prog 50 #[.pointer (some ⟨g, 0, none⟩)] w fun e w' => e = .returned (.bool (er == 0)) ∧ Drawn0 w w' := by
  have m1 := (blk_cell hb 1).trans (show _ = some (Value.int .i64 er) from rfl)
  have m2 := (blk_cell hb 2).trans (show _ = some (Value.bool true) from rfl)
  clear hb
  go_enter Try.func50, Try.ntmps50
  go_wp2
  go_ret
  exact ⟨rfl, by repeat (first | exact Drawn0.refl _ | apply Drawn0.step)⟩
theorem usable_c (g : Nat) (v : Value) (er : Int) (w : World) (hb : w.heap[g]? = some (.cells #[v, .int .i64 er, .bool true] 68 (0, 0))) : Calls Try.prog 44 #[.pointer (some ⟨g, 0, none⟩)] w fun e w' => e = .returned (.bool (er == 0)) ∧ Drawn0 w w' := by
  have HB := Aside0.mk hb
  clear hb
  go_enter Try.func44, Try.ntmps44
  go_wp2_with (first | (go_at_call 50; refine (ready_c g v er _ HB.out).mono ?_; rintro e w1 ⟨rfl, ⟨nd, rfl⟩⟩))
  go_ret
  exact ⟨rfl, ⟨nd, rfl⟩⟩
theorem fail_in {w0 w : World} {R : Res} (g : Nat) (u : List Int) (er e' : Int) (hs : SL w0 w [rdR g u er, R]) : Calls Try.prog 46 #[.pointer (some ⟨g, 0, none⟩), .int .i64 e'] w fun e w' => e = .returned (.tuple #[]) ∧ SL w0 w' [rdR g [] e', R] := by
  obtain ⟨A, c, hc, hC, hs1⟩ := rd_open hs 0 rfl
  have HS := Aside0.mk (show SL w0 w [cellsR g 68 #[.slice A u.length c, .int .i64 er, .bool true], R, frR8 (.slice A u.length c) u] from hs1)
  have f0 := blk_frozen (sl_blk HS.out 0 rfl) 0
  have f1 := blk_frozen (sl_blk HS.out 0 rfl) 1
  have m0 := (blk_cell (sl_blk HS.out 0 rfl) 0).trans (show _ = some (Value.slice A u.length c) from rfl)
  have m1 := (blk_cell (sl_blk HS.out 0 rfl) 1).trans (show _ = some (Value.int .i64 er) from rfl)
  have hg_ := blk_lt (sl_blk HS.out 0 rfl)
  clear hs hs1 hC hc
  go_enter Try.func46, Try.ntmps46
  go_wp2
  go_end0
  refine ⟨rfl, ?_⟩
  have h1 := sl_new (sl_put (sl_put HS.out 0 rfl 1 (.int .i64 e')) 0 rfl 0 (.slice none 0 0)) (Below.refl _ _) (A := frR8 (.slice none 0 0) []) (F := fun _ => False) (FR.nil _ _ _) (fun k hk => hk.elim)
  have h2 := sl_close (A := fun v => cellsR g 68 #[v, .int .i64 e', .bool true]) (B := fun v => frR8 v []) (.slice none 0 0) h1 0 3 (by decide) rfl rfl
  exact sl_pick h2 [0, 1] (by decide) rfl
def enc8 (x : Int) : List Value := [.int .u8 x]
theorem flat8 : Flat (Kd.int .u8) enc8 := ⟨fun _ _ => rfl, fun _ _ _ h => h⟩
abbrev row8 (v : Value) (xs : List Int) : Res := lrR (Kd.int .u8) enc8 5 v xs
section
variable {w0 w : World} {L : List Res} {ops : Array Oper} {rest : List Oper} {o : Oper} {a : Act} {Q : Exit → Act → World → Prop}
theorem app8 (h : SL w0 w L) (i : Nat) (v : Value) (xs ys : List Int) (hgd : o.guard = none) (s x : Operand) (ho : o.op = .call { callee := .builtin .append, args := #[s, x], argTypes := #[22, 22] })
    {B : Option Addr} {m c : Nat} (hs : a.eval s = v) (hx : a.eval x = .slice B m c) (hi : L[i]? = some (row8 v xs)) (hy : Kd.C (Kd.int .u8) w B m ys) (hl : (xs.length + m) ≤ 140737488355328)
    (hk : ∀ A c w1, SL w0 w1 (L.set i (row8 (.slice A (xs.length + ys.length) c) (xs ++ ys))) → wpList Try.prog ops Q rest (a.put o.dst (.slice A (xs.length + ys.length) c)) w1) :
    wpList Try.prog ops Q (o :: rest) a w :=
  sl_append_rows flat8 hgd s x 22 (.int .u8 0) 1 ho Try.underlying22 info5 rfl (by decide) (by decide) ys hs hx i hi h hy (by omega) hk
theorem app8n (h : SL w0 w L) (ys : List Int) (hgd : o.guard = none) (s x : Operand) (ho : o.op = .call { callee := .builtin .append, args := #[s, x], argTypes := #[22, 22] })
    {B : Option Addr} {m c : Nat} (hs : a.eval s = .slice none 0 0) (hx : a.eval x = .slice B m c) (hy : Kd.C (Kd.int .u8) w B m ys) (hl : m ≤ 140737488355328)
    (hk : ∀ A c w1, SL w0 w1 (L ++ [row8 (.slice A ys.length c) ys]) → wpList Try.prog ops Q rest (a.put o.dst (.slice A ys.length c)) w1) :
    wpList Try.prog ops Q (o :: rest) a w := by
  refine app8 (sl_nil h (Kd.int .u8) enc8 5) L.length (.slice none 0 0) [] ys hgd s x ho hs hx (by simp) hy (by simpa using hl) (fun A c w1 h1 => ?_)
  have e : (L ++ [lrR (Kd.int .u8) enc8 5 (.slice none 0 0) []]).set L.length (row8 (.slice A (([] : List Int).length + ys.length) c) ([] ++ ys)) = L ++ [row8 (.slice A ys.length c) ys] := by
    rw [List.set_append_right _ _ (Nat.le_refl _), Nat.sub_self]
    simp
  rw [e] at h1
  have := hk A c w1 h1
  simpa using this
end
theorem From_sl {w0 w : World} {L : List Res} (h : SL w0 w L) (A : Option Addr) (c : Nat) (b : List Int) (hr : Kd.C (Kd.int .u8) w A b.length b) (hl : b.length ≤ 1000000) : Calls Try.prog 17 #[.slice A b.length c] w fun e w' => ∃ g : Nat, e = .returned (.pointer (some ⟨g, 0, none⟩)) ∧ SL w0 w' (L ++ [rdR g b 0]) := by
  have HR := Aside0.mk hr
  have HL := Aside0.mk hl
  have HS := Aside0.mk (sl_start w)
  have H := Aside0.mk h
  clear hr hl h
  go_enter Try.func17, Try.ntmps17
  go_wp2_with (first | (at_builtin; refine app8n (by repeat (with_reducible first | exact HS.out | apply sl_drewN | apply sl_drew | apply sl_alloc)) b rfl (.const (.slice none 0 0)) (.tmp 3) rfl rfl rfl HR.out (by have := HL.out; omega) ?_; intro A1 c1 w1 hs; replace HS := Aside0.mk hs; clear hs))
  go_ret
  refine ⟨w1.heap.size, rfl, sl_new2 H.out ?_⟩
  have h1 := sl_box HS.out #[.slice A1 b.length c1, .int .i64 0, .bool true] 68
  have h2 := sl_imp (A' := frR8 (.slice A1 b.length c1) b) (i := 0) h1 rfl (fun F hP => FR.of_lr flat8 hP)
  have h3 := sl_close (A := fun v => cellsR w1.heap.size 68 #[v, .int .i64 0, .bool true]) (B := fun v => frR8 v b) (.slice A1 b.length c1) h2 1 0 (by decide) rfl rfl
  exact sl_pick h3 [1] (by decide) rfl
theorem drop8 {w : World} {A : Option Addr} {m c k : Nat} {xs : List Int} (h : Kd.C (Kd.int .u8) w A xs.length xs) (hc : xs.length ≤ c) (hk : k ≤ xs.length) (hm : m = xs.length) : Kd.C (Kd.int .u8) w (if c = k then A else Option.map (fun x => x.add k) A) (m - k) (xs.drop k) := by
  have := Kd.C_drop h hk hc
  rw [List.length_drop] at this
  subst hm
  have e : k * (Kd.int .u8).sz = k := Nat.mul_one k
  rw [e] at this
  exact this
theorem sl_dropF {w0 w : World} {L : List Res} (h : SL w0 w L) (i : Nat) {A : Option Addr} {m c k : Nat} {xs : List Int} (hi : L[i]? = some (frR8 (.slice A m c) xs)) (hk : k ≤ xs.length) : SL w0 w (L.set i (frR8 (.slice (if c = k then A else Option.map (fun x => x.add k) A) (m - k) (c - k)) (xs.drop k))) :=
  sl_imp h hi fun F hP => by
    have hP : FR (Kd.int .u8) w F (.slice A m c) xs := hP
    have := hP.drop hk
    have e : k * (Kd.int .u8).sz = k := Nat.mul_one k
    rw [e] at this
    exact this
/-- What Left answers. -/
def leftE (u : List Int) (er : Int) : Int := if er = 0 then (u.length : Int) else 0
theorem Left_sl {w0 w : World} {L : List Res} (h : SL w0 w L) (i : Nat) {g : Nat} {u : List Int} {er : Int} (hi : L[i]? = some (rdR g u er)) : Calls Try.prog 27 #[.pointer (some ⟨g, 0, none⟩)] w fun e w' => e = .returned (.int .i64 (leftE u er)) ∧ SL w0 w' L := by
  have H := Aside0.mk h
  obtain ⟨A, c, hc, hC, hs⟩ := rd_open h i hi
  have hil : i < L.length := (List.getElem?_eq_some_iff.1 hi).1
  have hb := sl_blk hs i (g := g) (t := 68) (cs := #[.slice A u.length c, .int .i64 er, .bool true]) (by rw [List.getElem?_append_left (by rw [List.length_set]; exact hil), List.getElem?_set_self hil])
  have HB := Aside0.mk hb
  have m0 := (blk_cell hb 0).trans (show _ = some (Value.slice A u.length c) from rfl)
  clear h hs hb hC hc hi hil
  by_cases h0 : er = 0
  · subst h0
    have bz : ((0 : Int) == 0) = true := rfl
    have E := Aside0.mk (show leftE u 0 = (u.length : Int) from rfl)
    go_enter Try.func27, Try.ntmps27
    go_wp2_with (first | (go_at_call 44; refine (usable_c g _ 0 _ HB.out).mono ?_; rintro e w1 ⟨rfl, ⟨nd, rfl⟩⟩))
    go_ret
    exact ⟨by rw [E.out]; rfl, sl_drewN H.out nd⟩
  · have bz : (er == 0) = false := beq_eq_false_iff_ne.2 h0
    have E := Aside0.mk (show leftE u er = 0 from if_neg h0)
    clear h0
    go_enter Try.func27, Try.ntmps27
    go_wp2_with (first | (go_at_call 44; refine (usable_c g _ er _ HB.out).mono ?_; rintro e w1 ⟨rfl, ⟨nd, rfl⟩⟩))
    go_ret
    exact ⟨by rw [E.out]; rfl, sl_drewN H.out nd⟩
theorem Err_sl {w0 w : World} {L : List Res} (h : SL w0 w L) (i : Nat) {g : Nat} {u : List Int} {er : Int} (hi : L[i]? = some (rdR g u er)) : Calls Try.prog 29 #[.pointer (some ⟨g, 0, none⟩)] w fun e w' => e = .returned (.int .i64 er) ∧ w = w' := by
  obtain ⟨A, c, hc, hC, hs⟩ := rd_open h i hi
  have hil : i < L.length := (List.getElem?_eq_some_iff.1 hi).1
  have hb := sl_blk hs i (g := g) (t := 68) (cs := #[.slice A u.length c, .int .i64 er, .bool true]) (by rw [List.getElem?_append_left (by rw [List.length_set]; exact hil), List.getElem?_set_self hil])
  have m1 := (blk_cell hb 1).trans (show _ = some (Value.int .i64 er) from rfl)
  have m2 := (blk_cell hb 2).trans (show _ = some (Value.bool true) from rfl)
  clear h hs hb hC hc hi hil
  go_enter Try.func29, Try.ntmps29
  go_wp2
  go_ret
  exact ⟨rfl, rfl⟩
theorem take_no {w0 w : World} {R : Res} (g : Nat) (u : List Int) (er n : Int) (hs : SL w0 w [rdR g u er, R]) (hn : (u.length : Int) < n) : Calls Try.prog 45 #[.pointer (some ⟨g, 0, none⟩), .int .i64 n] w fun e w' => e = .returned (.slice none 0 0) ∧ SL w0 w' [rdR g [] 4, R] := by
  have H := Aside0.mk hs
  obtain ⟨A, c, hc, hC, hs1⟩ := rd_open hs 0 rfl
  have m0 := (blk_cell (sl_blk hs1 0 rfl) 0).trans (show _ = some (Value.slice A u.length c) from rfl)
  have b1 : decide ((u.length : Int) < n) = true := decide_eq_true hn
  clear hs hs1 hC hc hn
  go_enter Try.func45, Try.ntmps45
  go_wp2_with (first | (go_at_call 46; refine (fail_in g u er 4 (by repeat (with_reducible first | exact H.out | apply sl_drewN | apply sl_drew | apply sl_alloc))).mono ?_; rintro e w1 ⟨rfl, hs⟩; have HS := Aside0.mk hs; clear hs))
  try rw [Exit.noGoto_ret]
  go_ret
  exact ⟨rfl, HS.out⟩
set_option maxHeartbeats 2000000 in
theorem take_in {w0 w : World} {R : Res} (g : Nat) (u : List Int) (er : Int) (n : Nat) (hs : SL w0 w [rdR g u er, R]) (hn : n ≤ u.length) (hp : 0 < n) : Calls Try.prog 45 #[.pointer (some ⟨g, 0, none⟩), .int .i64 (n : Int)] w fun e w' => ∃ ad, e = .returned (.slice (some ad) n n) ∧ SL w0 w' [rdR g (u.drop n) er, R] ∧ Kd.C (Kd.int .u8) w' (some ad) n (u.take n) := by
  obtain ⟨A, c, hc, hC, hs1⟩ := rd_open hs 0 rfl
  have HS := Aside0.mk (show SL w0 w [cellsR g 68 #[.slice A u.length c, .int .i64 er, .bool true], R, frR8 (.slice A u.length c) u] from hs1)
  obtain ⟨ad, rfl, _⟩ := Kd.at_int hC 0 (Int.le_refl _) (by omega)
  have m0 := (blk_cell (sl_blk HS.out 0 rfl) 0).trans (show _ = some (Value.slice (some ad) u.length c) from rfl)
  have f0 := blk_frozen (sl_blk HS.out 0 rfl) 0
  have hg_ := blk_lt (sl_blk HS.out 0 rfl)
  have b1 : decide ((u.length : Int) < (n : Int)) = false := decide_eq_false (by omega)
  have b1n : decide (u.length < n) = false := decide_eq_false (by omega)
  have q0 : (0 : Int) ≤ (n : Int) := by omega
  have q1 : (n : Int) ≤ (c : Int) := by omega
  have q2 : (n : Int) ≤ (u.length : Int) := by omega
  have q3 : (n = 0) = False := eq_false (by omega)
  have HN := Aside0.mk hn
  have hlt : (u.take n).length = n := by rw [List.length_take]; omega
  have HCt := Aside0.mk (show Kd.C (Kd.int .u8) w (some ad) n (u.take n) by have := Kd.C_take hC hn; rw [hlt] at this; exact this)
  clear hs hs1 hC hc hn hlt
  by_cases hcn : c = n
  · have q4 : (c = n) = True := eq_true hcn
    go_enter Try.func45, Try.ntmps45
    go_wp2
    go_ret
    have hp1 := sl_put HS.out 0 rfl 0 (.slice (some ad) (u.length - n) 0)
    obtain ⟨A1, c1, e1, _, hC1⟩ := sl_readF hp1 2 rfl
    injection e1 with e1
    subst e1
    have hC2 := Kd.C_take hC1 HN.out
    rw [List.length_take, Nat.min_eq_left HN.out] at hC2
    have hp2 := sl_dropF hp1 2 rfl HN.out
    rw [if_pos hcn, hcn, Nat.sub_self] at hp2
    have hp3 := sl_close (A := fun v => cellsR g 68 #[v, .int .i64 er, .bool true]) (B := fun v => frR8 v (u.drop n)) (.slice (some ad) (u.length - n) 0) hp2 0 2 (by decide) rfl rfl
    exact ⟨ad, rfl, sl_pick hp3 [0, 1] (by decide) rfl, hC2⟩
  · have q4 : (c = n) = False := eq_false hcn
    go_enter Try.func45, Try.ntmps45
    go_wp2
    go_ret
    have hp1 := sl_put HS.out 0 rfl 0 (.slice (some (ad.add n)) (u.length - n) (c - n))
    obtain ⟨A1, c1, e1, _, hC1⟩ := sl_readF hp1 2 rfl
    injection e1 with e1
    subst e1
    have hC2 := Kd.C_take hC1 HN.out
    rw [List.length_take, Nat.min_eq_left HN.out] at hC2
    have hp2 := sl_dropF hp1 2 rfl HN.out
    rw [if_neg hcn] at hp2
    have hp3 := sl_close (A := fun v => cellsR g 68 #[v, .int .i64 er, .bool true]) (B := fun v => frR8 v (u.drop n)) (.slice (some (ad.add n)) (u.length - n) (c - n)) hp2 0 2 (by decide) rfl rfl
    exact ⟨ad, rfl, sl_pick hp3 [0, 1] (by decide) rfl, hC2⟩
structure RSt where
  u : List Int
  er : Int
abbrev rdS (g : Nat) (s : RSt) : Res := rdR g s.u s.er
def word4 (a0 a1 a2 a3 : Int) : Int :=
  Go.bits .or .u32 (Go.bits .or .u32 (Go.bits .or .u32 (a0 % 4294967296) (a1 % 4294967296 * 256 % 4294967296)) (a2 % 4294967296 * 65536 % 4294967296)) (a3 % 4294967296 * 16777216 % 4294967296)
/-- What Uint answers, and what it leaves. -/
def uintV (s : RSt) : Int := if s.er = 0 ∧ 4 ≤ s.u.length then word4 (rd s.u 0) (rd s.u 1) (rd s.u 2) (rd s.u 3) else 0
def uintS (s : RSt) : RSt := if s.er = 0 then (if 4 ≤ s.u.length then ⟨s.u.drop 4, 0⟩ else ⟨[], 4⟩) else s
theorem rd_take {u : List Int} {k : Nat} {j : Int} (h0 : 0 ≤ j) (h : j < k) : rd (u.take k) j = rd u j := by
  unfold rd
  rw [List.getD_eq_getElem?_getD, List.getD_eq_getElem?_getD, List.getElem?_take, if_pos (by omega)]
set_option maxHeartbeats 2000000 in
set_option maxRecDepth 100000 in
theorem Uint_in {w0 w : World} {R : Res} (g : Nat) (s : RSt) (hs : SL w0 w [rdS g s, R]) : Calls Try.prog 20 #[.pointer (some ⟨g, 0, none⟩)] w fun e w' => e = .returned (.int .u32 (uintV s)) ∧ SL w0 w' [rdS g (uintS s), R] := by
  obtain ⟨u, er⟩ := s
  have hnil := fun (w : World) (a : Option Addr) (n c : Nat) => Lib.run_eql_slice_nil (P := Try.prog) w 22 5 a n c 0 0 Try.underlying22
  have HS := Aside0.mk hs
  obtain ⟨A, c, hc, hC, hs1⟩ := rd_open hs 0 rfl
  have HBk := Aside0.mk (sl_blk hs1 0 rfl)
  clear hs hs1 hC hc
  by_cases h0 : er = 0
  rotate_left
  · have bz : (er == 0) = false := beq_eq_false_iff_ne.2 h0
    have E := Aside0.mk (show uintV ⟨u, er⟩ = 0 ∧ uintS ⟨u, er⟩ = ⟨u, er⟩ from ⟨if_neg (fun h => h0 h.1), if_neg h0⟩)
    clear h0
    go_enter Try.func20, Try.ntmps20
    go_wp2_with (first
      | (go_at_call 44; refine (usable_c g _ er _ HBk.out).mono ?_; rintro e w1 ⟨rfl, ⟨nd, rfl⟩⟩; replace HS := Aside0.mk (sl_drewN HS.out nd)))
    try rw [Exit.noGoto_ret]
    go_ret
    exact ⟨by rw [E.out.1]; rfl, by rw [E.out.2]; exact HS.out⟩
  subst h0
  by_cases h4 : 4 ≤ u.length
  · have E := Aside0.mk (show uintV ⟨u, 0⟩ = word4 (rd u 0) (rd u 1) (rd u 2) (rd u 3) ∧ uintS ⟨u, 0⟩ = ⟨u.drop 4, 0⟩ from ⟨if_pos ⟨rfl, h4⟩, (if_pos rfl).trans (if_pos h4)⟩)
    have H4 := Aside0.mk h4
    clear h4
    go_enter Try.func20, Try.ntmps20
    go_upto_region 6 with (first
      | (go_at_call 44; refine (usable_c g _ 0 _ HBk.out).mono ?_; rintro e w1 ⟨rfl, ⟨nd, rfl⟩⟩; replace HS := Aside0.mk (sl_drewN HS.out nd))
      | (go_at_call 45; refine (take_in g u 0 4 (by repeat (with_reducible first | exact HS.out | apply sl_drewN | apply sl_drew | apply sl_alloc)) H4.out (by omega)).mono ?_; rintro e w2 ⟨ad, rfl, hs, hC4⟩; obtain ⟨_, e_, hx0⟩ := Kd.at_int hC4 0 (by omega) (by omega); cases e_; obtain ⟨_, e_, hx1⟩ := Kd.at_int hC4 1 (by omega) (by omega); cases e_; obtain ⟨_, e_, hx2⟩ := Kd.at_int hC4 2 (by omega) (by omega); cases e_; obtain ⟨_, e_, hx3⟩ := Kd.at_int hC4 3 (by omega) (by omega); cases e_; rw [rd_take (by omega) (by omega)] at hx0 hx1 hx2 hx3; simp only [Int.reduceToNat] at hx0 hx1 hx2 hx3; have hxz : w2.cell? ad = some (.int .u8 (rd u 0)) := (by rw [show ad.add 0 = ad by simp [Addr.add]] at hx0; exact hx0); have hy1 : w2.cell? ⟨ad.block, ad.off + 1, none⟩ = some (.int .u8 (rd u 1)) := hx1; have hy2 : w2.cell? ⟨ad.block, ad.off + 2, none⟩ = some (.int .u8 (rd u 2)) := hx2; have hy3 : w2.cell? ⟨ad.block, ad.off + 3, none⟩ = some (.int .u8 (rd u 3)) := hx3; clear hx0 hx1 hx2 hx3 hC4; (try simp only [World.size_alloc] at hs); replace HS := Aside0.mk hs; clear hs))
    go_quiet (fail)
    go_wp2
    go_ret
    exact ⟨by rw [E.out.1]; rfl, by rw [E.out.2]; exact (by repeat (with_reducible first | exact HS.out | apply sl_drewN | apply sl_drew | apply sl_alloc))⟩
  · have E := Aside0.mk (show uintV ⟨u, 0⟩ = 0 ∧ uintS ⟨u, 0⟩ = ⟨[], 4⟩ from ⟨if_neg (fun h => h4 h.2), (if_pos rfl).trans (if_neg h4)⟩)
    have H4 := Aside0.mk h4
    clear h4
    go_enter Try.func20, Try.ntmps20
    go_wp2_with (first
      | (go_at_call 44; refine (usable_c g _ 0 _ HBk.out).mono ?_; rintro e w1 ⟨rfl, ⟨nd, rfl⟩⟩; replace HS := Aside0.mk (sl_drewN HS.out nd))
      | (go_at_call 45; refine (take_no g u 0 4 (by repeat (with_reducible first | exact HS.out | apply sl_drewN | apply sl_drew | apply sl_alloc)) (by have := H4.out; omega)).mono ?_; rintro e w2 ⟨rfl, hs⟩; (try simp only [World.size_alloc] at hs); replace HS := Aside0.mk hs; clear hs))
    try rw [Exit.noGoto_ret]
    go_ret
    exact ⟨by rw [E.out.1]; rfl, by rw [E.out.2]; exact (by repeat (with_reducible first | exact HS.out | apply sl_drewN | apply sl_drew | apply sl_alloc))⟩
theorem Uint_sl {w0 w : World} {L : List Res} (h : SL w0 w L) (i : Nat) {g : Nat} {s : RSt} (hi : L[i]? = some (rdS g s)) : Calls Try.prog 20 #[.pointer (some ⟨g, 0, none⟩)] w fun e w' => e = .returned (.int .u32 (uintV s)) ∧ SL w0 w' (L.set i (rdS g (uintS s))) := by
  obtain ⟨S, h1, h2⟩ := sl_lift h hi
  refine (Uint_in g s h1).mono ?_
  rintro e w' ⟨h3, h4⟩
  have := h2 _ _ [] h4
  rw [List.append_nil] at this
  exact ⟨h3, this⟩
theorem Int_sl {w0 w : World} {L : List Res} (h : SL w0 w L) (i : Nat) {g : Nat} {s : RSt} (hi : L[i]? = some (rdS g s)) : Calls Try.prog 22 #[.pointer (some ⟨g, 0, none⟩)] w fun e w' => e = .returned (.int .i32 (wrap32 (uintV s))) ∧ SL w0 w' (L.set i (rdS g (uintS s))) := by
  have H := Aside0.mk h
  have HI := Aside0.mk hi
  clear h hi
  go_enter Try.func22, Try.ntmps22
  go_wp2_with (first | (go_at_call 20; refine (Uint_sl H.out i HI.out).mono ?_; rintro e w1 ⟨rfl, hs⟩; have HS := Aside0.mk hs; clear hs))
  go_ret
  exact ⟨rfl, HS.out⟩
def endE (s : RSt) : Int := if s.er ≠ 0 then s.er else if 0 < s.u.length then 3 else 0
theorem End_sl {w0 w : World} {L : List Res} (h : SL w0 w L) (i : Nat) {g : Nat} {s : RSt} (hi : L[i]? = some (rdS g s)) : Calls Try.prog 31 #[.pointer (some ⟨g, 0, none⟩)] w fun e w' => e = .returned (.int .i64 (endE s)) ∧ w = w' := by
  obtain ⟨u, er⟩ := s
  have H := Aside0.mk h
  have HI := Aside0.mk hi
  obtain ⟨A, c, hc, hC, hs⟩ := rd_open h i hi
  have hil : i < L.length := (List.getElem?_eq_some_iff.1 hi).1
  have hb := sl_blk hs i (g := g) (t := 68) (cs := #[.slice A u.length c, .int .i64 er, .bool true]) (by rw [List.getElem?_append_left (by rw [List.length_set]; exact hil), List.getElem?_set_self hil])
  have m0 := (blk_cell hb 0).trans (show _ = some (Value.slice A u.length c) from rfl)
  clear h hs hb hC hc hi hil
  by_cases h0 : er = 0
  · subst h0
    have bz : ((0 : Int) != 0) = false := rfl
    by_cases h1 : 0 < u.length
    · have E := Aside0.mk (show endE ⟨u, 0⟩ = 3 from (if_neg (by simp)).trans (if_pos h1))
      have b1 : (0 < u.length) = True := eq_true h1
      clear h1
      go_enter Try.func31, Try.ntmps31
      go_wp2_with (first | (go_at_call 29; refine (Err_sl H.out i HI.out).mono ?_; rintro e w1 ⟨rfl, rfl⟩))
      try rw [Exit.noGoto_ret]
      go_ret
      exact ⟨by rw [E.out]; rfl, rfl⟩
    · have E := Aside0.mk (show endE ⟨u, 0⟩ = 0 from (if_neg (by simp)).trans (if_neg h1))
      have b1 : (0 < u.length) = False := eq_false h1
      clear h1
      go_enter Try.func31, Try.ntmps31
      go_wp2_with (first | (go_at_call 29; refine (Err_sl H.out i HI.out).mono ?_; rintro e w1 ⟨rfl, rfl⟩))
      try rw [Exit.noGoto_ret]
      go_ret
      exact ⟨by rw [E.out]; rfl, rfl⟩
  · have bz : (er != 0) = true := bne_iff_ne.2 h0
    have E := Aside0.mk (show endE ⟨u, er⟩ = er from if_pos h0)
    clear h0
    go_enter Try.func31, Try.ntmps31
    go_wp2_with (first | (go_at_call 29; refine (Err_sl H.out i HI.out).mono ?_; rintro e w1 ⟨rfl, rfl⟩))
    try rw [Exit.noGoto_ret]
    go_ret
    exact ⟨by rw [E.out]; rfl, rfl⟩
/-! ### append to a slice without room -/
section
variable {w0 w : World} {L : List Res} {ops : Array Oper} {rest : List Oper} {o : Oper} {a : Act} {Q : Exit → Act → World → Prop}
theorem app_grow (h : SL w0 w L) (xs ys : List Int) (hgd : o.guard = none) (s x : Operand) (ho : o.op = .call { callee := .builtin .append, args := #[s, x], argTypes := #[22, 22] })
    {A B : Option Addr} {m c n : Nat} (hs : a.eval s = .slice A n n) (hx : a.eval x = .slice B m c) (hX : Kd.C (Kd.int .u8) w A n xs) (hy : Kd.C (Kd.int .u8) w B m ys) (hm : 0 < m) (hl : n + m ≤ 140737488355328)
    (hk : ∀ A c w1, SL w0 w1 (L ++ [row8 (.slice A (xs.length + ys.length) c) (xs ++ ys)]) → wpList Try.prog ops Q rest (a.put o.dst (.slice A (xs.length + ys.length) c)) w1) :
    wpList Try.prog ops Q (o :: rest) a w := by
  have hn : xs.length = n := hX.1
  have hmy : ys.length = m := hy.1
  cases A with
  | none =>
    have h0 : n = 0 := by
      rcases Nat.eq_zero_or_pos n with h0 | h0
      · exact h0
      · obtain ⟨ad, e, _⟩ := hX.2.2 h0
        cases e
    subst h0
    obtain rfl : xs = [] := List.eq_nil_of_length_eq_zero hn
    refine app8n h ys hgd s x ho hs hx hy (by omega) (fun A c w1 h1 => ?_)
    have := hk A c w1 (by simpa using h1)
    simpa using this
  | some ad =>
    obtain ⟨i0, hi, hzz⟩ := Option.map_eq_some_iff.1 info5
    simp only [Prod.mk.injEq] at hzz
    obtain ⟨hz0, hz1, hz2⟩ := hzz
    have hcX : ∀ j u, (xs.flatMap enc8)[j]? = some u → w.cell? (ad.add j) = some u := by
      rcases Nat.eq_zero_or_pos n with h0 | h0
      · intro j u hu
        obtain rfl : xs = [] := List.eq_nil_of_length_eq_zero (hn.trans h0)
        simp at hu
      · obtain ⟨ad', e, hc⟩ := flat8.cells hX h0
        injection e with e
        subst e
        exact hc
    obtain ⟨bd, rfl, hcY⟩ := flat8.cells hy hm
    obtain ⟨v1, w1, hr, hown, hg⟩ := run_append_arg_grows (P := Try.prog) (w := w) 22 o.type 5 i0 (.int .u8 0) 1 1 Try.underlying22 hi hz0 hz1 hz2 rfl (by decide) ad n n (xs.flatMap enc8) (by rw [flat8.flat_len, hn]; rfl) hcX bd m c (ys.flatMap enc8) (by rw [flat8.flat_len, hmy]; rfl) hcY (by omega) (by simp only [maxLen]; omega) (by omega)
    have hlr : LR (Kd.int .u8) enc8 5 w1 (fun k => w.heap.size ≤ k ∧ k < w1.heap.size) v1 (xs ++ ys) := by
      refine ⟨fun k hk => ?_, by rw [List.length_append, List.flatMap_append, hn, hmy]; exact l_of_own hown⟩
      rcases hown.2 with ⟨hv, _⟩ | ⟨g, cap, cur, hv, hge, hh, _⟩
      · rw [hv] at hk; simp [Value.ownBlock] at hk
      · rw [hv] at hk
        have : g = k := by simpa [Value.ownBlock] using hk
        subst this
        exact ⟨hge, blk_lt hh⟩
    obtain ⟨A1, c1, hv, _⟩ := hlr.slice
    rw [List.length_append] at hv
    have hS : SL w0 w1 (L ++ [row8 v1 (xs ++ ys)]) := sl_new h ⟨hg.os, hg.tape, hg.output, hg.size, fun k hk => hg.block k hk (by simp)⟩ (F := fun k => w.heap.size ≤ k ∧ k < w1.heap.size) hlr (fun k hk => hk)
    rw [hv] at hS hr
    refine wpList_plain hgd fun K hK => ?_
    unfold Oper.wp execOp
    simp only [ho, resolve, invoke, builtin, Sem.run_bind, Sem.run_pure, Result.andThen_ok, List.map_toArray, List.map_cons, List.map_nil, hs, hx, hr]
    exact hK _ _ (hk _ _ _ hS)
end
def quad (n : Int) : List Int := [n % 256, (n / 256) % 256, (n / 65536) % 256, n / 16777216]
theorem quad_byte {n : Int} (h0 : 0 ≤ n) (h1 : n < 4294967296) : ∀ x ∈ quad n, 0 ≤ x ∧ x < 256 := by
  intro x hx
  simp only [quad, List.mem_cons, List.not_mem_nil, or_false] at hx
  omega
theorem lit_C {w : World} {g : Nat} {xs : List Int} (hb : w.heap[g]? = some (.cells (xs.flatMap enc8).toArray 5 (0, 0))) (hl : xs.length ≤ maxLen) : Kd.C (Kd.int .u8) w (some ⟨g, 0, none⟩) xs.length xs :=
  ((LR.lit flat8 hb hl).reads' flat8).2.2
set_option maxHeartbeats 2000000 in
set_option maxRecDepth 100000 in
theorem PutUint_sl {w0 w : World} {L : List Res} (h : SL w0 w L) (A : Option Addr) (c : Nat) (b : List Int) (n : Int) (hr : Kd.C (Kd.int .u8) w A b.length b) (hc : b.length ≤ c) (h0 : 0 ≤ n) (h1 : n < 4294967296) (hl : b.length ≤ 1000000) :
    Calls Try.prog 37 #[.slice A b.length c, .int .u32 n] w fun e w' => ∃ A' c', e = .returned (.slice A' (b.length + 4) c') ∧ SL w0 w' (L ++ [row8 (.slice A' (b.length + 4) c') (b ++ quad n)]) := by
  have H := Aside0.mk h
  have HR := Aside0.mk hr
  have HL := Aside0.mk hl
  have HS := Aside0.mk (sl_start w)
  have q1 : (b.length : Int) ≤ (c : Int) := by omega
  clear h hr hc hl
  go_enter Try.func37, Try.ntmps37
  go_wp2_with (first | (at_builtin; refine app_grow (by repeat (with_reducible first | exact HS.out | apply sl_drewN | apply sl_drew | apply sl_box | apply sl_alloc)) b (quad n) rfl (.tmp 10) (.tmp 22) rfl rfl rfl (Kd.C_below HR.out (by repeat (with_reducible first | exact Below.refl _ _ | apply below_alloc | apply pw_below_drewN | apply below_drew1))) (by exact lit_C (xs := quad n) (by exact heap_alloc_new _ _) (by simp [quad, maxLen])) (by decide) (by have := HL.out; omega) ?_; intro A1 c1 w1 hs; replace HS := Aside0.mk hs; clear hs))
  go_ret
  exact ⟨A1, c1, rfl, sl_new2 H.out (sl_pick HS.out [1] (by decide) rfl)⟩
theorem PutInt_sl {w0 w : World} {L : List Res} (h : SL w0 w L) (A : Option Addr) (c : Nat) (b : List Int) (n : Int) (hr : Kd.C (Kd.int .u8) w A b.length b) (hc : b.length ≤ c) (h0 : -2147483648 ≤ n) (h1 : n < 2147483648) (hl : b.length ≤ 1000000) :
    Calls Try.prog 36 #[.slice A b.length c, .int .i32 n] w fun e w' => ∃ A' c', e = .returned (.slice A' (b.length + 4) c') ∧ SL w0 w' (L ++ [row8 (.slice A' (b.length + 4) c') (b ++ quad (n % 4294967296))]) := by
  have H := Aside0.mk h
  have HR := Aside0.mk hr
  have HC := Aside0.mk hc
  have HL := Aside0.mk hl
  have HN := Aside0.mk (show 0 ≤ n % 4294967296 ∧ n % 4294967296 < 4294967296 by omega)
  clear h hr hc hl
  go_enter Try.func36, Try.ntmps36
  go_wp2_with (first | (go_at_call 37; refine (PutUint_sl H.out A c b (n % 4294967296) HR.out HC.out HN.out.1 HN.out.2 HL.out).mono ?_; rintro e w1 ⟨A1, c1, rfl, hs⟩; have HS := Aside0.mk hs; clear hs))
  go_ret
  exact ⟨A1, c1, rfl, HS.out⟩
def padN (n : Int) : Int := (4 - n % 4) % 4
theorem padding_calls (n : Nat) (w : World) (hn : n ≤ 1000000) : Calls Try.prog 49 #[.int .i64 (n : Int)] w fun e w' => e = .returned (.int .i64 (padN n)) ∧ w = w' := by
  go_enter Try.func49, Try.ntmps49
  go_wp2
  go_ret
  exact ⟨rfl, rfl⟩
/-! ### Rows that begin at their block's head -/
abbrev rowO (v : Value) (xs : List Int) : Res := rowR (Kd.int .u8) 5 v xs
theorem sl_readO {w0 w : World} {L : List Res} {A : Option Addr} {n c : Nat} {xs : List Int} (h : SL w0 w L) (i : Nat) (hi : L[i]? = some (rowO (.slice A n c) xs)) : n = xs.length ∧ n ≤ c ∧ Kd.C (Kd.int .u8) w A xs.length xs := by
  obtain ⟨F, h1, _, _⟩ := sl_upd h hi
  exact Kd.R_reads' h1
theorem own_grown {w0 w w1 : World} {L : List Res} {v v1 : Value} {xs ys : List Int} (h : SL w0 w L) (i : Nat) (hi : L[i]? = some (rowO v xs)) (hk : ∀ F : Nat → Prop, (Kd.int .u8).R 5 w 0 F v xs → (Kd.int .u8).R 5 w1 0 (fun k => F k ∨ w.heap.size ≤ k) v1 ys) (hg : w.grownBy w1 v.ownBlock) : SL w0 w1 (L.set i (rowO v1 ys)) := by
  obtain ⟨F, h1, h2, h3⟩ := sl_upd h hi
  have h1 : (Kd.int .u8).R 5 w 0 F v xs := h1
  exact h3 w1 _ (fun k => (F k ∨ w.heap.size ≤ k) ∧ k < w1.heap.size) (Kd.R_mono (Kd.R_bound (hk F h1)) (fun k hk => ⟨hk.1, hk.2.2.1⟩)) (fun k hk => hk) ((Chg.refl F w).grown hg (fun k hk => .inl (h1.1 k hk)))
section
variable {w0 w : World} {L : List Res} {ops : Array Oper} {rest : List Oper} {o : Oper} {a : Act} {Q : Exit → Act → World → Prop}
theorem appO (h : SL w0 w L) (i : Nat) (v : Value) (xs ys : List Int) (hgd : o.guard = none) (s x : Operand) (ho : o.op = .call { callee := .builtin .append, args := #[s, x], argTypes := #[22, 22] })
    {B : Option Addr} {m c : Nat} (hs : a.eval s = v) (hx : a.eval x = .slice B m c) (hi : L[i]? = some (rowO v xs)) (hy : Kd.C (Kd.int .u8) w B m ys) (hl : xs.length + m ≤ 140737488355328)
    (hk : ∀ A c w1, SL w0 w1 (L.set i (rowO (.slice A (xs.length + ys.length) c) (xs ++ ys))) → wpList Try.prog ops Q rest (a.put o.dst (.slice A (xs.length + ys.length) c)) w1) :
    wpList Try.prog ops Q (o :: rest) a w := by
  obtain ⟨F, h1, h2, h3⟩ := sl_upd h hi
  have h1 : (Kd.int .u8).R 5 w 0 F v xs := h1
  refine Kd.R_append_rows (Kd.int .u8) (w0 := w) 0 hgd s x 22 5 (.int .u8 0) 1 ho Try.underlying22 info5 rfl (by decide) (by omega) v xs ys B m c (fun k => F k ∨ w.heap.size ≤ k) (fun _ => False) hs hx (Kd.R_mono h1 fun k hk => .inl hk) hy (fun _ _ hk => hk) (fun _ hk => hk.elim) (fun k hk => .inr hk) (Below.refl _ _) (Nat.zero_le _) (by omega) ?_
  intro v1 w1 hr _ hg _
  obtain ⟨A, c1, rfl⟩ := Kd.R_slice hr
  rw [List.length_append] at hr ⊢
  exact hk A c1 w1 (h3 w1 _ (fun k => (F k ∨ w.heap.size ≤ k) ∧ k < w1.heap.size) (Kd.R_mono (Kd.R_bound hr) (fun k hk => ⟨hk.1, hk.2.2.1⟩)) (fun k hk => hk) ((Chg.refl F w).grown hg (fun k hk => .inl (h1.1 k hk))))
/-- append(v, make([]byte, n)...) -/
theorem appO_zeros (h : SL w0 w L) (i : Nat) (v : Value) (xs : List Int) (n : Nat) (hgd : o.guard = none) (s x : Operand) (ho : o.op = .call { callee := .builtin .append, args := #[s, x], argTypes := #[22, 3] })
    (hs : a.eval s = v) (hx : a.eval x = .int .i64 (n : Int)) (hi : L[i]? = some (rowO v xs)) (hl : xs.length + n ≤ 140737488355328)
    (hk : ∀ A c w1, SL w0 w1 (L.set i (rowO (.slice A (xs.length + n) c) (xs ++ List.replicate n 0))) → wpList Try.prog ops Q rest (a.put o.dst (.slice A (xs.length + n) c)) w1) :
    wpList Try.prog ops Q (o :: rest) a w := by
  obtain ⟨F, h1, h2, h3⟩ := sl_upd h hi
  have h1 : (Kd.int .u8).R 5 w 0 F v xs := h1
  refine Kd.R_append_zeros (Kd.int .u8) (w0 := w) 0 hgd s x 22 3 5 (.int .u8 0) 1 ho Try.underlying22 Try.underlying3 info5 rfl (by decide) (by omega) v xs 0 (n : Int) (fun k => F k ∨ w.heap.size ≤ k) hs hx rfl (fun k hk => .inr hk) (Kd.R_mono h1 fun k hk => .inl hk) (by omega) (Below.refl _ _) (Nat.zero_le _) (by rw [Int.toNat_natCast]; omega) ?_
  intro v1 w1 hr _ hg _
  rw [Int.toNat_natCast] at hr
  obtain ⟨A, c1, rfl⟩ := Kd.R_slice hr
  rw [List.length_append, List.length_replicate] at hr ⊢
  exact hk A c1 w1 (h3 w1 _ (fun k => (F k ∨ w.heap.size ≤ k) ∧ k < w1.heap.size) (Kd.R_mono (Kd.R_bound hr) (fun k hk => ⟨hk.1, hk.2.2.1⟩)) (fun k hk => hk) ((Chg.refl F w).grown hg (fun k hk => .inl (h1.1 k hk))))
end
theorem encs_flat : ∀ xs : List Int, encs (Value.int .u8) xs = xs.flatMap enc8
  | [] => rfl
  | x :: xs => by
    have := encs_flat xs
    simp only [encs, List.map_cons, List.flatMap_cons, enc8] at this ⊢
    rw [this]
    rfl
section
variable {w0 w : World} {L : List Res} {ops : Array Oper} {rest : List Oper} {o : Oper} {a : Act} {Q : Exit → Act → World → Prop}
theorem sl_nilO (h : SL w0 w L) : SL w0 w (L ++ [rowO (.slice none 0 0) []]) :=
  sl_new h (Below.refl _ _) (F := fun _ => False) (Kd.R_nil _ _ _ _ _) (fun k hk => hk.elim)
theorem appOn (h : SL w0 w L) (ys : List Int) (hgd : o.guard = none) (s x : Operand) (ho : o.op = .call { callee := .builtin .append, args := #[s, x], argTypes := #[22, 22] })
    {B : Option Addr} {m c : Nat} (hs : a.eval s = .slice none 0 0) (hx : a.eval x = .slice B m c) (hy : Kd.C (Kd.int .u8) w B m ys) (hl : m ≤ 140737488355328)
    (hk : ∀ A c w1, SL w0 w1 (L ++ [rowO (.slice A ys.length c) ys]) → wpList Try.prog ops Q rest (a.put o.dst (.slice A ys.length c)) w1) :
    wpList Try.prog ops Q (o :: rest) a w := by
  refine appO (sl_nilO h) L.length (.slice none 0 0) [] ys hgd s x ho hs hx (by simp) hy (by simpa using hl) (fun A c w1 h1 => ?_)
  have e : (L ++ [rowO (.slice none 0 0) []]).set L.length (rowO (.slice A (([] : List Int).length + ys.length) c) ([] ++ ys)) = L ++ [rowO (.slice A ys.length c) ys] := by
    rw [List.set_append_right _ _ (Nat.le_refl _), Nat.sub_self]
    simp
  rw [e] at h1
  have := hk A c w1 h1
  simpa using this
theorem app_growO (h : SL w0 w L) (xs ys : List Int) (hgd : o.guard = none) (s x : Operand) (ho : o.op = .call { callee := .builtin .append, args := #[s, x], argTypes := #[22, 22] })
    {A B : Option Addr} {m c n : Nat} (hs : a.eval s = .slice A n n) (hx : a.eval x = .slice B m c) (hX : Kd.C (Kd.int .u8) w A n xs) (hy : Kd.C (Kd.int .u8) w B m ys) (hm : 0 < m) (hl : n + m ≤ 140737488355328)
    (hk : ∀ A c w1, SL w0 w1 (L ++ [rowO (.slice A (xs.length + ys.length) c) (xs ++ ys)]) → wpList Try.prog ops Q rest (a.put o.dst (.slice A (xs.length + ys.length) c)) w1) :
    wpList Try.prog ops Q (o :: rest) a w := by
  have hn : xs.length = n := hX.1
  have hmy : ys.length = m := hy.1
  cases A with
  | none =>
    have h0 : n = 0 := by
      rcases Nat.eq_zero_or_pos n with h0 | h0
      · exact h0
      · obtain ⟨ad, e, _⟩ := hX.2.2 h0
        cases e
    subst h0
    obtain rfl : xs = [] := List.eq_nil_of_length_eq_zero hn
    refine appOn h ys hgd s x ho hs hx hy (by omega) (fun A c w1 h1 => ?_)
    have := hk A c w1 (by simpa using h1)
    simpa using this
  | some ad =>
    obtain ⟨i0, hi, hzz⟩ := Option.map_eq_some_iff.1 info5
    simp only [Prod.mk.injEq] at hzz
    obtain ⟨hz0, hz1, hz2⟩ := hzz
    have hcX : ∀ j u, (xs.flatMap enc8)[j]? = some u → w.cell? (ad.add j) = some u := by
      rcases Nat.eq_zero_or_pos n with h0 | h0
      · intro j u hu
        obtain rfl : xs = [] := List.eq_nil_of_length_eq_zero (hn.trans h0)
        simp at hu
      · obtain ⟨ad', e, hc⟩ := flat8.cells hX h0
        injection e with e
        subst e
        exact hc
    obtain ⟨bd, rfl, hcY⟩ := flat8.cells hy hm
    obtain ⟨v1, w1, hr, hown, hg⟩ := run_append_arg_grows (P := Try.prog) (w := w) 22 o.type 5 i0 (.int .u8 0) 1 1 Try.underlying22 hi hz0 hz1 hz2 rfl (by decide) ad n n (xs.flatMap enc8) (by rw [flat8.flat_len, hn]; rfl) hcX bd m c (ys.flatMap enc8) (by rw [flat8.flat_len, hmy]; rfl) hcY (by omega) (by simp only [maxLen]; omega) (by omega)
    have hR : (Kd.int .u8).R 5 w1 w.heap.size (fun _ => True) v1 (xs ++ ys) := by
      refine Kd.R_of_own ?_ (fun _ _ => trivial)
      rw [encs_flat, List.length_append, List.flatMap_append, hn, hmy]
      exact hown
    obtain ⟨A1, c1, hv⟩ := Kd.R_slice hR
    rw [List.length_append] at hv
    have hS : SL w0 w1 (L ++ [rowO v1 (xs ++ ys)]) := sl_new h ⟨hg.os, hg.tape, hg.output, hg.size, fun k hk => hg.block k hk (by simp)⟩ (F := fun k => w.heap.size ≤ k ∧ k < w1.heap.size) (Kd.R_lower (Kd.R_mono (Kd.R_bound hR) (fun k hk => ⟨hk.2.1, hk.2.2.1⟩)) (Nat.zero_le _)) (fun k hk => hk)
    rw [hv] at hS hr
    refine wpList_plain hgd fun K hK => ?_
    unfold Oper.wp execOp
    simp only [ho, resolve, invoke, builtin, Sem.run_bind, Sem.run_pure, Result.andThen_ok, List.map_toArray, List.map_cons, List.map_nil, hs, hx, hr]
    exact hK _ _ (hk _ _ _ hS)
end
set_option maxHeartbeats 2000000 in
set_option maxRecDepth 100000 in
theorem PutUintO {w0 w : World} {L : List Res} (h : SL w0 w L) (A : Option Addr) (c : Nat) (b : List Int) (n : Int) (hr : Kd.C (Kd.int .u8) w A b.length b) (hc : b.length ≤ c) (h0 : 0 ≤ n) (h1 : n < 4294967296) (hl : b.length ≤ 1000000) :
    Calls Try.prog 37 #[.slice A b.length c, .int .u32 n] w fun e w' => ∃ A' c', e = .returned (.slice A' (b.length + 4) c') ∧ SL w0 w' (L ++ [rowO (.slice A' (b.length + 4) c') (b ++ quad n)]) := by
  have H := Aside0.mk h
  have HR := Aside0.mk hr
  have HL := Aside0.mk hl
  have HS := Aside0.mk (sl_start w)
  have q1 : (b.length : Int) ≤ (c : Int) := by omega
  clear h hr hc hl
  go_enter Try.func37, Try.ntmps37
  go_wp2_with (first | (at_builtin; refine app_growO (by repeat (with_reducible first | exact HS.out | apply sl_drewN | apply sl_drew | apply sl_box | apply sl_alloc)) b (quad n) rfl (.tmp 10) (.tmp 22) rfl rfl rfl (Kd.C_below HR.out (by repeat (with_reducible first | exact Below.refl _ _ | apply below_alloc | apply pw_below_drewN | apply below_drew1))) (by exact lit_C (xs := quad n) (by exact heap_alloc_new _ _) (by simp [quad, maxLen])) (by decide) (by have := HL.out; omega) ?_; intro A1 c1 w1 hs; replace HS := Aside0.mk hs; clear hs))
  go_ret
  exact ⟨A1, c1, rfl, sl_new2 H.out (sl_pick HS.out [1] (by decide) rfl)⟩
theorem padN_range (n : Nat) : ∃ k : Nat, padN n = (k : Int) ∧ k ≤ 3 := ⟨(padN n).toNat, by unfold padN; omega, by unfold padN; omega⟩
def padL (n : Nat) : List Int := List.replicate (padN n).toNat 0
set_option maxHeartbeats 2000000 in
set_option maxRecDepth 100000 in
theorem PutArray_sl {w0 w : World} {L : List Res} (h : SL w0 w L) (A B : Option Addr) (c e : Nat) (b x : List Int) (hr : Kd.C (Kd.int .u8) w A b.length b) (hc : b.length ≤ c) (hx : Kd.C (Kd.int .u8) w B x.length x) (hl : b.length ≤ 1000000) (hlx : x.length ≤ 1000000) :
    Calls Try.prog 38 #[.slice A b.length c, .slice B x.length e] w fun e w' => ∃ A' c', e = .returned (.slice A' (b.length + 4 + x.length + (padN x.length).toNat) c') ∧ SL w0 w' (L ++ [rowO (.slice A' (b.length + 4 + x.length + (padN x.length).toNat) c') (b ++ quad x.length ++ x ++ padL x.length)]) := by
  have H := Aside0.mk h
  have HR := Aside0.mk hr
  have HX := Aside0.mk hx
  have HC := Aside0.mk hc
  have HL := Aside0.mk (And.intro hl hlx)
  have HS := Aside0.mk (sl_start w)
  obtain ⟨k, hk, hk3⟩ := padN_range x.length
  have HK := Aside0.mk hk
  have hm : (x.length : Int) % 4294967296 = (x.length : Int) := by omega
  have HPL := Aside0.mk (show padL x.length = List.replicate k 0 ∧ (padN x.length).toNat = k by unfold padL; rw [hk]; exact ⟨rfl, rfl⟩)
  have hql : (b ++ quad (x.length : Int)).length = b.length + 4 := by simp [quad]
  have HQL := Aside0.mk hql
  have hql2 : (b ++ quad (x.length : Int) ++ x).length = b.length + 4 + x.length := by rw [List.length_append, hql]
  have HQL2 := Aside0.mk hql2
  rw [HPL.out.1, HPL.out.2]
  clear h hr hx hc hk hql hql2
  go_enter Try.func38, Try.ntmps38
  go_wp2_with (first
    | (go_at_call 37; refine (PutUintO (by repeat (with_reducible first | exact HS.out | apply sl_drewN | apply sl_drew | apply sl_alloc)) A c b (x.length : Int) HR.out HC.out (by omega) (by omega) HL.out.1).mono ?_; rintro e w1 ⟨A1, c1, rfl, hs⟩; replace HS := Aside0.mk hs; clear hs)
    | (at_builtin; refine appO (by repeat (with_reducible first | exact HS.out | apply sl_drewN | apply sl_drew | apply sl_alloc)) 0 (.slice A1 (b.length + 4) c1) (b ++ quad (x.length : Int)) x rfl (.tmp 9) (.tmp 10) rfl rfl rfl (by rfl) (Kd.C_below HX.out (sl_below0 (by repeat (with_reducible first | exact HS.out | apply sl_drewN | apply sl_drew | apply sl_alloc)))) (by have := HQL.out; have := HL.out; omega) ?_; rw [HQL.out]; intro A2 c2 w2 hs; replace HS := Aside0.mk hs; clear hs)
    | (go_at_call 49; refine (padding_calls x.length _ HL.out.2).mono ?_; rw [HK.out]; rintro e w3 ⟨rfl, rfl⟩)
    | (at_builtin; refine appO_zeros (by repeat (with_reducible first | exact HS.out | apply sl_drewN | apply sl_drew | apply sl_alloc)) 0 (.slice A2 (b.length + 4 + x.length) c2) (b ++ quad (x.length : Int) ++ x) k rfl (.tmp 12) (.tmp 15) rfl rfl rfl (by rfl) (by have := HQL2.out; have := HL.out; omega) ?_; rw [HQL2.out]; intro A3 c3 w3 hs; replace HS := Aside0.mk hs; clear hs))
  go_ret
  exact ⟨A3, c3, rfl, sl_new2 H.out HS.out⟩
/-- A string's bytes. -/
def bytesL (s : ByteArray) : List Int := s.data.toList.map (fun b => (b.toNat : Int))
theorem bytesL_len (s : ByteArray) : (bytesL s).length = s.size := by unfold bytesL; rw [List.length_map, Array.length_toList]; rfl
theorem str_C (w : World) (s : ByteArray) (cap : Nat) (fr : Nat × Nat) (hs : s.size ≤ 1000000) : Kd.C (Kd.int .u8) (w.alloc (.cells (bytesRow s cap) 5 fr)) (some ⟨w.heap.size, 0, none⟩) (bytesL s).length (bytesL s) := by
  refine ⟨rfl, by rw [bytesL_len]; omega, fun _ => ⟨_, rfl, fun j p hj => ⟨[.int .u8 p], rfl, rfl, fun i u hu => ?_⟩⟩⟩
  have hi : i = 0 := by
    have h_ := (List.getElem?_eq_some_iff.1 hu).1
    exact Nat.lt_one_iff.1 h_
  subst hi
  have hu : Value.int .u8 p = u := Option.some.inj hu
  subst hu
  refine World.news_of_block (cs := bytesRow s cap) (t := 5) (fr := fr) (heap_alloc_new _ _) (j * (Kd.int .u8).sz + 0) _ ?_
  have e : j * (Kd.int .u8).sz + 0 = j := Nat.mul_one j
  rw [e]
  have hl := (List.getElem?_eq_some_iff.1 hj).1
  rw [bytesL_len] at hl
  unfold bytesRow
  rw [Array.toList_append, List.getElem?_append_left (by rw [Array.length_toList, Array.size_map]; exact hl), Array.toList_map]
  unfold bytesL at hj
  rw [List.getElem?_map] at hj ⊢
  obtain ⟨q, hq, rfl⟩ := Option.map_eq_some_iff.1 hj
  rw [hq]
  rfl
theorem PutArray_len {w0 w : World} {L : List Res} (h : SL w0 w L) (A B : Option Addr) (c e m : Nat) (b x : List Int) (hm : x.length = m) (hr : Kd.C (Kd.int .u8) w A b.length b) (hc : b.length ≤ c) (hx : Kd.C (Kd.int .u8) w B x.length x) (hl : b.length ≤ 1000000) (hlx : m ≤ 1000000) :
    Calls Try.prog 38 #[.slice A b.length c, .slice B m e] w fun e w' => ∃ A' c', e = .returned (.slice A' (b.length + 4 + m + (padN m).toNat) c') ∧ SL w0 w' (L ++ [rowO (.slice A' (b.length + 4 + m + (padN m).toNat) c') (b ++ quad m ++ x ++ padL m)]) := by
  subst hm
  exact PutArray_sl h A B c e b x hr hc hx hl hlx
set_option maxHeartbeats 2000000 in
set_option maxRecDepth 100000 in
theorem PutString_sl {w0 w : World} {L : List Res} (h : SL w0 w L) (A : Option Addr) (c : Nat) (b : List Int) (s : ByteArray) (hr : Kd.C (Kd.int .u8) w A b.length b) (hc : b.length ≤ c) (hl : b.length ≤ 1000000) (hls : s.size ≤ 1000000) :
    Calls Try.prog 35 #[.slice A b.length c, .string s] w fun e w' => ∃ A' c', e = .returned (.slice A' (b.length + 4 + s.size + (padN s.size).toNat) c') ∧ SL w0 w' (L ++ [rowO (.slice A' (b.length + 4 + s.size + (padN s.size).toNat) c') (b ++ quad s.size ++ bytesL s ++ padL s.size)]) := by
  have H := Aside0.mk h
  have HR := Aside0.mk hr
  have HC := Aside0.mk hc
  have HL := Aside0.mk (And.intro hl hls)
  have HBl := Aside0.mk (bytesL_len s)
  have hconv := fun (w : World) => run_bytes_of_string (P := Try.prog) w 9 22 5 s Try.underlying9 Try.underlying22 Try.underlying5
  clear h hr hc hl hls
  go_enter Try.func35, Try.ntmps35
  have HS := Aside0.mk (sl_start w)
  go_wp2_with (first | (go_at_call 38; refine (PutArray_len (by repeat (with_reducible first | exact HS.out | apply sl_drewN | apply sl_drew | apply sl_alloc)) A _ c _ s.size b (bytesL s) HBl.out (Kd.C_below HR.out (by repeat (with_reducible first | exact Below.refl _ _ | apply below_alloc | apply pw_below_drewN | apply below_drew1))) HC.out (by exact str_C w.drew s _ _ HL.out.2) HL.out.1 HL.out.2).mono ?_; rintro e w1 ⟨A1, c1, rfl, hs⟩; replace HS := Aside0.mk hs; clear hs))
  go_ret
  exact ⟨A1, c1, rfl, sl_new2 H.out HS.out⟩
/-! ### What is no reader -/
def zrd : Array Value := #[.slice none 0 0, .int .i64 0, .bool false]
theorem zero_ready (g : Nat) (w : World) (hb : w.heap[g]? = some (.cells #[.slice none 0 0, .int .i64 0, .bool false] 68 (0, 0))) : Calls Try.prog 50 #[.pointer (some ⟨g, 0, none⟩)] w fun e w' => e = .returned (.bool false) ∧ Drawn0 w w' := by
  have m2 := (blk_cell hb 2).trans (show _ = some (Value.bool false) from rfl)
  clear hb
  go_enter Try.func50, Try.ntmps50
  go_wp2
  go_ret
  exact ⟨rfl, by repeat (first | exact Drawn0.refl _ | apply Drawn0.step)⟩
theorem no_usable (w : World) : Calls Try.prog 44 #[.pointer none] w fun e w' => e = .returned (.bool false) ∧ Drawn0 w w' := by
  go_enter Try.func44, Try.ntmps44
  go_wp2
  go_ret
  exact ⟨rfl, by repeat (first | exact Drawn0.refl _ | apply Drawn0.step)⟩
theorem zero_usable (g : Nat) (w : World) (hb : w.heap[g]? = some (.cells #[.slice none 0 0, .int .i64 0, .bool false] 68 (0, 0))) : Calls Try.prog 44 #[.pointer (some ⟨g, 0, none⟩)] w fun e w' => e = .returned (.bool false) ∧ Drawn0 w w' := by
  have HB := Aside0.mk hb
  clear hb
  go_enter Try.func44, Try.ntmps44
  go_wp2_with (first | (go_at_call 50; refine (zero_ready g _ HB.out).mono ?_; rintro e w1 ⟨rfl, ⟨nd, rfl⟩⟩))
  go_ret
  exact ⟨rfl, ⟨nd, rfl⟩⟩
/-- nil, or a reader that From did not make. -/
def NoRd (v : Value) (w : World) : Prop := v = .pointer none ∨ ∃ g, v = .pointer (some ⟨g, 0, none⟩) ∧ w.heap[g]? = some (.cells #[.slice none 0 0, .int .i64 0, .bool false] 68 (0, 0))
theorem nr_usable (v : Value) (w : World) (h : NoRd v w) : Calls Try.prog 44 #[v] w fun e w' => e = .returned (.bool false) ∧ Drawn0 w w' := by
  rcases h with rfl | ⟨g, rfl, hb⟩
  · exact no_usable w
  · exact zero_usable g w hb
theorem nr_Uint (v : Value) (w : World) (h : NoRd v w) : Calls Try.prog 20 #[v] w fun e w' => e = .returned (.int .u32 0) ∧ Drawn0 w w' := by
  have H := Aside0.mk h
  clear h
  go_enter Try.func20, Try.ntmps20
  go_wp2_with (first | (go_at_call 44; refine (nr_usable v _ H.out).mono ?_; rintro e w1 ⟨rfl, ⟨nd, rfl⟩⟩))
  try rw [Exit.noGoto_ret]
  go_ret
  exact ⟨rfl, ⟨nd, rfl⟩⟩
theorem nr_Left (v : Value) (w : World) (h : NoRd v w) : Calls Try.prog 27 #[v] w fun e w' => e = .returned (.int .i64 0) ∧ Drawn0 w w' := by
  have H := Aside0.mk h
  clear h
  go_enter Try.func27, Try.ntmps27
  go_wp2_with (first | (go_at_call 44; refine (nr_usable v _ H.out).mono ?_; rintro e w1 ⟨rfl, ⟨nd, rfl⟩⟩))
  try rw [Exit.noGoto_ret]
  go_ret
  exact ⟨rfl, ⟨nd, rfl⟩⟩
theorem nr_drawn {v : Value} {w : World} (h : NoRd v w) (n : Nat) : NoRd v (w.drewN n) := by
  rcases h with rfl | ⟨g, rfl, hb⟩
  · exact .inl rfl
  · exact .inr ⟨g, rfl, blk_drewN hb n⟩
theorem nr_Err (v : Value) (w : World) (h : NoRd v w) : Calls Try.prog 29 #[v] w fun e w' => e = .returned (.int .i64 1) ∧ w = w' := by
  rcases h with rfl | ⟨g, rfl, hb⟩
  · go_enter Try.func29, Try.ntmps29
    go_wp2
    try rw [Exit.noGoto_ret]
    go_ret
    exact ⟨rfl, rfl⟩
  · have m2 := (blk_cell hb 2).trans (show _ = some (Value.bool false) from rfl)
    clear hb
    go_enter Try.func29, Try.ntmps29
    go_wp2
    try rw [Exit.noGoto_ret]
    go_ret
    exact ⟨rfl, rfl⟩
theorem nr_End (v : Value) (w : World) (h : NoRd v w) : Calls Try.prog 31 #[v] w fun e w' => e = .returned (.int .i64 1) ∧ w = w' := by
  have H := Aside0.mk h
  clear h
  go_enter Try.func31, Try.ntmps31
  go_wp2_with (first | (go_at_call 29; refine (nr_Err v _ H.out).mono ?_; rintro e w1 ⟨rfl, rfl⟩))
  try rw [Exit.noGoto_ret]
  go_ret
  exact ⟨rfl, rfl⟩
theorem nr_Int (v : Value) (w : World) (h : NoRd v w) : Calls Try.prog 22 #[v] w fun e w' => e = .returned (.int .i32 0) ∧ Drawn0 w w' := by
  have H := Aside0.mk h
  clear h
  go_enter Try.func22, Try.ntmps22
  go_wp2_with (first | (go_at_call 20; refine (nr_Uint v _ H.out).mono ?_; rintro e w1 ⟨rfl, ⟨nd, rfl⟩⟩))
  go_ret
  exact ⟨rfl, ⟨nd, rfl⟩⟩
theorem nr_Array (v : Value) (m : Int) (w : World) (h : NoRd v w) : Calls Try.prog 26 #[v, .int .i64 m] w fun e w' => e = .returned (.slice none 0 0) ∧ Drawn0 w w' := by
  have H := Aside0.mk h
  clear h
  go_enter Try.func26, Try.ntmps26
  go_wp2_with (first
    | (go_at_call 20; refine (nr_Uint v _ H.out).mono ?_; rintro e w1 ⟨rfl, ⟨nd, rfl⟩⟩; have H2 := Aside0.mk (nr_drawn H.out nd))
    | (go_at_call 44; refine (nr_usable v _ H2.out).mono ?_; rintro e w1 ⟨rfl, ⟨nd2, rfl⟩⟩))
  try rw [Exit.noGoto_ret]
  go_ret
  exact ⟨rfl, by first | exact ⟨_, by rw [World.drewN_drewN]⟩ | exact ⟨_, rfl⟩⟩
theorem nr_String (v : Value) (m : Int) (w : World) (h : NoRd v w) : Calls Try.prog 24 #[v, .int .i64 m] w fun e w' => e = .returned (.string ByteArray.empty) ∧ Drawn0 w w' := by
  have H := Aside0.mk h
  clear h
  have hcv := fun (w : World) (l c : Nat) => run_convert_bytes_nil (P := Try.prog) (w := w) 22 5 Try.underlying22 Try.underlying5 l c
  go_enter Try.func24, Try.ntmps24
  go_wp2_with (first
    | (go_at_call 26; refine (nr_Array v m _ H.out).mono ?_; rintro e w1 ⟨rfl, ⟨nd, rfl⟩⟩))
  go_loopg [13] 0 (fun kq v13 wr => v13 = .int .i64 0 ∧ Aside0 (∃ n, wr = w.drewN n))
  case atStart => exact ⟨rfl, ⟨⟨_, rfl⟩⟩⟩
  case round =>
    obtain ⟨rfl, HW⟩ := hrel
    have b1 : decide ((0 : Int) < 0) = false := rfl
    go_wp2
    go_ret
    obtain ⟨n, rfl⟩ := HW.out
    exact ⟨rfl, ⟨n, rfl⟩⟩
theorem PutIntO {w0 w : World} {L : List Res} (h : SL w0 w L) (A : Option Addr) (c : Nat) (b : List Int) (n : Int) (hr : Kd.C (Kd.int .u8) w A b.length b) (hc : b.length ≤ c) (h0 : -2147483648 ≤ n) (h1 : n < 2147483648) (hl : b.length ≤ 1000000) :
    Calls Try.prog 36 #[.slice A b.length c, .int .i32 n] w fun e w' => ∃ A' c', e = .returned (.slice A' (b.length + 4) c') ∧ SL w0 w' (L ++ [rowO (.slice A' (b.length + 4) c') (b ++ quad (n % 4294967296))]) := by
  have H := Aside0.mk h
  have HR := Aside0.mk hr
  have HC := Aside0.mk hc
  have HL := Aside0.mk hl
  have HN := Aside0.mk (show 0 ≤ n % 4294967296 ∧ n % 4294967296 < 4294967296 by omega)
  clear h hr hc hl
  go_enter Try.func36, Try.ntmps36
  go_wp2_with (first | (go_at_call 37; refine (PutUintO H.out A c b (n % 4294967296) HR.out HC.out HN.out.1 HN.out.2 HL.out).mono ?_; rintro e w1 ⟨A1, c1, rfl, hs⟩; have HS := Aside0.mk hs; clear hs))
  go_ret
  exact ⟨A1, c1, rfl, HS.out⟩
/-- No byte is taken: the answer is some empty slice. -/
theorem take_zero {w0 w : World} {R : Res} (g : Nat) (u : List Int) (er : Int) (hs : SL w0 w [rdR g u er, R]) : Calls Try.prog 45 #[.pointer (some ⟨g, 0, none⟩), .int .i64 0] w fun e w' => ∃ A, e = .returned (.slice A 0 0) ∧ SL w0 w' [rdR g u er, R] := by
  obtain ⟨A, c, hc, hC, hs1⟩ := rd_open hs 0 rfl
  have HS := Aside0.mk (show SL w0 w [cellsR g 68 #[.slice A u.length c, .int .i64 er, .bool true], R, frR8 (.slice A u.length c) u] from hs1)
  have m0 := (blk_cell (sl_blk HS.out 0 rfl) 0).trans (show _ = some (Value.slice A u.length c) from rfl)
  have f0 := blk_frozen (sl_blk HS.out 0 rfl) 0
  have hg_ := blk_lt (sl_blk HS.out 0 rfl)
  have b1 : decide ((u.length : Int) < 0) = false := decide_eq_false (by omega)
  clear hs hs1 hC hc
  go_enter Try.func45, Try.ntmps45
  go_wp2
  go_ret
  refine ⟨A, rfl, ?_⟩
  have h1 := sl_put HS.out 0 rfl 0 (.slice A u.length c)
  have h2 := sl_close (A := fun v => cellsR g 68 #[v, .int .i64 er, .bool true]) (B := fun v => frR8 v u) (.slice A u.length c) h1 0 2 (by decide) rfl rfl
  exact sl_pick h2 [0, 1] (by decide) rfl
end Go.Proofs.Ytmihibikhmldgaa.Q
