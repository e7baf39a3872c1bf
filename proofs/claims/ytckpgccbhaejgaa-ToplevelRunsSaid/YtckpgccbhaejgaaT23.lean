import Derived.Test.YtckpgccbhaejgaaT12
import Derived.Laws.StandIn
namespace Go.Proofs.Ytckpgccbhaejgaa.Q
open Go.RowKit Go.Proofs.YtckpgccbhaejgaaW.PrintWords Go.Proofs.YtckpgccbhaejgaaW.PrintLast Go.Proofs.YtckpgccbhaejgaaW.PrintMore Go.Proofs.Ytckpgccbhaejgaa.Sl Go.Proofs.Ytckpgccbhaejgaa.Hand 
attribute [local go_sem] max2_int min2_int max_two min_two max_three min_three max_four min_four 
set_option linter.unusedVariables false
set_option linter.unusedSimpArgs false

section
variable {w0 w : World} {R : Res}
theorem call_in (g : Nat) (s : WSt) (x : S46) (hs : SL w0 w [winR g s, R]) : Calls Try.prog 16 #[.pointer (some ⟨g, 0, none⟩), ag46 x] w fun e w' => e = .returned (.agg #[.int .i64 (opA s x), .int .i64 (opB s x), .int .i64 (opC s x), .int .i64 (opE s x)]) ∧ SL w0 w' [winR g (opS s x), R] := by
  unfold opA opB opC opE opS
  by_cases h0 : x.f0 = 0
  · rw [if_neg (show ¬ x.f0 = 2 by omega), if_neg (show ¬ x.f0 = 3 by omega), if_neg (show ¬ x.f0 = 2 by omega), if_neg (show ¬ x.f0 = 3 by omega), if_neg (show ¬ x.f0 = 2 by omega), if_pos h0, if_pos h0]
    exact call_0 g s x h0 hs
  rw [if_neg h0, if_neg h0]
  by_cases h1 : x.f0 = 1
  · rw [if_neg (show ¬ x.f0 = 2 by omega), if_neg (show ¬ x.f0 = 3 by omega), if_neg (show ¬ x.f0 = 2 by omega), if_neg (show ¬ x.f0 = 3 by omega), if_neg (show ¬ x.f0 = 2 by omega), if_pos h1, if_pos h1]
    exact call_1 g s x h0 h1 hs
  rw [if_neg h1, if_neg h1]
  by_cases h2 : x.f0 = 2
  · rw [if_pos h2, if_pos h2, if_pos h2, if_pos h2, if_pos h2]
    exact call_2 g s x h0 h1 h2 hs
  rw [if_neg h2, if_neg h2, if_neg h2, if_neg h2, if_neg h2]
  by_cases h3 : x.f0 = 3
  · rw [if_pos h3, if_pos h3, if_pos h3, if_pos h3]
    exact call_3 g s x h0 h1 h2 h3 hs
  rw [if_neg h3, if_neg h3, if_neg h3, if_neg h3]
  by_cases h4 : x.f0 = 4
  · rw [if_pos h4, if_pos h4]
    exact call_4 g s x h0 h1 h2 h3 h4 hs
  rw [if_neg h4, if_neg h4]
  exact call_5 g s x h0 h1 h2 h3 h4 hs
end
section
variable {w0 w : World} {L : List Res} {g : Nat} {s s' : WSt}
theorem call_eq (h : SL w0 w L) (i : Nat) (x : S46) {A B C E : Int} (hA : opA s x = A) (hB : opB s x = B) (hC : opC s x = C) (hE : opE s x = E) (hS : opS s x = s') (hi : L[i]? = some (winR g s)) : Calls Try.prog 16 #[.pointer (some ⟨g, 0, none⟩), ag46 x] w fun e w' => e = .returned (.agg #[.int .i64 A, .int .i64 B, .int .i64 C, .int .i64 E]) ∧ SL w0 w' (L.set i (winR g s')) := by
  subst hA; subst hB; subst hC; subst hE; subst hS
  exact lift1 h i hi fun h => call_in g s x h
end
def At46 (w : World) (p : Addr) (x : S46) : Prop := w.cell? (p) = some (.int .i64 x.f0) ∧ w.cell? ⟨(p).block, (p).off + 1, none⟩ = some (.int .i64 x.f1) ∧ w.cell? ⟨(p).block, (p).off + 2, none⟩ = some (.int .i64 x.f2) ∧ w.cell? ⟨(p).block, (p).off + 3, none⟩ = some (.int .i64 x.f3) ∧ w.cell? ⟨(p).block, (p).off + 4, none⟩ = some (.bool x.f4) ∧ w.cell? ⟨(p).block, (p).off + 5, none⟩ = some (.int .i64 x.f5.f0) ∧ w.cell? ⟨(p).block, (p).off + 6, none⟩ = some (.int .i64 x.f5.f1) ∧ w.cell? ⟨(p).block, (p).off + 7, none⟩ = some (.int .i64 x.f5.f2) ∧ w.cell? ⟨(p).block, (p).off + 8, none⟩ = some (.int .i64 x.f5.f3) ∧ w.cell? ⟨(p).block, (p).off + 9, none⟩ = some (.string x.f6)
theorem rd46 {l : List S46} {i : Nat} (h : i < l.length) : rd_T46 l (i : Int) = l[i] := by
  unfold rd_T46
  rw [Int.toNat_natCast, List.getD_eq_getElem?_getD, List.getElem?_eq_getElem h]
  rfl
theorem atO {w : World} {A : Option Addr} {l : List S46} (hr : Kd.C k46 w A l.length l) (i : Nat) (hi : i < l.length) : ∃ ad, A = some ad ∧ ∀ w', Below w.heap.size w w' → At46 w' (ad.add (i * 10)) l[i] := by
  obtain ⟨ad, rfl, _⟩ := at_T46 hr (i : Int) (by omega) (by omega)
  refine ⟨ad, rfl, fun w' hb => ?_⟩
  obtain ⟨ad2, e, r⟩ := at_T46 (Kd.C_below hr hb) (i : Int) (by omega) (by omega)
  injection e with e
  subst e
  rw [rd46 hi, Int.toNat_natCast] at r
  exact r
/-! ### Is a list light -/
def lightB (l : List S46) : Bool := decide (l.length ≤ 40) && l.all (fun x => decide (x.f6.size ≤ 1100))
theorem light_l0 (l : List S46) (hl : l.length ≤ 40) : ∀ (k i : Nat), i ≤ l.length → l.length - i < k → compositorlaw22_light.l0 k l (i : Int) = some ((l.drop i).all (fun x => decide (x.f6.size ≤ 1100)))
  | 0, i, hi, hk => by omega
  | k + 1, i, hi, hk => by
    unfold compositorlaw22_light.l0
    by_cases h : i < l.length
    · rw [if_pos (show (i : Int) < (l.length : Int) by omega), if_pos (show (0 : Int) ≤ (i : Int) by omega), rd46 h, List.drop_eq_getElem_cons h, List.all_cons]
      by_cases h2 : l[i].f6.size ≤ 1100
      · rw [if_neg (show ¬ (l[i].f6.size : Int) > 1100 by omega), decide_eq_true h2, Bool.true_and]
        have : wrap64 ((i : Int) + 1) = ((i + 1 : Nat) : Int) := by unfold wrap64; omega
        rw [this]
        exact light_l0 l hl k (i + 1) (by omega) (by omega)
      · rw [if_pos (show (l[i].f6.size : Int) > 1100 by omega), decide_eq_false h2, Bool.false_and]
    · rw [if_neg (show ¬ (i : Int) < (l.length : Int) by omega), List.drop_eq_nil_of_le (by omega)]
      rfl
theorem light_f (l : List S46) : compositorlaw22_light.f 42 l = some (lightB l) := by
  unfold compositorlaw22_light.f lightB
  by_cases h : l.length ≤ 40
  · rw [if_neg (show ¬ (l.length : Int) > 40 by omega), decide_eq_true h, Bool.true_and]
    exact light_l0 l h 42 0 (by omega) (by omega)
  · rw [if_pos (show (l.length : Int) > 40 by omega), decide_eq_false h, Bool.false_and]
theorem light_c {w0 w : World} {L : List Res} (h : SL w0 w L) {A : Option Addr} {c : Nat} {l : List S46} (hr : Kd.C k46 w A l.length l) (hc : l.length ≤ c) {b : Bool} (hb : lightB l = b) : Calls Try.prog 13 #[.slice A l.length c] w fun e w' => e = .returned (.bool b) ∧ SL w0 w' L := by
  subst hb
  refine (compositorlaw22_light.calls 42 A c l _ w hr hc (light_f l)).mono ?_
  rintro e w' ⟨rfl, n, rfl⟩
  exact ⟨rfl, sl_drewN h n⟩
end Go.Proofs.Ytckpgccbhaejgaa.Q

namespace Go.Proofs.Ytckpgccbhaejgaa.Q
open Go.RowKit Go.Proofs.YtckpgccbhaejgaaW.PrintWords Go.Proofs.YtckpgccbhaejgaaW.PrintLast Go.Proofs.YtckpgccbhaejgaaW.PrintMore Go.Proofs.Ytckpgccbhaejgaa.Sl Go.Proofs.Ytckpgccbhaejgaa.Hand 
attribute [local go_sem] max2_int min2_int max_two min_two max_three min_three max_four min_four 
set_option linter.unusedVariables false
set_option linter.unusedSimpArgs false

/-! ### Windows that New did not make -/
def NoUse (p : Value) (A : Res) : Prop := ∀ {w0 w : World} {L : List Res}, SL w0 w L → ∀ i : Nat, L[i]? = some A → Calls Try.prog 25 #[p] w fun e w' => e = .returned (.bool false) ∧ SL w0 w' L
abbrev zeroR (g : Nat) : Res := cellsR g 55 #[.bool false, .map none, .int .i64 0, .int .i64 0, .int .i64 0, .int .i64 0, .int .i64 0, .int .i64 0, .int .i64 0, .int .i64 0, .int .i64 0, .int .i64 0]
section
variable {w0 w : World} {L : List Res} {p : Value} {A : Res}
end
section
variable {w0 w : World} {R A : Res} {p : Value}
end
end Go.Proofs.Ytckpgccbhaejgaa.Q

namespace Go.Proofs.Ytckpgccbhaejgaa.Q
open Go.RowKit Go.Proofs.YtckpgccbhaejgaaW.PrintWords Go.Proofs.YtckpgccbhaejgaaW.PrintLast Go.Proofs.YtckpgccbhaejgaaW.PrintMore Go.Proofs.Ytckpgccbhaejgaa.Sl Go.Proofs.Ytckpgccbhaejgaa.Hand 
attribute [local go_sem] max2_int min2_int max_two min_two max_three min_three max_four min_four 
set_option linter.unusedVariables false
set_option linter.unusedSimpArgs false

/-! ### One call, said plainly -/
structure SF (s : WSt) (x : S46) (S : WSt) (C E : Int) : Prop where
  bits : ¬ (E = 0 ∧ x.f0 = 2) → S.b = s.b
  kind : E = 0 → x.f0 = 2 → x.f1 = 1 ∨ x.f1 = 2 ∨ x.f1 = 4 ∨ x.f1 = 8
  next : E = 0 → x.f0 = 2 → S.b = setB s.b x.f1 x.f4 ∧ C = mskI S.b
  geo : (E ≠ 0 ∨ x.f0 = 0 ∨ x.f0 = 1 ∨ x.f0 = 2 ∨ x.f0 = 3 ∨ x.f0 = 4) → S.gx = s.gx ∧ S.gy = s.gy ∧ S.fx = s.fx ∧ S.fy = s.fy
theorem minS_f (s : WSt) (x y : Int) : (minS s x y).b = s.b ∧ (minS s x y).gx = s.gx ∧ (minS s x y).gy = s.gy ∧ (minS s x y).fx = s.fx ∧ (minS s x y).fy = s.fy := by
  unfold minS
  split <;> exact ⟨rfl, rfl, rfl, rfl, rfl⟩
theorem maxS_f (s : WSt) (x y : Int) : (maxS s x y).b = s.b ∧ (maxS s x y).gx = s.gx ∧ (maxS s x y).gy = s.gy ∧ (maxS s x y).fx = s.fx ∧ (maxS s x y).fy = s.fy := by
  unfold maxS
  split <;> exact ⟨rfl, rfl, rfl, rfl, rfl⟩
theorem rszS_f (s : WSt) (k x y : Int) : (rszS s k x y).b = s.b ∧ (rszS s k x y).gx = s.gx ∧ (rszS s k x y).gy = s.gy ∧ (rszS s k x y).fx = s.fx ∧ (rszS s k x y).fy = s.fy := by
  unfold rszS
  split <;> exact ⟨rfl, rfl, rfl, rfl, rfl⟩
theorem accS_b (s : WSt) (x y : Int) : (accS s x y).b = s.b := by
  unfold accS
  split
  · split <;> rfl
  · rfl
end Go.Proofs.Ytckpgccbhaejgaa.Q

namespace Go.Proofs.Ytckpgccbhaejgaa.Q
open Go.RowKit Go.Proofs.YtckpgccbhaejgaaW.PrintWords Go.Proofs.YtckpgccbhaejgaaW.PrintLast Go.Proofs.YtckpgccbhaejgaaW.PrintMore Go.Proofs.Ytckpgccbhaejgaa.Sl Go.Proofs.Ytckpgccbhaejgaa.Hand 
attribute [local go_sem] max2_int min2_int max_two min_two max_three min_three max_four min_four 
set_option linter.unusedVariables false
set_option linter.unusedSimpArgs false

/-! ### The queries agree -/
abbrev rvW (a b c d X Y U V e f M : Int) : Value := .agg #[.int .i64 a, .int .i64 b, .int .i64 c, .int .i64 d, .int .i64 X, .int .i64 Y, .int .i64 U, .int .i64 V, .int .i64 e, .int .i64 f, .int .i64 M]
theorem agrees_in {w0 w : World} {R A : Res} {p : Value} (a b c d X Y U V e f M : Int)
    (hst : ∀ {w' : World} {L : List Res}, SL w0 w' L → L[0]? = some A → Calls Try.prog 18 #[p] w' fun e w'' => e = .returned (.int .i64 M) ∧ SL w0 w'' L)
    (hg : ∀ {w' : World} {L : List Res}, SL w0 w' L → L[0]? = some A → Calls Try.prog 20 #[p] w' fun e w'' => e = .returned (.tuple #[.int .i64 X, .int .i64 Y]) ∧ SL w0 w'' L)
    (hf : ∀ {w' : World} {L : List Res}, SL w0 w' L → L[0]? = some A → Calls Try.prog 21 #[p] w' fun e w'' => e = .returned (.tuple #[.int .i64 U, .int .i64 V]) ∧ SL w0 w'' L)
    (hs : SL w0 w [A, R]) : Calls Try.prog 17 #[p, rvW a b c d X Y U V e f M] w fun e w' => e = .returned (.bool true) ∧ SL w0 w' [A, R] := by
  have HS := Aside0.mk (sl_box hs #[.int .i64 a, .int .i64 b, .int .i64 c, .int .i64 d, .int .i64 X, .int .i64 Y, .int .i64 U, .int .i64 V, .int .i64 e, .int .i64 f, .int .i64 M] 39)
  have H1 := Aside0.mk @hst
  have H2 := Aside0.mk @hg
  have H3 := Aside0.mk @hf
  clear hs hst hg hf
  go_enter Try.func17, Try.ntmps17
  go_wp2_with (first
    | (go_at_call 20; refine (H2.out (by repeat (with_reducible first | exact HS.out | apply sl_drewN | apply sl_drew | apply sl_alloc)) (by rfl)).mono ?_; rintro e w1 ⟨rfl, hs⟩; (try simp only [World.size_alloc] at hs); replace HS := Aside0.mk hs; clear hs; (try clear hl1); have hl1 := blk_lt (sl_blk HS.out 2 rfl))
    | (go_at_call 21; refine (H3.out (by repeat (with_reducible first | exact HS.out | apply sl_drewN | apply sl_drew | apply sl_alloc)) (by rfl)).mono ?_; rintro e w1 ⟨rfl, hs⟩; (try simp only [World.size_alloc] at hs); replace HS := Aside0.mk hs; clear hs; (try clear hl1); have hl1 := blk_lt (sl_blk HS.out 2 rfl)))
  refine start_ (n := 34) (S := fun w' => w'.cell? ⟨w.heap.size, 10, none⟩ = some (.int .i64 M) ∧ w'.cell? ⟨w.heap.size, 4, none⟩ = some (.int .i64 X) ∧ w'.cell? ⟨w.heap.size, 5, none⟩ = some (.int .i64 Y) ∧ w'.cell? ⟨w.heap.size, 6, none⟩ = some (.int .i64 U) ∧ w'.cell? ⟨w.heap.size, 7, none⟩ = some (.int .i64 V)) (ds := []) #[false, false, false, false, false, false, false, false, false, false, false, false, false, false, false, false, false, false, false, false, false, false, false, false, false, false, false, false, false, false, false, false, false, false] (by kernel_rfl) rfl rfl ⟨(c_at (sl_drew HS.out) 2 rfl 10 rfl), (c_at (sl_drew HS.out) 2 rfl 4 rfl), (c_at (sl_drew HS.out) 2 rfl 5 rfl), (c_at (sl_drew HS.out) 2 rfl 6 rfl), (c_at (sl_drew HS.out) 2 rfl 7 rfl)⟩ (fun hHeld => ?_)
  refine pure_ (i := 0) (N := some 19) (v := ?_) (a' := ?_) #[true, false, false, false, false, false, false, false, false, false, false, false, false, false, false, false, false, false, false, false, false, false, false, false, false, false, false, false, false, false, false, false, false, false] rfl rfl (by kernel_rfl) (fun _ _ _ h => h) (Or.inl ⟨by rfl, ?_⟩) ?_ ?_
  rotate_left
  · intro w'
    go_simp
    with_reducible rfl
  rotate_left
  · simp only [Act.put, List.setIfInBounds_toArray, List.set_cons_zero, List.set_cons_succ, i64_w, i32_w, IntKind.wrap_u32, IntKind.wrap_u8, IntKind.wrap_u16]
    rfl
  refine pure_ (i := 2) (N := some 21) (v := ?_) (a' := ?_) #[true, false, true, false, false, false, false, false, false, false, false, false, false, false, false, false, false, false, false, false, false, false, false, false, false, false, false, false, false, false, false, false, false, false] rfl rfl (by kernel_rfl) (fun _ _ _ h => h) (Or.inl ⟨by rfl, ?_⟩) ?_ ?_
  rotate_left
  · intro w'
    go_simp
    with_reducible rfl
  rotate_left
  · simp only [Act.put, List.setIfInBounds_toArray, List.set_cons_zero, List.set_cons_succ, i64_w, i32_w, IntKind.wrap_u32, IntKind.wrap_u8, IntKind.wrap_u16]
    rfl
  refine take_ (i := 3) (N := some 22) (v := ?_) (a' := ?_) #[true, false, true, true, false, false, false, false, false, false, false, false, false, false, false, false, false, false, false, false, false, false, false, false, false, false, false, false, false, false, false, false, false, false] rfl rfl (by kernel_rfl) (fun _ _ _ h => h) (Or.inl ⟨by rfl, ?_⟩) hHeld ?_ ?_
  rotate_left
  · rintro w' ⟨s0, s1, s2, s3, s4⟩
    go_simp
    with_reducible rfl
  rotate_left
  · simp only [Act.put, List.setIfInBounds_toArray, List.set_cons_zero, List.set_cons_succ, i64_w, i32_w, IntKind.wrap_u32, IntKind.wrap_u8, IntKind.wrap_u16]
    rfl
  refine one_ (i := 1) (N := some 20) #[true, true, true, true, false, false, false, false, false, false, false, false, false, false, false, false, false, false, false, false, false, false, false, false, false, false, false, false, false, false, false, false, false, false] rfl rfl (by kernel_rfl) (by decide) (fun K hK => ?_)
  refine goes_ Try.func18 (by kernel_rfl) rfl #[p] (by rfl) rfl rfl (by (try simp only [List.map_toArray, List.map_cons, List.map_nil]); first | done | rfl) ?_
  with_reducible refine (H1.out (sl_drew HS.out) rfl).mono ?_
  rintro e w3 ⟨rfl, hs3⟩
  refine ⟨_, rfl, ?_⟩
  refine hK.out _ _ ⟨(c_at hs3 2 rfl 10 rfl), (c_at hs3 2 rfl 4 rfl), (c_at hs3 2 rfl 5 rfl), (c_at hs3 2 rfl 6 rfl), (c_at hs3 2 rfl 7 rfl)⟩ (fun hHeld => ?_)
  clear hK K
  refine norm_ (a' := ?_) ?_ ?_
  rotate_left
  · show Act.put _ (some 20) _ = _
    simp only [Act.put, List.setIfInBounds_toArray, List.set_cons_zero, List.set_cons_succ, i64_w, i32_w, IntKind.wrap_u32, IntKind.wrap_u8, IntKind.wrap_u16]
    rfl
  refine pure_ (i := 4) (N := some 23) (v := ?_) (a' := ?_) #[true, true, true, true, true, false, false, false, false, false, false, false, false, false, false, false, false, false, false, false, false, false, false, false, false, false, false, false, false, false, false, false, false, false] rfl rfl (by kernel_rfl) (fun _ _ _ h => h) (Or.inl ⟨by rfl, ?_⟩) ?_ ?_
  rotate_left
  · intro w'
    go_simp
    with_reducible rfl
  rotate_left
  · simp only [Act.put, List.setIfInBounds_toArray, List.set_cons_zero, List.set_cons_succ, i64_w, i32_w, IntKind.wrap_u32, IntKind.wrap_u8, IntKind.wrap_u16]
    rfl
  refine pure_ (i := 5) (N := some 24) (v := ?_) (a' := ?_) #[true, true, true, true, true, true, false, false, false, false, false, false, false, false, false, false, false, false, false, false, false, false, false, false, false, false, false, false, false, false, false, false, false, false] rfl rfl (by kernel_rfl) (fun _ _ _ h => h) (Or.inl ⟨by rfl, ?_⟩) ?_ ?_
  rotate_left
  · intro w'
    go_simp
    with_reducible rfl
  rotate_left
  · simp only [Act.put, List.setIfInBounds_toArray, List.set_cons_zero, List.set_cons_succ, i64_w, i32_w, IntKind.wrap_u32, IntKind.wrap_u8, IntKind.wrap_u16]
    rfl
  refine pure_ (i := 6) (N := some 25) (v := ?_) (a' := ?_) #[true, true, true, true, true, true, true, false, false, false, false, false, false, false, false, false, false, false, false, false, false, false, false, false, false, false, false, false, false, false, false, false, false, false] rfl rfl (by kernel_rfl) (fun _ _ _ h => h) (Or.inl ⟨by rfl, ?_⟩) ?_ ?_
  rotate_left
  · intro w'
    go_simp
    with_reducible rfl
  rotate_left
  · simp only [Act.put, List.setIfInBounds_toArray, List.set_cons_zero, List.set_cons_succ, i64_w, i32_w, IntKind.wrap_u32, IntKind.wrap_u8, IntKind.wrap_u16]
    rfl
  refine pure_ (i := 7) (N := some 26) (v := ?_) (a' := ?_) #[true, true, true, true, true, true, true, true, false, false, false, false, false, false, false, false, false, false, false, false, false, false, false, false, false, false, false, false, false, false, false, false, false, false] rfl rfl (by kernel_rfl) (fun _ _ _ h => h) (Or.inl ⟨by rfl, ?_⟩) ?_ ?_
  rotate_left
  · intro w'
    go_simp
    with_reducible rfl
  rotate_left
  · simp only [Act.put, List.setIfInBounds_toArray, List.set_cons_zero, List.set_cons_succ, i64_w, i32_w, IntKind.wrap_u32, IntKind.wrap_u8, IntKind.wrap_u16]
    rfl
  refine pure_ (i := 8) (N := some 27) (v := ?_) (a' := ?_) #[true, true, true, true, true, true, true, true, true, false, false, false, false, false, false, false, false, false, false, false, false, false, false, false, false, false, false, false, false, false, false, false, false, false] rfl rfl (by kernel_rfl) (fun _ _ _ h => h) (Or.inl ⟨by rfl, ?_⟩) ?_ ?_
  rotate_left
  · intro w'
    go_simp
    with_reducible rfl
  rotate_left
  · simp only [Act.put, List.setIfInBounds_toArray, List.set_cons_zero, List.set_cons_succ, i64_w, i32_w, IntKind.wrap_u32, IntKind.wrap_u8, IntKind.wrap_u16]
    rfl
  refine take_ (i := 9) (N := some 28) (v := ?_) (a' := ?_) #[true, true, true, true, true, true, true, true, true, true, false, false, false, false, false, false, false, false, false, false, false, false, false, false, false, false, false, false, false, false, false, false, false, false] rfl rfl (by kernel_rfl) (fun _ _ _ h => h) (Or.inl ⟨by rfl, ?_⟩) hHeld ?_ ?_
  rotate_left
  · rintro w' ⟨s0, s1, s2, s3, s4⟩
    go_simp
    with_reducible rfl
  rotate_left
  · simp only [Act.put, List.setIfInBounds_toArray, List.set_cons_zero, List.set_cons_succ, i64_w, i32_w, IntKind.wrap_u32, IntKind.wrap_u8, IntKind.wrap_u16]
    rfl
  refine pure_ (i := 10) (N := some 29) (v := ?_) (a' := ?_) #[true, true, true, true, true, true, true, true, true, true, true, false, false, false, false, false, false, false, false, false, false, false, false, false, false, false, false, false, false, false, false, false, false, false] rfl rfl (by kernel_rfl) (fun _ _ _ h => h) (Or.inl ⟨by rfl, ?_⟩) ?_ ?_
  rotate_left
  · intro w'
    go_simp
    with_reducible rfl
  rotate_left
  · simp only [Act.put, List.setIfInBounds_toArray, List.set_cons_zero, List.set_cons_succ, i64_w, i32_w, IntKind.wrap_u32, IntKind.wrap_u8, IntKind.wrap_u16]
    rfl
  refine pure_ (i := 11) (N := some 30) (v := ?_) (a' := ?_) #[true, true, true, true, true, true, true, true, true, true, true, true, false, false, false, false, false, false, false, false, false, false, false, false, false, false, false, false, false, false, false, false, false, false] rfl rfl (by kernel_rfl) (fun _ _ _ h => h) (Or.inl ⟨by rfl, ?_⟩) ?_ ?_
  rotate_left
  · intro w'
    go_simp
    with_reducible rfl
  rotate_left
  · simp only [Act.put, List.setIfInBounds_toArray, List.set_cons_zero, List.set_cons_succ, i64_w, i32_w, IntKind.wrap_u32, IntKind.wrap_u8, IntKind.wrap_u16]
    rfl
  refine pure_ (i := 12) (N := some 31) (v := ?_) (a' := ?_) #[true, true, true, true, true, true, true, true, true, true, true, true, true, false, false, false, false, false, false, false, false, false, false, false, false, false, false, false, false, false, false, false, false, false] rfl rfl (by kernel_rfl) (fun _ _ _ h => h) (Or.inl ⟨by rfl, ?_⟩) ?_ ?_
  rotate_left
  · intro w'
    go_simp
    with_reducible rfl
  rotate_left
  · simp only [Act.put, List.setIfInBounds_toArray, List.set_cons_zero, List.set_cons_succ, i64_w, i32_w, IntKind.wrap_u32, IntKind.wrap_u8, IntKind.wrap_u16]
    rfl
  refine pure_ (i := 13) (N := some 32) (v := ?_) (a' := ?_) #[true, true, true, true, true, true, true, true, true, true, true, true, true, true, false, false, false, false, false, false, false, false, false, false, false, false, false, false, false, false, false, false, false, false] rfl rfl (by kernel_rfl) (fun _ _ _ h => h) (Or.inl ⟨by rfl, ?_⟩) ?_ ?_
  rotate_left
  · intro w'
    go_simp
    with_reducible rfl
  rotate_left
  · simp only [Act.put, List.setIfInBounds_toArray, List.set_cons_zero, List.set_cons_succ, i64_w, i32_w, IntKind.wrap_u32, IntKind.wrap_u8, IntKind.wrap_u16]
    rfl
  refine pure_ (i := 14) (N := some 33) (v := ?_) (a' := ?_) #[true, true, true, true, true, true, true, true, true, true, true, true, true, true, true, false, false, false, false, false, false, false, false, false, false, false, false, false, false, false, false, false, false, false] rfl rfl (by kernel_rfl) (fun _ _ _ h => h) (Or.inl ⟨by rfl, ?_⟩) ?_ ?_
  rotate_left
  · intro w'
    go_simp
    with_reducible rfl
  rotate_left
  · simp only [Act.put, List.setIfInBounds_toArray, List.set_cons_zero, List.set_cons_succ, i64_w, i32_w, IntKind.wrap_u32, IntKind.wrap_u8, IntKind.wrap_u16]
    rfl
  refine pure_ (i := 15) (N := some 34) (v := ?_) (a' := ?_) #[true, true, true, true, true, true, true, true, true, true, true, true, true, true, true, true, false, false, false, false, false, false, false, false, false, false, false, false, false, false, false, false, false, false] rfl rfl (by kernel_rfl) (fun _ _ _ h => h) (Or.inl ⟨by rfl, ?_⟩) ?_ ?_
  rotate_left
  · intro w'
    go_simp
    with_reducible rfl
  rotate_left
  · simp only [Act.put, List.setIfInBounds_toArray, List.set_cons_zero, List.set_cons_succ, i64_w, i32_w, IntKind.wrap_u32, IntKind.wrap_u8, IntKind.wrap_u16]
    rfl
  refine take_ (i := 16) (N := some 35) (v := ?_) (a' := ?_) #[true, true, true, true, true, true, true, true, true, true, true, true, true, true, true, true, true, false, false, false, false, false, false, false, false, false, false, false, false, false, false, false, false, false] rfl rfl (by kernel_rfl) (fun _ _ _ h => h) (Or.inl ⟨by rfl, ?_⟩) hHeld ?_ ?_
  rotate_left
  · rintro w' ⟨s0, s1, s2, s3, s4⟩
    go_simp
    with_reducible rfl
  rotate_left
  · simp only [Act.put, List.setIfInBounds_toArray, List.set_cons_zero, List.set_cons_succ, i64_w, i32_w, IntKind.wrap_u32, IntKind.wrap_u8, IntKind.wrap_u16]
    rfl
  refine pure_ (i := 17) (N := some 36) (v := ?_) (a' := ?_) #[true, true, true, true, true, true, true, true, true, true, true, true, true, true, true, true, true, true, false, false, false, false, false, false, false, false, false, false, false, false, false, false, false, false] rfl rfl (by kernel_rfl) (fun _ _ _ h => h) (Or.inl ⟨by rfl, ?_⟩) ?_ ?_
  rotate_left
  · intro w'
    go_simp
    with_reducible rfl
  rotate_left
  · simp only [Act.put, List.setIfInBounds_toArray, List.set_cons_zero, List.set_cons_succ, i64_w, i32_w, IntKind.wrap_u32, IntKind.wrap_u8, IntKind.wrap_u16]
    rfl
  refine pure_ (i := 18) (N := some 37) (v := ?_) (a' := ?_) #[true, true, true, true, true, true, true, true, true, true, true, true, true, true, true, true, true, true, true, false, false, false, false, false, false, false, false, false, false, false, false, false, false, false] rfl rfl (by kernel_rfl) (fun _ _ _ h => h) (Or.inl ⟨by rfl, ?_⟩) ?_ ?_
  rotate_left
  · intro w'
    go_simp
    with_reducible rfl
  rotate_left
  · simp only [Act.put, List.setIfInBounds_toArray, List.set_cons_zero, List.set_cons_succ, i64_w, i32_w, IntKind.wrap_u32, IntKind.wrap_u8, IntKind.wrap_u16]
    rfl
  refine pure_ (i := 19) (N := some 38) (v := ?_) (a' := ?_) #[true, true, true, true, true, true, true, true, true, true, true, true, true, true, true, true, true, true, true, true, false, false, false, false, false, false, false, false, false, false, false, false, false, false] rfl rfl (by kernel_rfl) (fun _ _ _ h => h) (Or.inl ⟨by rfl, ?_⟩) ?_ ?_
  rotate_left
  · intro w'
    go_simp
    with_reducible rfl
  rotate_left
  · simp only [Act.put, List.setIfInBounds_toArray, List.set_cons_zero, List.set_cons_succ, i64_w, i32_w, IntKind.wrap_u32, IntKind.wrap_u8, IntKind.wrap_u16]
    rfl
  refine pure_ (i := 20) (N := some 39) (v := ?_) (a' := ?_) #[true, true, true, true, true, true, true, true, true, true, true, true, true, true, true, true, true, true, true, true, true, false, false, false, false, false, false, false, false, false, false, false, false, false] rfl rfl (by kernel_rfl) (fun _ _ _ h => h) (Or.inl ⟨by rfl, ?_⟩) ?_ ?_
  rotate_left
  · intro w'
    go_simp
    with_reducible rfl
  rotate_left
  · simp only [Act.put, List.setIfInBounds_toArray, List.set_cons_zero, List.set_cons_succ, i64_w, i32_w, IntKind.wrap_u32, IntKind.wrap_u8, IntKind.wrap_u16]
    rfl
  refine pure_ (i := 21) (N := some 40) (v := ?_) (a' := ?_) #[true, true, true, true, true, true, true, true, true, true, true, true, true, true, true, true, true, true, true, true, true, true, false, false, false, false, false, false, false, false, false, false, false, false] rfl rfl (by kernel_rfl) (fun _ _ _ h => h) (Or.inl ⟨by rfl, ?_⟩) ?_ ?_
  rotate_left
  · intro w'
    go_simp
    with_reducible rfl
  rotate_left
  · simp only [Act.put, List.setIfInBounds_toArray, List.set_cons_zero, List.set_cons_succ, i64_w, i32_w, IntKind.wrap_u32, IntKind.wrap_u8, IntKind.wrap_u16]
    rfl
  refine pure_ (i := 22) (N := some 41) (v := ?_) (a' := ?_) #[true, true, true, true, true, true, true, true, true, true, true, true, true, true, true, true, true, true, true, true, true, true, true, false, false, false, false, false, false, false, false, false, false, false] rfl rfl (by kernel_rfl) (fun _ _ _ h => h) (Or.inl ⟨by rfl, ?_⟩) ?_ ?_
  rotate_left
  · intro w'
    go_simp
    with_reducible rfl
  rotate_left
  · simp only [Act.put, List.setIfInBounds_toArray, List.set_cons_zero, List.set_cons_succ, i64_w, i32_w, IntKind.wrap_u32, IntKind.wrap_u8, IntKind.wrap_u16]
    rfl
  refine take_ (i := 23) (N := some 42) (v := ?_) (a' := ?_) #[true, true, true, true, true, true, true, true, true, true, true, true, true, true, true, true, true, true, true, true, true, true, true, true, false, false, false, false, false, false, false, false, false, false] rfl rfl (by kernel_rfl) (fun _ _ _ h => h) (Or.inl ⟨by rfl, ?_⟩) hHeld ?_ ?_
  rotate_left
  · rintro w' ⟨s0, s1, s2, s3, s4⟩
    go_simp
    with_reducible rfl
  rotate_left
  · simp only [Act.put, List.setIfInBounds_toArray, List.set_cons_zero, List.set_cons_succ, i64_w, i32_w, IntKind.wrap_u32, IntKind.wrap_u8, IntKind.wrap_u16]
    rfl
  refine pure_ (i := 24) (N := some 43) (v := ?_) (a' := ?_) #[true, true, true, true, true, true, true, true, true, true, true, true, true, true, true, true, true, true, true, true, true, true, true, true, true, false, false, false, false, false, false, false, false, false] rfl rfl (by kernel_rfl) (fun _ _ _ h => h) (Or.inl ⟨by rfl, ?_⟩) ?_ ?_
  rotate_left
  · intro w'
    go_simp
    with_reducible rfl
  rotate_left
  · simp only [Act.put, List.setIfInBounds_toArray, List.set_cons_zero, List.set_cons_succ, i64_w, i32_w, IntKind.wrap_u32, IntKind.wrap_u8, IntKind.wrap_u16]
    rfl
  refine pure_ (i := 25) (N := some 44) (v := ?_) (a' := ?_) #[true, true, true, true, true, true, true, true, true, true, true, true, true, true, true, true, true, true, true, true, true, true, true, true, true, true, false, false, false, false, false, false, false, false] rfl rfl (by kernel_rfl) (fun _ _ _ h => h) (Or.inl ⟨by rfl, ?_⟩) ?_ ?_
  rotate_left
  · intro w'
    go_simp
    with_reducible rfl
  rotate_left
  · simp only [Act.put, List.setIfInBounds_toArray, List.set_cons_zero, List.set_cons_succ, i64_w, i32_w, IntKind.wrap_u32, IntKind.wrap_u8, IntKind.wrap_u16]
    rfl
  refine pure_ (i := 26) (N := some 45) (v := ?_) (a' := ?_) #[true, true, true, true, true, true, true, true, true, true, true, true, true, true, true, true, true, true, true, true, true, true, true, true, true, true, true, false, false, false, false, false, false, false] rfl rfl (by kernel_rfl) (fun _ _ _ h => h) (Or.inl ⟨by rfl, ?_⟩) ?_ ?_
  rotate_left
  · intro w'
    go_simp
    with_reducible rfl
  rotate_left
  · simp only [Act.put, List.setIfInBounds_toArray, List.set_cons_zero, List.set_cons_succ, i64_w, i32_w, IntKind.wrap_u32, IntKind.wrap_u8, IntKind.wrap_u16]
    rfl
  refine pure_ (i := 27) (N := some 46) (v := ?_) (a' := ?_) #[true, true, true, true, true, true, true, true, true, true, true, true, true, true, true, true, true, true, true, true, true, true, true, true, true, true, true, true, false, false, false, false, false, false] rfl rfl (by kernel_rfl) (fun _ _ _ h => h) (Or.inl ⟨by rfl, ?_⟩) ?_ ?_
  rotate_left
  · intro w'
    go_simp
    with_reducible rfl
  rotate_left
  · simp only [Act.put, List.setIfInBounds_toArray, List.set_cons_zero, List.set_cons_succ, i64_w, i32_w, IntKind.wrap_u32, IntKind.wrap_u8, IntKind.wrap_u16]
    rfl
  refine pure_ (i := 28) (N := some 47) (v := ?_) (a' := ?_) #[true, true, true, true, true, true, true, true, true, true, true, true, true, true, true, true, true, true, true, true, true, true, true, true, true, true, true, true, true, false, false, false, false, false] rfl rfl (by kernel_rfl) (fun _ _ _ h => h) (Or.inl ⟨by rfl, ?_⟩) ?_ ?_
  rotate_left
  · intro w'
    go_simp
    with_reducible rfl
  rotate_left
  · simp only [Act.put, List.setIfInBounds_toArray, List.set_cons_zero, List.set_cons_succ, i64_w, i32_w, IntKind.wrap_u32, IntKind.wrap_u8, IntKind.wrap_u16]
    rfl
  refine pure_ (i := 29) (N := some 48) (v := ?_) (a' := ?_) #[true, true, true, true, true, true, true, true, true, true, true, true, true, true, true, true, true, true, true, true, true, true, true, true, true, true, true, true, true, true, false, false, false, false] rfl rfl (by kernel_rfl) (fun _ _ _ h => h) (Or.inl ⟨by rfl, ?_⟩) ?_ ?_
  rotate_left
  · intro w'
    go_simp
    with_reducible rfl
  rotate_left
  · simp only [Act.put, List.setIfInBounds_toArray, List.set_cons_zero, List.set_cons_succ, i64_w, i32_w, IntKind.wrap_u32, IntKind.wrap_u8, IntKind.wrap_u16]
    rfl
  refine take_ (i := 30) (N := some 49) (v := ?_) (a' := ?_) #[true, true, true, true, true, true, true, true, true, true, true, true, true, true, true, true, true, true, true, true, true, true, true, true, true, true, true, true, true, true, true, false, false, false] rfl rfl (by kernel_rfl) (fun _ _ _ h => h) (Or.inl ⟨by rfl, ?_⟩) hHeld ?_ ?_
  rotate_left
  · rintro w' ⟨s0, s1, s2, s3, s4⟩
    go_simp
    with_reducible rfl
  rotate_left
  · simp only [Act.put, List.setIfInBounds_toArray, List.set_cons_zero, List.set_cons_succ, i64_w, i32_w, IntKind.wrap_u32, IntKind.wrap_u8, IntKind.wrap_u16]
    rfl
  refine pure_ (i := 31) (N := some 50) (v := ?_) (a' := ?_) #[true, true, true, true, true, true, true, true, true, true, true, true, true, true, true, true, true, true, true, true, true, true, true, true, true, true, true, true, true, true, true, true, false, false] rfl rfl (by kernel_rfl) (fun _ _ _ h => h) (Or.inl ⟨by rfl, ?_⟩) ?_ ?_
  rotate_left
  · intro w'
    go_simp
    with_reducible rfl
  rotate_left
  · simp only [Act.put, List.setIfInBounds_toArray, List.set_cons_zero, List.set_cons_succ, i64_w, i32_w, IntKind.wrap_u32, IntKind.wrap_u8, IntKind.wrap_u16]
    rfl
  refine pure_ (i := 32) (N := some 51) (v := ?_) (a' := ?_) #[true, true, true, true, true, true, true, true, true, true, true, true, true, true, true, true, true, true, true, true, true, true, true, true, true, true, true, true, true, true, true, true, true, false] rfl rfl (by kernel_rfl) (fun _ _ _ h => h) (Or.inl ⟨by rfl, ?_⟩) ?_ ?_
  rotate_left
  · intro w'
    go_simp
    with_reducible rfl
  rotate_left
  · simp only [Act.put, List.setIfInBounds_toArray, List.set_cons_zero, List.set_cons_succ, i64_w, i32_w, IntKind.wrap_u32, IntKind.wrap_u8, IntKind.wrap_u16]
    rfl
  refine pure_ (i := 33) (N := some 4) (v := ?_) (a' := ?_) #[true, true, true, true, true, true, true, true, true, true, true, true, true, true, true, true, true, true, true, true, true, true, true, true, true, true, true, true, true, true, true, true, true, true] rfl rfl (by kernel_rfl) (fun _ _ _ h => h) (Or.inl ⟨by rfl, ?_⟩) ?_ ?_
  rotate_left
  · intro w'
    go_simp
    with_reducible rfl
  rotate_left
  · simp only [Act.put, List.setIfInBounds_toArray, List.set_cons_zero, List.set_cons_succ, i64_w, i32_w, IntKind.wrap_u32, IntKind.wrap_u8, IntKind.wrap_u16]
    rfl
  refine done_ (by kernel_rfl) ?_
  go_wp2_with (fail)
  go_ret
  exact ⟨rfl, sl_take hs3 2⟩
theorem agrees_c {w0 w : World} {L : List Res} {A : Res} {p : Value} (a b c d X Y U V e f M : Int) (h : SL w0 w L) (i : Nat) (hi : L[i]? = some A)
    (hst : ∀ {w' : World} {L : List Res}, SL w0 w' L → L[0]? = some A → Calls Try.prog 18 #[p] w' fun e w'' => e = .returned (.int .i64 M) ∧ SL w0 w'' L)
    (hg : ∀ {w' : World} {L : List Res}, SL w0 w' L → L[0]? = some A → Calls Try.prog 20 #[p] w' fun e w'' => e = .returned (.tuple #[.int .i64 X, .int .i64 Y]) ∧ SL w0 w'' L)
    (hf : ∀ {w' : World} {L : List Res}, SL w0 w' L → L[0]? = some A → Calls Try.prog 21 #[p] w' fun e w'' => e = .returned (.tuple #[.int .i64 U, .int .i64 V]) ∧ SL w0 w'' L) :
    Calls Try.prog 17 #[p, rvW a b c d X Y U V e f M] w fun e w' => e = .returned (.bool true) ∧ SL w0 w' L := lift0 h i hi fun h => agrees_in a b c d X Y U V e f M hst hg hf h
theorem agrees_w {w0 w : World} {L : List Res} {g : Nat} {s : WSt} (h : SL w0 w L) (i : Nat) (hi : L[i]? = some (winR g s)) (a b c d e f : Int) {X Y U V M : Int} (hq : s.gx = X ∧ s.gy = Y ∧ s.fx = U ∧ s.fy = V ∧ mskI s.b = M) :
    Calls Try.prog 17 #[.pointer (some ⟨g, 0, none⟩), rvW a b c d X Y U V e f M] w fun e w' => e = .returned (.bool true) ∧ SL w0 w' L := by
  obtain ⟨rfl, rfl, rfl, rfl, rfl⟩ := hq
  exact agrees_c (A := winR g s) a b c d _ _ _ _ e f _ h i hi (fun h hi => Sta_sl h 0 rfl hi) (fun h hi => Geo_sl h 0 hi) (fun h hi => Flt_sl h 0 hi)
end Go.Proofs.Ytckpgccbhaejgaa.Q

