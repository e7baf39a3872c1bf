import Derived.Test.YtckpgccbhaejgaaT11
namespace Go.Proofs.Ytckpgccbhaejgaa.Q
open Go.RowKit Go.Proofs.YtckpgccbhaejgaaW.PrintWords Go.Proofs.YtckpgccbhaejgaaW.PrintLast Go.Proofs.YtckpgccbhaejgaaW.PrintMore Go.Proofs.Ytckpgccbhaejgaa.Sl Go.Proofs.Ytckpgccbhaejgaa.Hand 
attribute [local go_sem] max2_int min2_int max_two min_two max_three min_three max_four min_four 
set_option linter.unusedVariables false
set_option linter.unusedSimpArgs false

def rqA (s : WSt) (k : Int) (on : Bool) (x0 y0 x1 y1 : Int) : Int := if rqE s k on (emptyB x0 y0 x1 y1) = 0 then rqX s k on x0 x1 else 0
def rqB (s : WSt) (k : Int) (on : Bool) (x0 y0 x1 y1 : Int) : Int := if rqE s k on (emptyB x0 y0 x1 y1) = 0 then rqY s k on y0 y1 else 0
def rqM (s : WSt) (k : Int) (on : Bool) (x0 y0 x1 y1 : Int) : Int := if rqE s k on (emptyB x0 y0 x1 y1) = 0 then mskI (setB s.b k on) else 0
theorem rqV_eq (s : WSt) (k : Int) (on : Bool) (x0 y0 x1 y1 : Int) : rqV s k on x0 y0 x1 y1 = .tuple #[.int .i64 (rqA s k on x0 y0 x1 y1), .int .i64 (rqB s k on x0 y0 x1 y1), .int .i64 (rqM s k on x0 y0 x1 y1), .int .i64 (rqE s k on (emptyB x0 y0 x1 y1))] := by
  unfold rqV rqA rqB rqM
  by_cases h : rqE s k on (emptyB x0 y0 x1 y1) = 0
  · rw [if_pos h, if_pos h, if_pos h, if_pos h, h]
  · rw [if_neg h, if_neg h, if_neg h, if_neg h]
def opE (s : WSt) (x : S46) : Int := if x.f0 = 0 then minE s x.f2 x.f3 else if x.f0 = 1 then maxE s x.f2 x.f3 else if x.f0 = 2 then rqE s x.f1 x.f4 (emptyB x.f5.f0 x.f5.f1 x.f5.f2 x.f5.f3) else if x.f0 = 3 then rszE s x.f1 x.f2 x.f3 else if x.f0 = 4 then titE x.f6 else accE s x.f2 x.f3
def opS (s : WSt) (x : S46) : WSt := if x.f0 = 0 then minS s x.f2 x.f3 else if x.f0 = 1 then maxS s x.f2 x.f3 else if x.f0 = 2 then rqS s x.f1 x.f4 x.f5.f0 x.f5.f1 x.f5.f2 x.f5.f3 else if x.f0 = 3 then rszS s x.f1 x.f2 x.f3 else if x.f0 = 4 then s else accS s x.f2 x.f3
def opA (s : WSt) (x : S46) : Int := if x.f0 = 2 then rqA s x.f1 x.f4 x.f5.f0 x.f5.f1 x.f5.f2 x.f5.f3 else if x.f0 = 3 then rszA s x.f1 x.f2 x.f3 else 0
def opB (s : WSt) (x : S46) : Int := if x.f0 = 2 then rqB s x.f1 x.f4 x.f5.f0 x.f5.f1 x.f5.f2 x.f5.f3 else if x.f0 = 3 then rszB s x.f1 x.f2 x.f3 else 0
def opC (s : WSt) (x : S46) : Int := if x.f0 = 2 then rqM s x.f1 x.f4 x.f5.f0 x.f5.f1 x.f5.f2 x.f5.f3 else 0
abbrev ag46 (x : S46) : Value := .agg #[.int .i64 x.f0, .int .i64 x.f1, .int .i64 x.f2, .int .i64 x.f3, .bool x.f4, .int .i64 x.f5.f0, .int .i64 x.f5.f1, .int .i64 x.f5.f2, .int .i64 x.f5.f3, .string x.f6]
abbrev cs46 (x : S46) : Array Value := #[.int .i64 x.f0, .int .i64 x.f1, .int .i64 x.f2, .int .i64 x.f3, .bool x.f4, .int .i64 x.f5.f0, .int .i64 x.f5.f1, .int .i64 x.f5.f2, .int .i64 x.f5.f3, .string x.f6]
section
variable {w0 w : World} {R : Res}
theorem call_0 (g : Nat) (s : WSt) (x : S46)  (h0 : x.f0 = 0) (hs : SL w0 w [winR g s, R]) : Calls Try.prog 16 #[.pointer (some ⟨g, 0, none⟩), ag46 x] w fun e w' => e = .returned (.agg #[.int .i64 0, .int .i64 0, .int .i64 0, .int .i64 (minE s x.f2 x.f3)]) ∧ SL w0 w' [winR g (minS s x.f2 x.f3), R] := by
  have HS := Aside0.mk (sl_box hs (cs46 x) 46)
  have d0 : (x.f0 == 0) = true := beq_iff_eq.2 h0
  obtain ⟨E, hE⟩ : ∃ z, minE s x.f2 x.f3 = z := ⟨_, rfl⟩
  obtain ⟨S, hS⟩ : ∃ S, minS s x.f2 x.f3 = S := ⟨_, rfl⟩
  rw [hE, hS]
  have E0 := Aside0.mk hE
  have E1 := Aside0.mk hS
  clear hs h0 hE hS
  go_enter Try.func16, Try.ntmps16
  go_wp2_with (first
    | (go_at_call 22; refine (Min_eq (by repeat (with_reducible first | exact (sl_box HS.out #[.int .i64 0, .int .i64 0, .int .i64 0, .int .i64 0] 42) | apply sl_drewN | apply sl_drew)) 0 x.f2 x.f3 E0.out E1.out (by rfl)).mono ?_; rintro e w1 ⟨rfl, hs⟩; (try simp only [World.size_alloc] at hs); replace HS := Aside0.mk hs; clear hs; have q0 := c_at HS.out 3 rfl 0 rfl; have q1 := c_at HS.out 3 rfl 1 rfl; have q2 := c_at HS.out 3 rfl 2 rfl; have q3 := c_at HS.out 3 rfl 3 rfl; have f0 := f_at HS.out 3 rfl 0; have f1 := f_at HS.out 3 rfl 1; have f2 := f_at HS.out 3 rfl 2; have f3 := f_at HS.out 3 rfl 3; have hl1 := blk_lt (sl_blk HS.out 3 rfl)))
  have hs := sl_put (sl_put (sl_put (sl_put HS.out 3 rfl 0 (.int .i64 0)) 3 rfl 1 (.int .i64 0)) 3 rfl 2 (.int .i64 0)) 3 rfl 3 (.int .i64 E)
  refine bodyPost_ret (results_cell_row rfl _ _ (w.heap.size + 1) 42 #[.int .i64 0, .int .i64 0, .int .i64 0, .int .i64 E] (0, 0) _ (by rfl) (by exact sl_blk hs 3 rfl) (by exact Try.underlying42) (by rfl) (by kernel_rfl)) rfl ?_
  exact ⟨rfl, sl_take hs 2⟩
theorem call_1 (g : Nat) (s : WSt) (x : S46) (h0 : x.f0 ≠ 0) (h1 : x.f0 = 1) (hs : SL w0 w [winR g s, R]) : Calls Try.prog 16 #[.pointer (some ⟨g, 0, none⟩), ag46 x] w fun e w' => e = .returned (.agg #[.int .i64 0, .int .i64 0, .int .i64 0, .int .i64 (maxE s x.f2 x.f3)]) ∧ SL w0 w' [winR g (maxS s x.f2 x.f3), R] := by
  have HS := Aside0.mk (sl_box hs (cs46 x) 46)
  have d0 : (x.f0 == 0) = false := beq_eq_false_iff_ne.2 h0
  have d1 : (x.f0 == 1) = true := beq_iff_eq.2 h1
  obtain ⟨E, hE⟩ : ∃ z, maxE s x.f2 x.f3 = z := ⟨_, rfl⟩
  obtain ⟨S, hS⟩ : ∃ S, maxS s x.f2 x.f3 = S := ⟨_, rfl⟩
  rw [hE, hS]
  have E0 := Aside0.mk hE
  have E1 := Aside0.mk hS
  clear hs h0 h1 hE hS
  go_enter Try.func16, Try.ntmps16
  go_wp2_with (first
    | (go_at_call 23; refine (Max_eq (by repeat (with_reducible first | exact (sl_box HS.out #[.int .i64 0, .int .i64 0, .int .i64 0, .int .i64 0] 42) | apply sl_drewN | apply sl_drew)) 0 x.f2 x.f3 E0.out E1.out (by rfl)).mono ?_; rintro e w1 ⟨rfl, hs⟩; (try simp only [World.size_alloc] at hs); replace HS := Aside0.mk hs; clear hs; have q0 := c_at HS.out 3 rfl 0 rfl; have q1 := c_at HS.out 3 rfl 1 rfl; have q2 := c_at HS.out 3 rfl 2 rfl; have q3 := c_at HS.out 3 rfl 3 rfl; have f0 := f_at HS.out 3 rfl 0; have f1 := f_at HS.out 3 rfl 1; have f2 := f_at HS.out 3 rfl 2; have f3 := f_at HS.out 3 rfl 3; have hl1 := blk_lt (sl_blk HS.out 3 rfl)))
  have hs := sl_put (sl_put (sl_put (sl_put HS.out 3 rfl 0 (.int .i64 0)) 3 rfl 1 (.int .i64 0)) 3 rfl 2 (.int .i64 0)) 3 rfl 3 (.int .i64 E)
  refine bodyPost_ret (results_cell_row rfl _ _ (w.heap.size + 1) 42 #[.int .i64 0, .int .i64 0, .int .i64 0, .int .i64 E] (0, 0) _ (by rfl) (by exact sl_blk hs 3 rfl) (by exact Try.underlying42) (by rfl) (by kernel_rfl)) rfl ?_
  exact ⟨rfl, sl_take hs 2⟩
theorem call_2 (g : Nat) (s : WSt) (x : S46) (h0 : x.f0 ≠ 0) (h1 : x.f0 ≠ 1) (h2 : x.f0 = 2) (hs : SL w0 w [winR g s, R]) : Calls Try.prog 16 #[.pointer (some ⟨g, 0, none⟩), ag46 x] w fun e w' => e = .returned (.agg #[.int .i64 (rqA s x.f1 x.f4 x.f5.f0 x.f5.f1 x.f5.f2 x.f5.f3), .int .i64 (rqB s x.f1 x.f4 x.f5.f0 x.f5.f1 x.f5.f2 x.f5.f3), .int .i64 (rqM s x.f1 x.f4 x.f5.f0 x.f5.f1 x.f5.f2 x.f5.f3), .int .i64 (rqE s x.f1 x.f4 (emptyB x.f5.f0 x.f5.f1 x.f5.f2 x.f5.f3))]) ∧ SL w0 w' [winR g (rqS s x.f1 x.f4 x.f5.f0 x.f5.f1 x.f5.f2 x.f5.f3), R] := by
  have HS := Aside0.mk (sl_box hs (cs46 x) 46)
  have d0 : (x.f0 == 0) = false := beq_eq_false_iff_ne.2 h0
  have d1 : (x.f0 == 1) = false := beq_eq_false_iff_ne.2 h1
  have d2 : (x.f0 == 2) = true := beq_iff_eq.2 h2
  have hV := rqV_eq s x.f1 x.f4 x.f5.f0 x.f5.f1 x.f5.f2 x.f5.f3
  obtain ⟨A, hA⟩ : ∃ z, rqA s x.f1 x.f4 x.f5.f0 x.f5.f1 x.f5.f2 x.f5.f3 = z := ⟨_, rfl⟩
  obtain ⟨B, hB⟩ : ∃ z, rqB s x.f1 x.f4 x.f5.f0 x.f5.f1 x.f5.f2 x.f5.f3 = z := ⟨_, rfl⟩
  obtain ⟨M, hM⟩ : ∃ z, rqM s x.f1 x.f4 x.f5.f0 x.f5.f1 x.f5.f2 x.f5.f3 = z := ⟨_, rfl⟩
  obtain ⟨E, hE⟩ : ∃ z, rqE s x.f1 x.f4 (emptyB x.f5.f0 x.f5.f1 x.f5.f2 x.f5.f3) = z := ⟨_, rfl⟩
  obtain ⟨S, hS⟩ : ∃ S, rqS s x.f1 x.f4 x.f5.f0 x.f5.f1 x.f5.f2 x.f5.f3 = S := ⟨_, rfl⟩
  rw [hA, hB, hM, hE] at hV
  rw [hA, hB, hM, hE, hS]
  have E0 := Aside0.mk hV
  have E1 := Aside0.mk hS
  clear hs h0 h1 h2 hA hB hM hE hS hV
  go_enter Try.func16, Try.ntmps16
  go_wp2_with (first
    | (go_at_call 12; refine (Req_eq (by repeat (with_reducible first | exact (sl_box HS.out #[.int .i64 0, .int .i64 0, .int .i64 0, .int .i64 0] 42) | apply sl_drewN | apply sl_drew)) 0 x.f1 x.f4 x.f5.f0 x.f5.f1 x.f5.f2 x.f5.f3 E0.out E1.out (by rfl)).mono ?_; rintro e w1 ⟨rfl, hs⟩; (try simp only [World.size_alloc] at hs); replace HS := Aside0.mk hs; clear hs; have q0 := c_at HS.out 3 rfl 0 rfl; have q1 := c_at HS.out 3 rfl 1 rfl; have q2 := c_at HS.out 3 rfl 2 rfl; have q3 := c_at HS.out 3 rfl 3 rfl; have f0 := f_at HS.out 3 rfl 0; have f1 := f_at HS.out 3 rfl 1; have f2 := f_at HS.out 3 rfl 2; have f3 := f_at HS.out 3 rfl 3; have hl1 := blk_lt (sl_blk HS.out 3 rfl)))
  have hs := sl_put (sl_put (sl_put (sl_put HS.out 3 rfl 0 (.int .i64 A)) 3 rfl 1 (.int .i64 B)) 3 rfl 2 (.int .i64 M)) 3 rfl 3 (.int .i64 E)
  refine bodyPost_ret (results_cell_row rfl _ _ (w.heap.size + 1) 42 #[.int .i64 A, .int .i64 B, .int .i64 M, .int .i64 E] (0, 0) _ (by rfl) (by exact sl_blk hs 3 rfl) (by exact Try.underlying42) (by rfl) (by kernel_rfl)) rfl ?_
  exact ⟨rfl, sl_take hs 2⟩
theorem call_3 (g : Nat) (s : WSt) (x : S46) (h0 : x.f0 ≠ 0) (h1 : x.f0 ≠ 1) (h2 : x.f0 ≠ 2) (h3 : x.f0 = 3) (hs : SL w0 w [winR g s, R]) : Calls Try.prog 16 #[.pointer (some ⟨g, 0, none⟩), ag46 x] w fun e w' => e = .returned (.agg #[.int .i64 (rszA s x.f1 x.f2 x.f3), .int .i64 (rszB s x.f1 x.f2 x.f3), .int .i64 0, .int .i64 (rszE s x.f1 x.f2 x.f3)]) ∧ SL w0 w' [winR g (rszS s x.f1 x.f2 x.f3), R] := by
  have HS := Aside0.mk (sl_box hs (cs46 x) 46)
  have d0 : (x.f0 == 0) = false := beq_eq_false_iff_ne.2 h0
  have d1 : (x.f0 == 1) = false := beq_eq_false_iff_ne.2 h1
  have d2 : (x.f0 == 2) = false := beq_eq_false_iff_ne.2 h2
  have d3 : (x.f0 == 3) = true := beq_iff_eq.2 h3
  obtain ⟨A, hA⟩ : ∃ z, rszA s x.f1 x.f2 x.f3 = z := ⟨_, rfl⟩
  obtain ⟨B, hB⟩ : ∃ z, rszB s x.f1 x.f2 x.f3 = z := ⟨_, rfl⟩
  obtain ⟨E, hE⟩ : ∃ z, rszE s x.f1 x.f2 x.f3 = z := ⟨_, rfl⟩
  obtain ⟨S, hS⟩ : ∃ S, rszS s x.f1 x.f2 x.f3 = S := ⟨_, rfl⟩
  rw [hA, hB, hE, hS]
  have E0 := Aside0.mk hA
  have E1 := Aside0.mk hB
  have E2 := Aside0.mk hE
  have E3 := Aside0.mk hS
  clear hs h0 h1 h2 h3 hA hB hE hS
  go_enter Try.func16, Try.ntmps16
  go_wp2_with (first
    | (go_at_call 10; refine (Rsz_eq (by repeat (with_reducible first | exact (sl_box HS.out #[.int .i64 0, .int .i64 0, .int .i64 0, .int .i64 0] 42) | apply sl_drewN | apply sl_drew)) 0 x.f1 x.f2 x.f3 E0.out E1.out E2.out E3.out (by rfl)).mono ?_; rintro e w1 ⟨rfl, hs⟩; (try simp only [World.size_alloc] at hs); replace HS := Aside0.mk hs; clear hs; have q0 := c_at HS.out 3 rfl 0 rfl; have q1 := c_at HS.out 3 rfl 1 rfl; have q2 := c_at HS.out 3 rfl 2 rfl; have q3 := c_at HS.out 3 rfl 3 rfl; have f0 := f_at HS.out 3 rfl 0; have f1 := f_at HS.out 3 rfl 1; have f2 := f_at HS.out 3 rfl 2; have f3 := f_at HS.out 3 rfl 3; have hl1 := blk_lt (sl_blk HS.out 3 rfl)))
  have hs := sl_put (sl_put (sl_put (sl_put HS.out 3 rfl 0 (.int .i64 A)) 3 rfl 1 (.int .i64 B)) 3 rfl 2 (.int .i64 0)) 3 rfl 3 (.int .i64 E)
  refine bodyPost_ret (results_cell_row rfl _ _ (w.heap.size + 1) 42 #[.int .i64 A, .int .i64 B, .int .i64 0, .int .i64 E] (0, 0) _ (by rfl) (by exact sl_blk hs 3 rfl) (by exact Try.underlying42) (by rfl) (by kernel_rfl)) rfl ?_
  exact ⟨rfl, sl_take hs 2⟩
theorem call_4 (g : Nat) (s : WSt) (x : S46) (h0 : x.f0 ≠ 0) (h1 : x.f0 ≠ 1) (h2 : x.f0 ≠ 2) (h3 : x.f0 ≠ 3) (h4 : x.f0 = 4) (hs : SL w0 w [winR g s, R]) : Calls Try.prog 16 #[.pointer (some ⟨g, 0, none⟩), ag46 x] w fun e w' => e = .returned (.agg #[.int .i64 0, .int .i64 0, .int .i64 0, .int .i64 (titE x.f6)]) ∧ SL w0 w' [winR g (s), R] := by
  have HS := Aside0.mk (sl_box hs (cs46 x) 46)
  have d0 : (x.f0 == 0) = false := beq_eq_false_iff_ne.2 h0
  have d1 : (x.f0 == 1) = false := beq_eq_false_iff_ne.2 h1
  have d2 : (x.f0 == 2) = false := beq_eq_false_iff_ne.2 h2
  have d3 : (x.f0 == 3) = false := beq_eq_false_iff_ne.2 h3
  have d4 : (x.f0 == 4) = true := beq_iff_eq.2 h4
  obtain ⟨E, hE⟩ : ∃ z, titE x.f6 = z := ⟨_, rfl⟩
  rw [hE]
  have E0 := Aside0.mk hE
  clear hs h0 h1 h2 h3 h4 hE
  go_enter Try.func16, Try.ntmps16
  go_wp2_with (first
    | (go_at_call 36; refine (Tit_eq (by repeat (with_reducible first | exact (sl_box HS.out #[.int .i64 0, .int .i64 0, .int .i64 0, .int .i64 0] 42) | apply sl_drewN | apply sl_drew)) 0 x.f6 E0.out (by rfl)).mono ?_; rintro e w1 ⟨rfl, hs⟩; (try simp only [World.size_alloc] at hs); replace HS := Aside0.mk hs; clear hs; have q0 := c_at HS.out 3 rfl 0 rfl; have q1 := c_at HS.out 3 rfl 1 rfl; have q2 := c_at HS.out 3 rfl 2 rfl; have q3 := c_at HS.out 3 rfl 3 rfl; have f0 := f_at HS.out 3 rfl 0; have f1 := f_at HS.out 3 rfl 1; have f2 := f_at HS.out 3 rfl 2; have f3 := f_at HS.out 3 rfl 3; have hl1 := blk_lt (sl_blk HS.out 3 rfl)))
  have hs := sl_put (sl_put (sl_put (sl_put HS.out 3 rfl 0 (.int .i64 0)) 3 rfl 1 (.int .i64 0)) 3 rfl 2 (.int .i64 0)) 3 rfl 3 (.int .i64 E)
  refine bodyPost_ret (results_cell_row rfl _ _ (w.heap.size + 1) 42 #[.int .i64 0, .int .i64 0, .int .i64 0, .int .i64 E] (0, 0) _ (by rfl) (by exact sl_blk hs 3 rfl) (by exact Try.underlying42) (by rfl) (by kernel_rfl)) rfl ?_
  exact ⟨rfl, sl_take hs 2⟩
theorem call_5 (g : Nat) (s : WSt) (x : S46) (h0 : x.f0 ≠ 0) (h1 : x.f0 ≠ 1) (h2 : x.f0 ≠ 2) (h3 : x.f0 ≠ 3) (h4 : x.f0 ≠ 4) (hs : SL w0 w [winR g s, R]) : Calls Try.prog 16 #[.pointer (some ⟨g, 0, none⟩), ag46 x] w fun e w' => e = .returned (.agg #[.int .i64 0, .int .i64 0, .int .i64 0, .int .i64 (accE s x.f2 x.f3)]) ∧ SL w0 w' [winR g (accS s x.f2 x.f3), R] := by
  have HS := Aside0.mk (sl_box hs (cs46 x) 46)
  have d0 : (x.f0 == 0) = false := beq_eq_false_iff_ne.2 h0
  have d1 : (x.f0 == 1) = false := beq_eq_false_iff_ne.2 h1
  have d2 : (x.f0 == 2) = false := beq_eq_false_iff_ne.2 h2
  have d3 : (x.f0 == 3) = false := beq_eq_false_iff_ne.2 h3
  have d4 : (x.f0 == 4) = false := beq_eq_false_iff_ne.2 h4
  obtain ⟨E, hE⟩ : ∃ z, accE s x.f2 x.f3 = z := ⟨_, rfl⟩
  obtain ⟨S, hS⟩ : ∃ S, accS s x.f2 x.f3 = S := ⟨_, rfl⟩
  rw [hE, hS]
  have E0 := Aside0.mk hE
  have E1 := Aside0.mk hS
  clear hs h0 h1 h2 h3 h4 hE hS
  go_enter Try.func16, Try.ntmps16
  go_wp2_with (first
    | (go_at_call 11; refine (Acc_eq (by repeat (with_reducible first | exact (sl_box HS.out #[.int .i64 0, .int .i64 0, .int .i64 0, .int .i64 0] 42) | apply sl_drewN | apply sl_drew)) 0 x.f2 x.f3 E0.out E1.out (by rfl)).mono ?_; rintro e w1 ⟨rfl, hs⟩; (try simp only [World.size_alloc] at hs); replace HS := Aside0.mk hs; clear hs; have q0 := c_at HS.out 3 rfl 0 rfl; have q1 := c_at HS.out 3 rfl 1 rfl; have q2 := c_at HS.out 3 rfl 2 rfl; have q3 := c_at HS.out 3 rfl 3 rfl; have f0 := f_at HS.out 3 rfl 0; have f1 := f_at HS.out 3 rfl 1; have f2 := f_at HS.out 3 rfl 2; have f3 := f_at HS.out 3 rfl 3; have hl1 := blk_lt (sl_blk HS.out 3 rfl)))
  have hs := sl_put (sl_put (sl_put (sl_put HS.out 3 rfl 0 (.int .i64 0)) 3 rfl 1 (.int .i64 0)) 3 rfl 2 (.int .i64 0)) 3 rfl 3 (.int .i64 E)
  refine bodyPost_ret (results_cell_row rfl _ _ (w.heap.size + 1) 42 #[.int .i64 0, .int .i64 0, .int .i64 0, .int .i64 E] (0, 0) _ (by rfl) (by exact sl_blk hs 3 rfl) (by exact Try.underlying42) (by rfl) (by kernel_rfl)) rfl ?_
  exact ⟨rfl, sl_take hs 2⟩
end
end Go.Proofs.Ytckpgccbhaejgaa.Q
