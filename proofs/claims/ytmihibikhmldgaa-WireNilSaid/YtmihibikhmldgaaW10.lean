import Derived.Test.YtmihibikhmldgaaW9
namespace Go.Proofs.Ytmihibikhmldgaa.Q
open Go.RowKit Go.Proofs.YtmihibikhmldgaaW.PrintWords Go.Proofs.YtmihibikhmldgaaW.PrintLast Go.Proofs.YtmihibikhmldgaaW.PrintMore Go.Proofs.Ytmihibikhmldgaa.Sl Go.Proofs.Ytmihibikhmldgaa.Hand 
attribute [local go_sem] max2_int min2_int max_two min_two max_three min_three max_four min_four 
set_option linter.unusedVariables false
set_option linter.unusedSimpArgs false

/-! ### Array -/
def needN (s : RSt) : Int := uintV s + padN (uintV s)
/-- The bytes behind the value are zero. -/
def cleanB (s : RSt) : Bool := (((uintS s).u.take (needN s).toNat).drop (uintV s).toNat).all (· == 0)
def arrOk (s : RSt) (most : Int) : Prop := (uintS s).er = 0 ∧ uintV s ≤ mx most 0 ∧ needN s ≤ (uintS s).u.length ∧ cleanB s = true
def arrV (s : RSt) (most : Int) : List Int :=
  if (uintS s).er ≠ 0 then [] else if mx most 0 < uintV s then [] else if ((uintS s).u.length : Int) < needN s then [] else if cleanB s then (uintS s).u.take (uintV s).toNat else []
def arrS (s : RSt) (most : Int) : RSt :=
  if (uintS s).er ≠ 0 then uintS s else if mx most 0 < uintV s then ⟨[], 5⟩ else if ((uintS s).u.length : Int) < needN s then ⟨[], 4⟩ else if cleanB s then ⟨(uintS s).u.drop (needN s).toNat, 0⟩ else ⟨[], 3⟩
theorem rd_blk {w0 w : World} {R : Res} {g : Nat} {s : RSt} (h : SL w0 w [rdS g s, R]) : ∃ v, w.heap[g]? = some (.cells #[v, .int .i64 s.er, .bool true] 68 (0, 0)) := by
  obtain ⟨A, c, _, _, hs⟩ := rd_open h 0 rfl
  exact ⟨_, sl_blk hs 0 rfl⟩
theorem usable_in {w0 w : World} {R : Res} {g : Nat} {s : RSt} (h : SL w0 w [rdS g s, R]) : Calls Try.prog 44 #[.pointer (some ⟨g, 0, none⟩)] w fun e w' => e = .returned (.bool (s.er == 0)) ∧ SL w0 w' [rdS g s, R] := by
  obtain ⟨v, hb⟩ := rd_blk h
  refine (usable_c g v s.er w hb).mono ?_
  rintro e w' ⟨h1, n, rfl⟩
  exact ⟨h1, sl_drewN h n⟩
set_option maxHeartbeats 2000000 in
set_option maxRecDepth 100000 in
theorem Array_e1 {w0 w : World} {R : Res} (g : Nat) (s : RSt) (most : Int) (hs : SL w0 w [rdS g s, R]) (he : (uintS s).er ≠ 0) : Calls Try.prog 26 #[.pointer (some ⟨g, 0, none⟩), .int .i64 most] w fun e w' => e = .returned (.slice none 0 0) ∧ SL w0 w' [rdS g (uintS s), R] := by
  have HS := Aside0.mk hs
  have bz : ((uintS s).er == 0) = false := beq_eq_false_iff_ne.2 he
  clear hs he
  go_enter Try.func26, Try.ntmps26
  go_wp2_with (first
    | (go_at_call 20; refine (Uint_in g s (by repeat (with_reducible first | exact HS.out | apply sl_drewN | apply sl_drew | apply sl_alloc))).mono ?_; rintro e w1 ⟨rfl, hs⟩; replace HS := Aside0.mk hs; clear hs)
    | (go_at_call 44; refine (usable_in (by repeat (with_reducible first | exact HS.out | apply sl_drewN | apply sl_drew | apply sl_alloc))).mono ?_; rintro e w2 ⟨rfl, hs⟩; replace HS := Aside0.mk hs; clear hs))
  try rw [Exit.noGoto_ret]
  go_ret
  exact ⟨rfl, HS.out⟩
set_option maxHeartbeats 2000000 in
set_option maxRecDepth 100000 in
theorem Array_e2 {w0 w : World} {R : Res} (g : Nat) (s : RSt) (most : Int) (hs : SL w0 w [rdS g s, R]) (he : (uintS s).er = 0) (hm : mx most 0 < uintV s) (h0 : 0 ≤ uintV s) (h1 : uintV s < 4294967296) : Calls Try.prog 26 #[.pointer (some ⟨g, 0, none⟩), .int .i64 most] w fun e w' => e = .returned (.slice none 0 0) ∧ SL w0 w' [rdS g ⟨[], 5⟩, R] := by
  have HS := Aside0.mk hs
  have bz : ((uintS s).er == 0) = true := beq_iff_eq.2 he
  have b2 : decide (mx most 0 < uintV s) = true := decide_eq_true hm
  obtain ⟨n, hn⟩ : ∃ n, uintV s = n := ⟨_, rfl⟩
  have HN := Aside0.mk hn
  rw [hn] at hm h0 h1 b2
  have hmm : most < n ∧ 0 < n := by unfold mx at hm; split at hm <;> omega
  obtain ⟨hm1, hm2⟩ := hmm
  have b3 : decide (most < n) = true := decide_eq_true hm1
  have b4 : decide (0 < n) = true := decide_eq_true hm2
  clear hs he hn
  go_enter Try.func26, Try.ntmps26
  go_wp2_with (first
    | (go_at_call 20; refine (Uint_in g s (by repeat (with_reducible first | exact HS.out | apply sl_drewN | apply sl_drew | apply sl_alloc))).mono ?_; rw [HN.out]; rintro e w1 ⟨rfl, hs⟩; replace HS := Aside0.mk hs; clear hs)
    | (go_at_call 44; refine (usable_in (by repeat (with_reducible first | exact HS.out | apply sl_drewN | apply sl_drew | apply sl_alloc))).mono ?_; rintro e w2 ⟨rfl, hs⟩; replace HS := Aside0.mk hs; clear hs)
    | (go_at_call 46; refine (fail_in g _ _ 5 (by repeat (with_reducible first | exact HS.out | apply sl_drewN | apply sl_drew | apply sl_alloc))).mono ?_; rintro e w3 ⟨rfl, hs⟩; replace HS := Aside0.mk hs; clear hs))
  all_goals
    try rw [Exit.noGoto_ret]
    go_ret
    exact ⟨rfl, HS.out⟩
end Go.Proofs.Ytmihibikhmldgaa.Q
