import Derived.WalkSpells
import Derived.Test.YtmihibikhmldgaaWa
namespace Go.Proofs.Ytmihibikhmldgaa.Q
open Go.RowKit Go.Proofs.YtmihibikhmldgaaW.PrintWords Go.Proofs.YtmihibikhmldgaaW.PrintLast Go.Proofs.YtmihibikhmldgaaW.PrintMore Go.Proofs.Ytmihibikhmldgaa.Sl Go.Proofs.Ytmihibikhmldgaa.Hand 
attribute [local go_sem] max2_int min2_int max_two min_two max_three min_three max_four min_four 
set_option linter.unusedVariables false
set_option linter.unusedSimpArgs false

/-! ### Array -/
def needN (s : RSt) : Int := uintV s + padN (uintV s)
/-- The bytes behind the value are zero. -/
def cleanB (s : RSt) : Bool := (((uintS s).u.take (needN s).toNat).drop (uintV s).toNat).all (· == 0)
def arrOk (s : RSt) (most : Int) : Prop := (uintS s).er = 0 ∧ uintV s ≤ mx most 0 ∧ needN s ≤ (uintS s).u.length ∧ cleanB s = true
def arrV (s : RSt) (most : Int) : List Int :=
  if (uintS s).er ≠ 0 then [] else if mx most 0 < uintV s then [] else if ((uintS s).u.length : Int) < needN s then [] else if cleanB s then (uintS s).u.take (uintV s).toNat else []
def arrS (s : RSt) (most : Int) : RSt :=
  if (uintS s).er ≠ 0 then uintS s else if mx most 0 < uintV s then ⟨[], 5⟩ else if ((uintS s).u.length : Int) < needN s then ⟨[], 4⟩ else if cleanB s then ⟨(uintS s).u.drop (needN s).toNat, 0⟩ else ⟨[], 3⟩
theorem rd_blk {w0 w : World} {R : Res} {g : Nat} {s : RSt} (h : SL w0 w [rdS g s, R]) : ∃ v, w.heap[g]? = some (.cells #[v, .int .i64 s.er, .bool true] 68 (0, 0)) := by
  obtain ⟨A, c, _, _, hs⟩ := rd_open h 0 rfl
  exact ⟨_, sl_blk hs 0 rfl⟩
theorem usable_in {w0 w : World} {R : Res} {g : Nat} {s : RSt} (h : SL w0 w [rdS g s, R]) : Calls Try.prog 44 #[.pointer (some ⟨g, 0, none⟩)] w fun e w' => e = .returned (.bool (s.er == 0)) ∧ SL w0 w' [rdS g s, R] := by
  obtain ⟨v, hb⟩ := rd_blk h
  refine (usable_c g v s.er w hb).mono ?_
  rintro e w' ⟨h1, n, rfl⟩
  exact ⟨h1, sl_drewN h n⟩
set_option maxHeartbeats 2000000 in
set_option maxRecDepth 100000 in
theorem Array_e1 {w0 w : World} {R : Res} (g : Nat) (s : RSt) (most : Int) (hs : SL w0 w [rdS g s, R]) (he : (uintS s).er ≠ 0) : Calls Try.prog 26 #[.pointer (some ⟨g, 0, none⟩), .int .i64 most] w fun e w' => e = .returned (.slice none 0 0) ∧ SL w0 w' [rdS g (uintS s), R] := by
  have HS := Aside0.mk hs
  have bz : ((uintS s).er == 0) = false := beq_eq_false_iff_ne.2 he
  clear hs he
  go_enter Try.func26, Try.ntmps26
  go_wp2_with (first
    | (go_at_call 20; refine (Uint_in g s (by repeat (with_reducible first | exact HS.out | apply sl_drewN | apply sl_drew | apply sl_alloc))).mono ?_; rintro e w1 ⟨rfl, hs⟩; replace HS := Aside0.mk hs; clear hs)
    | (go_at_call 44; refine (usable_in (by repeat (with_reducible first | exact HS.out | apply sl_drewN | apply sl_drew | apply sl_alloc))).mono ?_; rintro e w2 ⟨rfl, hs⟩; replace HS := Aside0.mk hs; clear hs))
  try rw [Exit.noGoto_ret]
  go_ret
  exact ⟨rfl, HS.out⟩
set_option maxHeartbeats 2000000 in
set_option maxRecDepth 100000 in
theorem Array_e2 {w0 w : World} {R : Res} (g : Nat) (s : RSt) (most : Int) (hs : SL w0 w [rdS g s, R]) (he : (uintS s).er = 0) (hm : mx most 0 < uintV s) (h0 : 0 ≤ uintV s) (h1 : uintV s < 4294967296) : Calls Try.prog 26 #[.pointer (some ⟨g, 0, none⟩), .int .i64 most] w fun e w' => e = .returned (.slice none 0 0) ∧ SL w0 w' [rdS g ⟨[], 5⟩, R] := by
  have HS := Aside0.mk hs
  have bz : ((uintS s).er == 0) = true := beq_iff_eq.2 he
  have b2 : decide (mx most 0 < uintV s) = true := decide_eq_true hm
  obtain ⟨n, hn⟩ : ∃ n, uintV s = n := ⟨_, rfl⟩
  have HN := Aside0.mk hn
  rw [hn] at hm h0 h1 b2
  have hmm : most < n ∧ 0 < n := by unfold mx at hm; split at hm <;> omega
  obtain ⟨hm1, hm2⟩ := hmm
  have b3 : decide (most < n) = true := decide_eq_true hm1
  have b4 : decide (0 < n) = true := decide_eq_true hm2
  clear hs he hn
  go_enter Try.func26, Try.ntmps26
  go_wp2_with (first
    | (go_at_call 20; refine (Uint_in g s (by repeat (with_reducible first | exact HS.out | apply sl_drewN | apply sl_drew | apply sl_alloc))).mono ?_; rw [HN.out]; rintro e w1 ⟨rfl, hs⟩; replace HS := Aside0.mk hs; clear hs)
    | (go_at_call 44; refine (usable_in (by repeat (with_reducible first | exact HS.out | apply sl_drewN | apply sl_drew | apply sl_alloc))).mono ?_; rintro e w2 ⟨rfl, hs⟩; replace HS := Aside0.mk hs; clear hs)
    | (go_at_call 46; refine (fail_in g _ _ 5 (by repeat (with_reducible first | exact HS.out | apply sl_drewN | apply sl_drew | apply sl_alloc))).mono ?_; rintro e w3 ⟨rfl, hs⟩; replace HS := Aside0.mk hs; clear hs))
  all_goals
    try rw [Exit.noGoto_ret]
    go_ret
    exact ⟨rfl, HS.out⟩
theorem padding_i (n : Int) (w : World) (h0 : 0 ≤ n) (h1 : n < 4294967296) : Calls Try.prog 49 #[.int .i64 n] w fun e w' => e = .returned (.int .i64 (padN n)) ∧ w = w' := by
  obtain ⟨m, rfl⟩ : ∃ m : Nat, n = (m : Int) := ⟨n.toNat, by omega⟩
  go_enter Try.func49, Try.ntmps49
  go_wp2
  go_ret
  exact ⟨rfl, rfl⟩
set_option maxHeartbeats 2000000 in
set_option maxRecDepth 100000 in
theorem Array_e3 {w0 w : World} {R : Res} (g : Nat) (s : RSt) (most : Int) (hs : SL w0 w [rdS g s, R]) (he : (uintS s).er = 0) (hm : uintV s ≤ mx most 0) (h0 : 0 ≤ uintV s) (h1 : uintV s < 4294967296) (hl : ((uintS s).u.length : Int) < needN s) : Calls Try.prog 26 #[.pointer (some ⟨g, 0, none⟩), .int .i64 most] w fun e w' => e = .returned (.slice none 0 0) ∧ SL w0 w' [rdS g ⟨[], 4⟩, R] := by
  have HS := Aside0.mk hs
  have hnil := fun (w : World) (a : Option Addr) (n c : Nat) => Lib.run_eql_slice_nil (P := Try.prog) w 22 5 a n c 0 0 Try.underlying22
  have bz : ((uintS s).er == 0) = true := beq_iff_eq.2 he
  unfold needN at hl
  obtain ⟨n, hn⟩ : ∃ n, uintV s = n := ⟨_, rfl⟩
  have HN := Aside0.mk hn
  rw [hn] at hm h0 h1 hl
  have HL := Aside0.mk hl
  obtain ⟨p, hp⟩ : ∃ p, padN n = p := ⟨_, rfl⟩
  have hp3 : 0 ≤ p ∧ p ≤ 3 := by rw [← hp]; unfold padN; omega
  obtain ⟨p0, p3⟩ := hp3
  have HPd := Aside0.mk hp
  rw [hp] at HL
  have HB := Aside0.mk (And.intro h0 h1)
  have hw : wrap64 (n + p) = n + p := by unfold wrap64; omega
  have HLw := Aside0.mk (show ((uintS s).u.length : Int) < wrap64 (n + padN n) by rw [hp, hw]; exact HL.out)
  clear hw
  by_cases hq : most < 0
  · have hn0 : n = 0 := by unfold mx at hm; split at hm <;> omega
    rw [hn0, show padN 0 = 0 from rfl] at hl
    omega
  · have hmn : n ≤ most := by unfold mx at hm; split at hm <;> omega
    have b3 : decide (most < n) = false := decide_eq_false (by omega)
    have b4 : decide (0 < n) = decide (0 < n) := rfl
    clear hs he hn hp hl hm
    go_enter Try.func26, Try.ntmps26
    go_upto_region 7 with (first
      | (go_at_call 20; refine (Uint_in g s (by repeat (with_reducible first | exact HS.out | apply sl_drewN | apply sl_drew | apply sl_alloc))).mono ?_; rw [HN.out]; rintro e w1 ⟨rfl, hs⟩; replace HS := Aside0.mk hs; clear hs)
      | (go_at_call 44; refine (usable_in (by repeat (with_reducible first | exact HS.out | apply sl_drewN | apply sl_drew | apply sl_alloc))).mono ?_; rintro e w2 ⟨rfl, hs⟩; replace HS := Aside0.mk hs; clear hs))
    refine start_ (n := 9) (S := fun w' => w'.heap.size = w'.heap.size) (ds := []) #[false, false, false, false, false, false, false, false, false] (by kernel_rfl) rfl rfl (rfl) (fun hHeld => ?_)
    refine pure_ (i := 0) (N := some 23) (v := ?_) (a' := ?_) #[true, false, false, false, false, false, false, false, false] rfl rfl (by kernel_rfl) (fun _ _ _ h => h) (Or.inl ⟨by rfl, ?_⟩) ?_ ?_
    rotate_left
    · intro w'
      go_simp
      with_reducible rfl
    rotate_left
    · simp only [Act.put, List.setIfInBounds_toArray, List.set_cons_zero, List.set_cons_succ, i64_w, i32_w, IntKind.wrap_u32, IntKind.wrap_u8, IntKind.wrap_u16]
      rfl
    refine pure_ (i := 1) (N := some 24) (v := ?_) (a' := ?_) #[true, true, false, false, false, false, false, false, false] rfl rfl (by kernel_rfl) (fun _ _ _ h => h) (Or.inl ⟨by rfl, ?_⟩) ?_ ?_
    rotate_left
    · intro w'
      go_simp
      with_reducible rfl
    rotate_left
    · simp only [Act.put, List.setIfInBounds_toArray, List.set_cons_zero, List.set_cons_succ, i64_w, i32_w, IntKind.wrap_u32, IntKind.wrap_u8, IntKind.wrap_u16]
      rfl
    refine pure_ (i := 2) (N := some 25) (v := ?_) (a' := ?_) #[true, true, true, false, false, false, false, false, false] rfl rfl (by kernel_rfl) (fun _ _ _ h => h) (Or.inl ⟨by rfl, ?_⟩) ?_ ?_
    rotate_left
    · intro w'
      go_simp
      with_reducible rfl
    rotate_left
    · simp only [Act.put, List.setIfInBounds_toArray, List.set_cons_zero, List.set_cons_succ, i64_w, i32_w, IntKind.wrap_u32, IntKind.wrap_u8, IntKind.wrap_u16]
      rfl
    refine pure_ (i := 3) (N := some 26) (v := ?_) (a' := ?_) #[true, true, true, true, false, false, false, false, false] rfl rfl (by kernel_rfl) (fun _ _ _ h => h) (Or.inl ⟨by rfl, ?_⟩) ?_ ?_
    rotate_left
    · intro w'
      go_simp
      with_reducible rfl
    rotate_left
    · simp only [Act.put, List.setIfInBounds_toArray, List.set_cons_zero, List.set_cons_succ, i64_w, i32_w, IntKind.wrap_u32, IntKind.wrap_u8, IntKind.wrap_u16]
      rfl
    refine pure_ (i := 4) (N := some 27) (v := ?_) (a' := ?_) #[true, true, true, true, true, false, false, false, false] rfl rfl (by kernel_rfl) (fun _ _ _ h => h) (Or.inl ⟨by rfl, ?_⟩) ?_ ?_
    rotate_left
    · intro w'
      go_simp
      with_reducible rfl
    rotate_left
    · simp only [Act.put, List.setIfInBounds_toArray, List.set_cons_zero, List.set_cons_succ, i64_w, i32_w, IntKind.wrap_u32, IntKind.wrap_u8, IntKind.wrap_u16]
      rfl
    refine one_ (i := 5) (N := some 28) #[true, true, true, true, true, true, false, false, false] rfl rfl (by kernel_rfl) (by decide) (fun K hK => ?_)
    refine goes_ Try.func49 (by kernel_rfl) rfl #[.int .i64 n] (by rfl) rfl rfl (by (try simp only [List.map_toArray, List.map_cons, List.map_nil]); first | done | rfl) ?_
    with_reducible refine (padding_i n _ HB.out.1 HB.out.2).mono ?_
    rintro e w3 ⟨rfl, rfl⟩
    refine ⟨_, rfl, ?_⟩
    refine hK.out _ _ (rfl) (fun hHeld => ?_)
    clear hK K
    refine norm_ (a' := ?_) ?_ ?_
    rotate_left
    · show Act.put _ (some 28) _ = _
      simp only [Act.put, List.setIfInBounds_toArray, List.set_cons_zero, List.set_cons_succ, i64_w, i32_w, IntKind.wrap_u32, IntKind.wrap_u8, IntKind.wrap_u16]
      rfl
    refine pure_ (i := 6) (N := some 29) (v := ?_) (a' := ?_) #[true, true, true, true, true, true, true, false, false] rfl rfl (by kernel_rfl) (fun _ _ _ h => h) (Or.inl ⟨by rfl, ?_⟩) ?_ ?_
    rotate_left
    · intro w'
      go_simp
      with_reducible rfl
    rotate_left
    · simp only [Act.put, List.setIfInBounds_toArray, List.set_cons_zero, List.set_cons_succ, i64_w, i32_w, IntKind.wrap_u32, IntKind.wrap_u8, IntKind.wrap_u16]
      rfl
    refine one_ (i := 7) (N := some 30) #[true, true, true, true, true, true, true, true, false] rfl rfl (by kernel_rfl) (by decide) (fun K hK => ?_)
    refine goes_ Try.func45 (by kernel_rfl) rfl #[.pointer (some ⟨g, 0, none⟩), .int .i64 (wrap64 (n + padN n))] (by rfl) rfl rfl (by (try simp only [List.map_toArray, List.map_cons, List.map_nil]); first | done | rfl) ?_
    with_reducible refine (take_no g _ _ (wrap64 (n + padN n)) (sl_drew HS.out) HLw.out).mono ?_
    rintro e w4 ⟨rfl, hs4⟩
    refine ⟨_, rfl, ?_⟩
    refine hK.out _ _ (rfl) (fun hHeld => ?_)
    clear hK K
    refine norm_ (a' := ?_) ?_ ?_
    rotate_left
    · show Act.put _ (some 30) _ = _
      simp only [Act.put, List.setIfInBounds_toArray, List.set_cons_zero, List.set_cons_succ, i64_w, i32_w, IntKind.wrap_u32, IntKind.wrap_u8, IntKind.wrap_u16]
      rfl
    refine pure_ (i := 8) (N := some 6) (v := ?_) (a' := ?_) #[true, true, true, true, true, true, true, true, true] rfl rfl (by kernel_rfl) (fun _ _ _ h => h) (Or.inl ⟨by rfl, ?_⟩) ?_ ?_
    rotate_left
    · intro w'
      go_simp
      with_reducible rfl
    rotate_left
    · simp only [Act.put, List.setIfInBounds_toArray, List.set_cons_zero, List.set_cons_succ, i64_w, i32_w, IntKind.wrap_u32, IntKind.wrap_u8, IntKind.wrap_u16]
      rfl
    refine done_ (by kernel_rfl) ?_
    go_wp2_with (fail)
    try rw [Exit.noGoto_ret]
    go_ret
    exact ⟨rfl, hs4⟩
theorem zero_at {u : List Int} {n N : Nat} (h : ((u.take N).drop n).all (· == 0) = true) {i : Nat} (hi : n + i < N) (hN : N ≤ u.length) : rd u ((n + i : Nat) : Int) = 0 := by
  rw [List.all_eq_true] at h
  have h1 : ((u.take N).drop n)[i]? = some (rd u ((n + i : Nat) : Int)) := by
    rw [List.getElem?_drop, List.getElem?_take, if_pos hi]
    unfold rd
    rw [Int.toNat_natCast, List.getD_eq_getElem?_getD, List.getElem?_eq_getElem (by omega)]
    rfl
  have := h _ (List.mem_of_getElem? h1)
  simpa using this
theorem clean_of {u : List Int} {n N : Nat} (hN : N ≤ u.length) (h : ∀ i, n + i < N → rd u ((n + i : Nat) : Int) = 0) : ((u.take N).drop n).all (· == 0) = true := by
  rw [List.all_eq_true]
  intro x hx
  obtain ⟨i, hi⟩ := List.getElem?_of_mem hx
  rw [List.getElem?_drop, List.getElem?_take] at hi
  split at hi
  · rename_i hlt
    have := h i hlt
    unfold rd at this
    rw [Int.toNat_natCast, List.getD_eq_getElem?_getD, hi] at this
    simpa using this
  · cases hi
set_option maxHeartbeats 4000000 in
set_option maxRecDepth 100000 in
theorem Array_e4 {w0 w : World} {R : Res} (g : Nat) (s : RSt) (most : Int) (hs : SL w0 w [rdS g s, R]) (u : List Int) (hS : uintS s = ⟨u, 0⟩) (n p : Nat) (hn : uintV s = (n : Int)) (hp : padN (n : Int) = (p : Int)) (n0 : 0 < n) (p3 : p ≤ 3) (n1 : n < 4294967296) (hm : (n : Int) ≤ most) (hl : n + p ≤ u.length) (hu : u.length ≤ 1000000) :
    Calls Try.prog 26 #[.pointer (some ⟨g, 0, none⟩), .int .i64 most] w fun e w' => (((u.take (n + p)).drop n).all (· == 0) = true ∧ ∃ A c, e = .returned (.slice A n c) ∧ SL w0 w' [rdR g (u.drop (n + p)) 0, R, row8 (.slice A n c) (u.take n)]) ∨ (((u.take (n + p)).drop n).all (· == 0) = false ∧ e = .returned (.slice none 0 0) ∧ SL w0 w' [rdR g [] 3, R]) := by
  have HS := Aside0.mk hs
  have hnil := fun (w : World) (a : Option Addr) (n c : Nat) => Lib.run_eql_slice_nil (P := Try.prog) w 22 5 a n c 0 0 Try.underlying22
  have HE := Aside0.mk hS
  have HN := Aside0.mk hn
  have hw : wrap64 ((n : Int) + padN (n : Int)) = ((n + p : Nat) : Int) := by rw [hp]; unfold wrap64; omega
  have HP := Aside0.mk (show padN (n : Int) = (p : Int) from hp)
  have HB := Aside0.mk (show (0 : Int) ≤ (n : Int) ∧ (n : Int) < 4294967296 by omega)
  have HT := Aside0.mk (show ∀ {w' : World}, SL w0 w' [rdR g u 0, R] → Calls Try.prog 45 #[.pointer (some ⟨g, 0, none⟩), .int .i64 (wrap64 ((n : Int) + padN (n : Int)))] w' fun e w'' => ∃ ad, e = .returned (.slice (some ad) (n + p) (n + p)) ∧ SL w0 w'' [rdR g (u.drop (n + p)) 0, R] ∧ Kd.C (Kd.int .u8) w'' (some ad) (n + p) (u.take (n + p)) from fun hs => by
    rw [hw]
    exact take_in g u 0 (n + p) hs hl (by omega))
  have HL := Aside0.mk hl
  have HU := Aside0.mk hu
  have bz : ((0 : Int) == 0) = true := rfl
  have b3 : decide (most < (n : Int)) = false := decide_eq_false (by omega)
  have b5 : ¬ most < 0 := by omega
  clear hs hS hn hp hw hl hu
  go_enter Try.func26, Try.ntmps26
  go_upto_region 7 with (first
    | (go_at_call 20; refine (Uint_in g s (by repeat (with_reducible first | exact HS.out | apply sl_drewN | apply sl_drew | apply sl_alloc))).mono ?_; rw [HN.out, HE.out]; rintro e w1 ⟨rfl, hs⟩; replace HS := Aside0.mk (show SL w0 w1 [rdR g u 0, R] from hs); clear hs)
    | (go_at_call 44; refine (usable_in (s := ⟨u, 0⟩) (by repeat (with_reducible first | exact HS.out | apply sl_drewN | apply sl_drew | apply sl_alloc))).mono ?_; rintro e w2 ⟨rfl, hs⟩; replace HS := Aside0.mk (show SL w0 w2 [rdR g u 0, R] from hs); clear hs))
  refine start_ (n := 9) (S := fun w' => w'.heap.size = w'.heap.size) (ds := []) #[false, false, false, false, false, false, false, false, false] (by kernel_rfl) rfl rfl (rfl) (fun hHeld => ?_)
  refine pure_ (i := 0) (N := some 23) (v := ?_) (a' := ?_) #[true, false, false, false, false, false, false, false, false] rfl rfl (by kernel_rfl) (fun _ _ _ h => h) (Or.inl ⟨by rfl, ?_⟩) ?_ ?_
  rotate_left
  · intro w'
    go_simp
    with_reducible rfl
  rotate_left
  · simp only [Act.put, List.setIfInBounds_toArray, List.set_cons_zero, List.set_cons_succ, i64_w, i32_w, IntKind.wrap_u32, IntKind.wrap_u8, IntKind.wrap_u16]
    rfl
  refine pure_ (i := 1) (N := some 24) (v := ?_) (a' := ?_) #[true, true, false, false, false, false, false, false, false] rfl rfl (by kernel_rfl) (fun _ _ _ h => h) (Or.inl ⟨by rfl, ?_⟩) ?_ ?_
  rotate_left
  · intro w'
    go_simp
    with_reducible rfl
  rotate_left
  · simp only [Act.put, List.setIfInBounds_toArray, List.set_cons_zero, List.set_cons_succ, i64_w, i32_w, IntKind.wrap_u32, IntKind.wrap_u8, IntKind.wrap_u16]
    rfl
  refine pure_ (i := 2) (N := some 25) (v := ?_) (a' := ?_) #[true, true, true, false, false, false, false, false, false] rfl rfl (by kernel_rfl) (fun _ _ _ h => h) (Or.inl ⟨by rfl, ?_⟩) ?_ ?_
  rotate_left
  · intro w'
    go_simp
    with_reducible rfl
  rotate_left
  · simp only [Act.put, List.setIfInBounds_toArray, List.set_cons_zero, List.set_cons_succ, i64_w, i32_w, IntKind.wrap_u32, IntKind.wrap_u8, IntKind.wrap_u16]
    rfl
  refine pure_ (i := 3) (N := some 26) (v := ?_) (a' := ?_) #[true, true, true, true, false, false, false, false, false] rfl rfl (by kernel_rfl) (fun _ _ _ h => h) (Or.inl ⟨by rfl, ?_⟩) ?_ ?_
  rotate_left
  · intro w'
    go_simp
    with_reducible rfl
  rotate_left
  · simp only [Act.put, List.setIfInBounds_toArray, List.set_cons_zero, List.set_cons_succ, i64_w, i32_w, IntKind.wrap_u32, IntKind.wrap_u8, IntKind.wrap_u16]
    rfl
  refine pure_ (i := 4) (N := some 27) (v := ?_) (a' := ?_) #[true, true, true, true, true, false, false, false, false] rfl rfl (by kernel_rfl) (fun _ _ _ h => h) (Or.inl ⟨by rfl, ?_⟩) ?_ ?_
  rotate_left
  · intro w'
    go_simp
    with_reducible rfl
  rotate_left
  · simp only [Act.put, List.setIfInBounds_toArray, List.set_cons_zero, List.set_cons_succ, i64_w, i32_w, IntKind.wrap_u32, IntKind.wrap_u8, IntKind.wrap_u16]
    rfl
  refine one_ (i := 5) (N := some 28) #[true, true, true, true, true, true, false, false, false] rfl rfl (by kernel_rfl) (by decide) (fun K hK => ?_)
  refine goes_ Try.func49 (by kernel_rfl) rfl #[.int .i64 (n : Int)] (by rfl) rfl rfl (by (try simp only [List.map_toArray, List.map_cons, List.map_nil]); first | done | rfl) ?_
  with_reducible refine (padding_i (n : Int) _ HB.out.1 HB.out.2).mono ?_
  rintro e w3 ⟨rfl, rfl⟩
  refine ⟨_, rfl, ?_⟩
  refine hK.out _ _ (rfl) (fun hHeld => ?_)
  clear hK K
  refine norm_ (a' := ?_) ?_ ?_
  rotate_left
  · show Act.put _ (some 28) _ = _
    simp only [Act.put, List.setIfInBounds_toArray, List.set_cons_zero, List.set_cons_succ, i64_w, i32_w, IntKind.wrap_u32, IntKind.wrap_u8, IntKind.wrap_u16]
    rfl
  refine pure_ (i := 6) (N := some 29) (v := ?_) (a' := ?_) #[true, true, true, true, true, true, true, false, false] rfl rfl (by kernel_rfl) (fun _ _ _ h => h) (Or.inl ⟨by rfl, ?_⟩) ?_ ?_
  rotate_left
  · intro w'
    go_simp
    with_reducible rfl
  rotate_left
  · simp only [Act.put, List.setIfInBounds_toArray, List.set_cons_zero, List.set_cons_succ, i64_w, i32_w, IntKind.wrap_u32, IntKind.wrap_u8, IntKind.wrap_u16]
    rfl
  refine one_ (i := 7) (N := some 30) #[true, true, true, true, true, true, true, true, false] rfl rfl (by kernel_rfl) (by decide) (fun K hK => ?_)
  refine goes_ Try.func45 (by kernel_rfl) rfl #[.pointer (some ⟨g, 0, none⟩), .int .i64 (wrap64 ((n : Int) + padN (n : Int)))] (by rfl) rfl rfl (by (try simp only [List.map_toArray, List.map_cons, List.map_nil]); first | done | rfl) ?_
  with_reducible refine (HT.out (sl_drew HS.out)).mono ?_
  rintro e w4 ⟨ad, rfl, hs4, hC4⟩
  refine ⟨_, rfl, ?_⟩
  refine hK.out _ _ (rfl) (fun hHeld => ?_)
  clear hK K
  refine norm_ (a' := ?_) ?_ ?_
  rotate_left
  · show Act.put _ (some 30) _ = _
    simp only [Act.put, List.setIfInBounds_toArray, List.set_cons_zero, List.set_cons_succ, i64_w, i32_w, IntKind.wrap_u32, IntKind.wrap_u8, IntKind.wrap_u16]
    rfl
  refine pure_ (i := 8) (N := some 6) (v := ?_) (a' := ?_) #[true, true, true, true, true, true, true, true, true] rfl rfl (by kernel_rfl) (fun _ _ _ h => h) (Or.inl ⟨by rfl, ?_⟩) ?_ ?_
  rotate_left
  · intro w'
    go_simp
    with_reducible rfl
  rotate_left
  · simp only [Act.put, List.setIfInBounds_toArray, List.set_cons_zero, List.set_cons_succ, i64_w, i32_w, IntKind.wrap_u32, IntKind.wrap_u8, IntKind.wrap_u16]
    rfl
  refine done_ (by kernel_rfl) ?_
  replace HS := Aside0.mk hs4
  clear hs4
  obtain ⟨bs, ebs⟩ : ∃ bs, (u.take (n + p)).drop n = bs := ⟨_, rfl⟩
  have hbl : bs.length = p := by rw [← ebs, List.length_drop, List.length_take]; have := HL.out; omega
  have hC5 : Kd.C (Kd.int .u8) w4 (some ad) (u.take (n + p)).length (u.take (n + p)) := by rw [List.length_take, Nat.min_eq_left HL.out]; exact hC4
  have HCn := Aside0.mk (show Kd.C (Kd.int .u8) w4 (some ad) n (u.take n) by
    have h1 := Kd.C_take hC5 (show n ≤ (u.take (n + p)).length by rw [List.length_take, Nat.min_eq_left HL.out]; omega)
    rw [List.take_take, Nat.min_eq_left (by omega : n ≤ n + p), List.length_take, Nat.min_eq_left (by have := HL.out; omega)] at h1
    exact h1)
  have HEb := Aside0.mk ebs
  have p1 : (0 : Int) ≤ (n : Int) := by omega
  have p2 : (n : Int) ≤ (n : Int) + (p : Int) := by omega
  by_cases hp0 : p = 0
  · subst hp0
    clear hC4 hC5 ebs
    go_wp2_with (fail)
    go_loopg [37] 0 (fun kq v37 wr => v37 = .int .i64 0 ∧ Aside0 (SL w0 wr [rdR g (u.drop (n + 0)) 0, R] ∧ Kd.C (Kd.int .u8) wr (some ad) n (u.take n)))
    case atStart => exact ⟨rfl, ⟨(by repeat (with_reducible first | exact HS.out | apply sl_drewN | apply sl_drew | apply sl_alloc)), HCn.out⟩⟩
    case round =>
      obtain ⟨rfl, HW⟩ := hrel
      clear HS HCn
      have HS := Aside0.mk HW.out.1
      have c1 : decide ((0 : Int) < 0) = false := rfl
      go_wp2_with (first | (at_builtin; refine app8n (by repeat (with_reducible first | exact HS.out | apply sl_drewN | apply sl_drew | apply sl_alloc)) (u.take n) rfl (.const (.slice none 0 0)) (.tmp 50) rfl rfl rfl (B := some ad) (m := n) HW.out.2 (by have := HL.out; have := HU.out; omega) ?_; intro A1 c1 w6 hs; replace HS := Aside0.mk hs; clear hs))
      try rw [Exit.noGoto_ret]
      go_ret
      refine .inl ⟨?_, A1, c1, ?_, ?_⟩
      · rw [HEb.out, List.eq_nil_of_length_eq_zero hbl]
        rfl
      · rw [Nat.min_eq_left (by have := HL.out; omega)]
        rfl
      · have hln : (u.take n).length = n := by rw [List.length_take]; have := HL.out; omega
        have hs := HS.out
        rw [hln] at hs
        exact hs
  · have hcn : (n + p = n) = False := eq_false (by omega)
    have HC := Aside0.mk (show Kd.C (Kd.int .u8) w4 (some (ad.add n)) p bs by
      have h1 := drop8 (c := n + p) (k := n) (m := n + p) hC5 (by rw [List.length_take]; omega) (by rw [List.length_take]; have := HL.out; omega) (by rw [List.length_take, Nat.min_eq_left HL.out])
      rw [if_neg (by omega), ebs, Nat.add_sub_cancel_left] at h1
      exact h1)
    clear hC4 hC5 ebs
    go_wp2_with (fail)
    go_loopg [37] p (fun kq v37 wr => ∃ i : Nat, v37 = .int .i64 (i : Int) ∧ Aside0 (i + kq = p) ∧ Aside0 (∀ j : Nat, j < i → rd bs (j : Int) = 0) ∧ Aside0 (SL w0 wr [rdR g (u.drop (n + p)) 0, R] ∧ Kd.C (Kd.int .u8) wr (some ad) n (u.take n) ∧ Kd.C (Kd.int .u8) wr (some (ad.add n)) p bs))
    case atStart => exact ⟨0, rfl, ⟨by omega⟩, ⟨fun j hj => by omega⟩, ⟨(by repeat (with_reducible first | exact HS.out | apply sl_drewN | apply sl_drew | apply sl_alloc)), HCn.out, HC.out⟩⟩
    case round =>
      obtain ⟨i, rfl, HI, HJ, HW⟩ := hrel
      have hi := HI.out
      clear HS HCn HC
      have HS := Aside0.mk HW.out.1
      by_cases hlt : i < p
      · have c1 : decide (i < p) = true := decide_eq_true hlt
        obtain ⟨kq, rfl⟩ : ∃ m, gk = m + 1 := ⟨gk - 1, by omega⟩
        obtain ⟨ad2, e2, x0⟩ := Kd.at_int HW.out.2.2 (i : Int) (by omega) (by omega)
        injection e2 with e2
        subst e2
        rw [Int.toNat_natCast] at x0
        have q1 : (0 : Int) ≤ (i : Int) := by omega
        have q2 : (i : Int) < (p : Int) := by omega
        obtain ⟨x, ex⟩ : ∃ x, rd bs (i : Int) = x := ⟨_, rfl⟩
        rw [ex] at x0
        have HX := Aside0.mk ex
        have HLt := Aside0.mk hlt
        clear ex hlt
        by_cases hx : x = 0
        · have hb : (x != 0) = false := by simp [hx]
          have HX0 := Aside0.mk hx
          clear hx
          go_wp2_with (fail)
          go_roundg kq
          case measure => omega
          case rel =>
            refine ⟨i + 1, rfl, ⟨by have := HI.out; omega⟩, ⟨fun j hj => ?_⟩, HW⟩
            by_cases hj2 : j < i
            · exact HJ.out j hj2
            · obtain rfl : j = i := by omega
              rw [HX.out]
              exact HX0.out
        · have hb : (x != 0) = true := bne_iff_ne.2 hx
          have HX0 := Aside0.mk hx
          clear hx
          go_wp2_with (first | (go_at_call 46; refine (fail_in g _ _ 3 (by repeat (with_reducible first | exact HS.out | apply sl_drewN | apply sl_drew | apply sl_alloc))).mono ?_; rintro e w5 ⟨rfl, hs⟩; replace HS := Aside0.mk hs; clear hs))
          try rw [Exit.noGoto_ret]
          go_ret
          refine .inr ⟨?_, rfl, HS.out⟩
          rw [HEb.out]
          refine Bool.eq_false_iff.2 fun hall => HX0.out ?_
          rw [List.all_eq_true] at hall
          have hm_ : rd bs (i : Int) ∈ bs := by
            unfold rd
            rw [Int.toNat_natCast, List.getD_eq_getElem?_getD, List.getElem?_eq_getElem (by have := HLt.out; omega)]
            exact List.getElem_mem _
          have := hall _ hm_
          rw [HX.out] at this
          simpa using this
      · have c1 : decide (i < p) = false := decide_eq_false hlt
        obtain rfl : i = p := by omega
        clear hlt hi
        go_wp2_with (first | (at_builtin; refine app8n (by repeat (with_reducible first | exact HS.out | apply sl_drewN | apply sl_drew | apply sl_alloc)) (u.take n) rfl (.const (.slice none 0 0)) (.tmp 50) rfl rfl rfl (B := some ad) (m := n) HW.out.2.1 (by have := HL.out; have := HU.out; omega) ?_; intro A1 c1 w6 hs; replace HS := Aside0.mk hs; clear hs))
        try rw [Exit.noGoto_ret]
        go_ret
        refine .inl ⟨?_, A1, c1, ?_, ?_⟩
        · rw [HEb.out, List.all_eq_true]
          intro x hx
          obtain ⟨j, hj⟩ := List.getElem?_of_mem hx
          have hjl := (List.getElem?_eq_some_iff.1 hj).1
          have := HJ.out j (by omega)
          unfold rd at this
          rw [Int.toNat_natCast, List.getD_eq_getElem?_getD, hj] at this
          simpa using this
        · have hln : (u.take n).length = n := by rw [List.length_take]; have := HL.out; omega
          rw [Nat.min_eq_left (by have := HL.out; omega)]
          rfl
        · have hln : (u.take n).length = n := by rw [List.length_take]; have := HL.out; omega
          have hs := HS.out
          rw [hln] at hs
          exact hs
set_option maxHeartbeats 4000000 in
set_option maxRecDepth 100000 in
theorem Array_e5 {w0 w : World} {R : Res} (g : Nat) (s : RSt) (most : Int) (hs : SL w0 w [rdS g s, R]) (u : List Int) (hS : uintS s = ⟨u, 0⟩) (hn : uintV s = 0) :
    Calls Try.prog 26 #[.pointer (some ⟨g, 0, none⟩), .int .i64 most] w fun e w' => ∃ A c, e = .returned (.slice A 0 c) ∧ SL w0 w' [rdR g u 0, R, row8 (.slice A 0 c) []] := by
  have HS := Aside0.mk hs
  have hnil := fun (w : World) (a : Option Addr) (n c : Nat) => Lib.run_eql_slice_nil (P := Try.prog) w 22 5 a n c 0 0 Try.underlying22
  have HE := Aside0.mk hS
  obtain ⟨z, hz⟩ : ∃ z, uintV s = z := ⟨_, rfl⟩
  have hz0 : z = 0 := hz.symm.trans hn
  have HN := Aside0.mk hz
  have HZ := Aside0.mk hz0
  have HZ1 := Aside0.mk (show 0 ≤ z ∧ z < 4294967296 by omega)
  have HT := Aside0.mk (show ∀ {w' : World}, SL w0 w' [rdR g u 0, R] → Calls Try.prog 45 #[.pointer (some ⟨g, 0, none⟩), .int .i64 (wrap64 (z + padN z))] w' fun e w'' => ∃ A, e = .returned (.slice A 0 0) ∧ SL w0 w'' [rdR g u 0, R] from fun hs => by
    have hw0 : wrap64 (z + padN z) = 0 := by rw [hz0]; unfold wrap64 padN; omega
    rw [hw0]
    exact take_zero g u 0 hs)
  have bz : ((0 : Int) == 0) = true := rfl
  clear hs hS hn hz
  obtain ⟨zb0, zb1⟩ := HZ1.out
  have bz0 : decide (0 < z) = false := decide_eq_false (by omega)
  by_cases hq : most < 0
  · clear hz0
    go_enter Try.func26, Try.ntmps26
    go_upto_region 7 with (first
      | (go_at_call 20; refine (Uint_in g s (by repeat (with_reducible first | exact HS.out | apply sl_drewN | apply sl_drew | apply sl_alloc))).mono ?_; rw [HN.out, HE.out]; rintro e w1 ⟨rfl, hs⟩; replace HS := Aside0.mk (show SL w0 w1 [rdR g u 0, R] from hs); clear hs)
      | (go_at_call 44; refine (usable_in (s := ⟨u, 0⟩) (by repeat (with_reducible first | exact HS.out | apply sl_drewN | apply sl_drew | apply sl_alloc))).mono ?_; rintro e w2 ⟨rfl, hs⟩; replace HS := Aside0.mk (show SL w0 w2 [rdR g u 0, R] from hs); clear hs))
    refine start_ (n := 9) (S := fun w' => w'.heap.size = w'.heap.size) (ds := []) #[false, false, false, false, false, false, false, false, false] (by kernel_rfl) rfl rfl (rfl) (fun hHeld => ?_)
    refine pure_ (i := 0) (N := some 23) (v := ?_) (a' := ?_) #[true, false, false, false, false, false, false, false, false] rfl rfl (by kernel_rfl) (fun _ _ _ h => h) (Or.inl ⟨by rfl, ?_⟩) ?_ ?_
    rotate_left
    · intro w'
      go_simp
      with_reducible rfl
    rotate_left
    · simp only [Act.put, List.setIfInBounds_toArray, List.set_cons_zero, List.set_cons_succ, i64_w, i32_w, IntKind.wrap_u32, IntKind.wrap_u8, IntKind.wrap_u16]
      rfl
    refine pure_ (i := 1) (N := some 24) (v := ?_) (a' := ?_) #[true, true, false, false, false, false, false, false, false] rfl rfl (by kernel_rfl) (fun _ _ _ h => h) (Or.inl ⟨by rfl, ?_⟩) ?_ ?_
    rotate_left
    · intro w'
      go_simp
      with_reducible rfl
    rotate_left
    · simp only [Act.put, List.setIfInBounds_toArray, List.set_cons_zero, List.set_cons_succ, i64_w, i32_w, IntKind.wrap_u32, IntKind.wrap_u8, IntKind.wrap_u16]
      rfl
    refine pure_ (i := 2) (N := some 25) (v := ?_) (a' := ?_) #[true, true, true, false, false, false, false, false, false] rfl rfl (by kernel_rfl) (fun _ _ _ h => h) (Or.inl ⟨by rfl, ?_⟩) ?_ ?_
    rotate_left
    · intro w'
      go_simp
      with_reducible rfl
    rotate_left
    · simp only [Act.put, List.setIfInBounds_toArray, List.set_cons_zero, List.set_cons_succ, i64_w, i32_w, IntKind.wrap_u32, IntKind.wrap_u8, IntKind.wrap_u16]
      rfl
    refine pure_ (i := 3) (N := some 26) (v := ?_) (a' := ?_) #[true, true, true, true, false, false, false, false, false] rfl rfl (by kernel_rfl) (fun _ _ _ h => h) (Or.inl ⟨by rfl, ?_⟩) ?_ ?_
    rotate_left
    · intro w'
      go_simp
      with_reducible rfl
    rotate_left
    · simp only [Act.put, List.setIfInBounds_toArray, List.set_cons_zero, List.set_cons_succ, i64_w, i32_w, IntKind.wrap_u32, IntKind.wrap_u8, IntKind.wrap_u16]
      rfl
    refine pure_ (i := 4) (N := some 27) (v := ?_) (a' := ?_) #[true, true, true, true, true, false, false, false, false] rfl rfl (by kernel_rfl) (fun _ _ _ h => h) (Or.inl ⟨by rfl, ?_⟩) ?_ ?_
    rotate_left
    · intro w'
      go_simp
      with_reducible rfl
    rotate_left
    · simp only [Act.put, List.setIfInBounds_toArray, List.set_cons_zero, List.set_cons_succ, i64_w, i32_w, IntKind.wrap_u32, IntKind.wrap_u8, IntKind.wrap_u16]
      rfl
    refine one_ (i := 5) (N := some 28) #[true, true, true, true, true, true, false, false, false] rfl rfl (by kernel_rfl) (by decide) (fun K hK => ?_)
    refine goes_ Try.func49 (by kernel_rfl) rfl #[.int .i64 z] (by rfl) rfl rfl (by (try simp only [List.map_toArray, List.map_cons, List.map_nil]); first | done | rfl) ?_
    with_reducible refine (padding_i z _ HZ1.out.1 HZ1.out.2).mono ?_
    rintro e w3 ⟨rfl, rfl⟩
    refine ⟨_, rfl, ?_⟩
    refine hK.out _ _ (rfl) (fun hHeld => ?_)
    clear hK K
    refine norm_ (a' := ?_) ?_ ?_
    rotate_left
    · show Act.put _ (some 28) _ = _
      simp only [Act.put, List.setIfInBounds_toArray, List.set_cons_zero, List.set_cons_succ, i64_w, i32_w, IntKind.wrap_u32, IntKind.wrap_u8, IntKind.wrap_u16]
      rfl
    refine pure_ (i := 6) (N := some 29) (v := ?_) (a' := ?_) #[true, true, true, true, true, true, true, false, false] rfl rfl (by kernel_rfl) (fun _ _ _ h => h) (Or.inl ⟨by rfl, ?_⟩) ?_ ?_
    rotate_left
    · intro w'
      go_simp
      with_reducible rfl
    rotate_left
    · simp only [Act.put, List.setIfInBounds_toArray, List.set_cons_zero, List.set_cons_succ, i64_w, i32_w, IntKind.wrap_u32, IntKind.wrap_u8, IntKind.wrap_u16]
      rfl
    refine one_ (i := 7) (N := some 30) #[true, true, true, true, true, true, true, true, false] rfl rfl (by kernel_rfl) (by decide) (fun K hK => ?_)
    refine goes_ Try.func45 (by kernel_rfl) rfl #[.pointer (some ⟨g, 0, none⟩), .int .i64 (wrap64 (z + padN z))] (by rfl) rfl rfl (by (try simp only [List.map_toArray, List.map_cons, List.map_nil]); first | done | rfl) ?_
    with_reducible refine (HT.out (sl_drew HS.out)).mono ?_
    rintro e w4 ⟨A4, rfl, hs4⟩
    refine ⟨_, rfl, ?_⟩
    refine hK.out _ _ (rfl) (fun hHeld => ?_)
    clear hK K
    refine norm_ (a' := ?_) ?_ ?_
    rotate_left
    · show Act.put _ (some 30) _ = _
      simp only [Act.put, List.setIfInBounds_toArray, List.set_cons_zero, List.set_cons_succ, i64_w, i32_w, IntKind.wrap_u32, IntKind.wrap_u8, IntKind.wrap_u16]
      rfl
    refine pure_ (i := 8) (N := some 6) (v := ?_) (a' := ?_) #[true, true, true, true, true, true, true, true, true] rfl rfl (by kernel_rfl) (fun _ _ _ h => h) (Or.inl ⟨by rfl, ?_⟩) ?_ ?_
    rotate_left
    · intro w'
      go_simp
      with_reducible rfl
    rotate_left
    · simp only [Act.put, List.setIfInBounds_toArray, List.set_cons_zero, List.set_cons_succ, i64_w, i32_w, IntKind.wrap_u32, IntKind.wrap_u8, IntKind.wrap_u16]
      rfl
    refine done_ (by kernel_rfl) ?_
    replace HS := Aside0.mk hs4
    clear hs4
    have hz0 := HZ.out
    subst hz0
    cases A4 with
    | none =>
      go_wp2_with (fail)
      try rw [Exit.noGoto_ret]
      go_ret
      exact ⟨none, 0, rfl, sl_nil HS.out (Kd.int .u8) enc8 5⟩
    | some ad =>
      go_wp2_with (fail)
      go_loopg [37] 0 (fun kq v37 wr => v37 = .int .i64 0 ∧ Aside0 (SL w0 wr [rdR g u 0, R]))
      case atStart => exact ⟨rfl, ⟨(by repeat (with_reducible first | exact HS.out | apply sl_drewN | apply sl_drew | apply sl_alloc))⟩⟩
      case round =>
        obtain ⟨rfl, HW⟩ := hrel
        clear HS
        have HS := Aside0.mk HW.out
        go_wp2_with (fail)
        try rw [Exit.noGoto_ret]
        go_ret
        exact ⟨none, 0, rfl, sl_nil (show SL w0 _ [rdR g u 0, R] from (by repeat (with_reducible first | exact HS.out | apply sl_drewN | apply sl_drew | apply sl_alloc))) (Kd.int .u8) enc8 5⟩
  · have b3 : decide (most < z) = false := decide_eq_false (by omega)
    have b5 : 0 ≤ most := by omega
    clear hz0 hq
    go_enter Try.func26, Try.ntmps26
    go_upto_region 7 with (first
      | (go_at_call 20; refine (Uint_in g s (by repeat (with_reducible first | exact HS.out | apply sl_drewN | apply sl_drew | apply sl_alloc))).mono ?_; rw [HN.out, HE.out]; rintro e w1 ⟨rfl, hs⟩; replace HS := Aside0.mk (show SL w0 w1 [rdR g u 0, R] from hs); clear hs)
      | (go_at_call 44; refine (usable_in (s := ⟨u, 0⟩) (by repeat (with_reducible first | exact HS.out | apply sl_drewN | apply sl_drew | apply sl_alloc))).mono ?_; rintro e w2 ⟨rfl, hs⟩; replace HS := Aside0.mk (show SL w0 w2 [rdR g u 0, R] from hs); clear hs))
    refine start_ (n := 9) (S := fun w' => w'.heap.size = w'.heap.size) (ds := []) #[false, false, false, false, false, false, false, false, false] (by kernel_rfl) rfl rfl (rfl) (fun hHeld => ?_)
    refine pure_ (i := 0) (N := some 23) (v := ?_) (a' := ?_) #[true, false, false, false, false, false, false, false, false] rfl rfl (by kernel_rfl) (fun _ _ _ h => h) (Or.inl ⟨by rfl, ?_⟩) ?_ ?_
    rotate_left
    · intro w'
      go_simp
      with_reducible rfl
    rotate_left
    · simp only [Act.put, List.setIfInBounds_toArray, List.set_cons_zero, List.set_cons_succ, i64_w, i32_w, IntKind.wrap_u32, IntKind.wrap_u8, IntKind.wrap_u16]
      rfl
    refine pure_ (i := 1) (N := some 24) (v := ?_) (a' := ?_) #[true, true, false, false, false, false, false, false, false] rfl rfl (by kernel_rfl) (fun _ _ _ h => h) (Or.inl ⟨by rfl, ?_⟩) ?_ ?_
    rotate_left
    · intro w'
      go_simp
      with_reducible rfl
    rotate_left
    · simp only [Act.put, List.setIfInBounds_toArray, List.set_cons_zero, List.set_cons_succ, i64_w, i32_w, IntKind.wrap_u32, IntKind.wrap_u8, IntKind.wrap_u16]
      rfl
    refine pure_ (i := 2) (N := some 25) (v := ?_) (a' := ?_) #[true, true, true, false, false, false, false, false, false] rfl rfl (by kernel_rfl) (fun _ _ _ h => h) (Or.inl ⟨by rfl, ?_⟩) ?_ ?_
    rotate_left
    · intro w'
      go_simp
      with_reducible rfl
    rotate_left
    · simp only [Act.put, List.setIfInBounds_toArray, List.set_cons_zero, List.set_cons_succ, i64_w, i32_w, IntKind.wrap_u32, IntKind.wrap_u8, IntKind.wrap_u16]
      rfl
    refine pure_ (i := 3) (N := some 26) (v := ?_) (a' := ?_) #[true, true, true, true, false, false, false, false, false] rfl rfl (by kernel_rfl) (fun _ _ _ h => h) (Or.inl ⟨by rfl, ?_⟩) ?_ ?_
    rotate_left
    · intro w'
      go_simp
      with_reducible rfl
    rotate_left
    · simp only [Act.put, List.setIfInBounds_toArray, List.set_cons_zero, List.set_cons_succ, i64_w, i32_w, IntKind.wrap_u32, IntKind.wrap_u8, IntKind.wrap_u16]
      rfl
    refine pure_ (i := 4) (N := some 27) (v := ?_) (a' := ?_) #[true, true, true, true, true, false, false, false, false] rfl rfl (by kernel_rfl) (fun _ _ _ h => h) (Or.inl ⟨by rfl, ?_⟩) ?_ ?_
    rotate_left
    · intro w'
      go_simp
      with_reducible rfl
    rotate_left
    · simp only [Act.put, List.setIfInBounds_toArray, List.set_cons_zero, List.set_cons_succ, i64_w, i32_w, IntKind.wrap_u32, IntKind.wrap_u8, IntKind.wrap_u16]
      rfl
    refine one_ (i := 5) (N := some 28) #[true, true, true, true, true, true, false, false, false] rfl rfl (by kernel_rfl) (by decide) (fun K hK => ?_)
    refine goes_ Try.func49 (by kernel_rfl) rfl #[.int .i64 z] (by rfl) rfl rfl (by (try simp only [List.map_toArray, List.map_cons, List.map_nil]); first | done | rfl) ?_
    with_reducible refine (padding_i z _ HZ1.out.1 HZ1.out.2).mono ?_
    rintro e w3 ⟨rfl, rfl⟩
    refine ⟨_, rfl, ?_⟩
    refine hK.out _ _ (rfl) (fun hHeld => ?_)
    clear hK K
    refine norm_ (a' := ?_) ?_ ?_
    rotate_left
    · show Act.put _ (some 28) _ = _
      simp only [Act.put, List.setIfInBounds_toArray, List.set_cons_zero, List.set_cons_succ, i64_w, i32_w, IntKind.wrap_u32, IntKind.wrap_u8, IntKind.wrap_u16]
      rfl
    refine pure_ (i := 6) (N := some 29) (v := ?_) (a' := ?_) #[true, true, true, true, true, true, true, false, false] rfl rfl (by kernel_rfl) (fun _ _ _ h => h) (Or.inl ⟨by rfl, ?_⟩) ?_ ?_
    rotate_left
    · intro w'
      go_simp
      with_reducible rfl
    rotate_left
    · simp only [Act.put, List.setIfInBounds_toArray, List.set_cons_zero, List.set_cons_succ, i64_w, i32_w, IntKind.wrap_u32, IntKind.wrap_u8, IntKind.wrap_u16]
      rfl
    refine one_ (i := 7) (N := some 30) #[true, true, true, true, true, true, true, true, false] rfl rfl (by kernel_rfl) (by decide) (fun K hK => ?_)
    refine goes_ Try.func45 (by kernel_rfl) rfl #[.pointer (some ⟨g, 0, none⟩), .int .i64 (wrap64 (z + padN z))] (by rfl) rfl rfl (by (try simp only [List.map_toArray, List.map_cons, List.map_nil]); first | done | rfl) ?_
    with_reducible refine (HT.out (sl_drew HS.out)).mono ?_
    rintro e w4 ⟨A4, rfl, hs4⟩
    refine ⟨_, rfl, ?_⟩
    refine hK.out _ _ (rfl) (fun hHeld => ?_)
    clear hK K
    refine norm_ (a' := ?_) ?_ ?_
    rotate_left
    · show Act.put _ (some 30) _ = _
      simp only [Act.put, List.setIfInBounds_toArray, List.set_cons_zero, List.set_cons_succ, i64_w, i32_w, IntKind.wrap_u32, IntKind.wrap_u8, IntKind.wrap_u16]
      rfl
    refine pure_ (i := 8) (N := some 6) (v := ?_) (a' := ?_) #[true, true, true, true, true, true, true, true, true] rfl rfl (by kernel_rfl) (fun _ _ _ h => h) (Or.inl ⟨by rfl, ?_⟩) ?_ ?_
    rotate_left
    · intro w'
      go_simp
      with_reducible rfl
    rotate_left
    · simp only [Act.put, List.setIfInBounds_toArray, List.set_cons_zero, List.set_cons_succ, i64_w, i32_w, IntKind.wrap_u32, IntKind.wrap_u8, IntKind.wrap_u16]
      rfl
    refine done_ (by kernel_rfl) ?_
    replace HS := Aside0.mk hs4
    clear hs4
    have hz0 := HZ.out
    subst hz0
    cases A4 with
    | none =>
      go_wp2_with (fail)
      try rw [Exit.noGoto_ret]
      go_ret
      exact ⟨none, 0, rfl, sl_nil HS.out (Kd.int .u8) enc8 5⟩
    | some ad =>
      go_wp2_with (fail)
      go_loopg [37] 0 (fun kq v37 wr => v37 = .int .i64 0 ∧ Aside0 (SL w0 wr [rdR g u 0, R]))
      case atStart => exact ⟨rfl, ⟨(by repeat (with_reducible first | exact HS.out | apply sl_drewN | apply sl_drew | apply sl_alloc))⟩⟩
      case round =>
        obtain ⟨rfl, HW⟩ := hrel
        clear HS
        have HS := Aside0.mk HW.out
        go_wp2_with (fail)
        try rw [Exit.noGoto_ret]
        go_ret
        exact ⟨none, 0, rfl, sl_nil (show SL w0 _ [rdR g u 0, R] from (by repeat (with_reducible first | exact HS.out | apply sl_drewN | apply sl_drew | apply sl_alloc))) (Kd.int .u8) enc8 5⟩
/-- What Uint answers is a number of 32 bits. -/
def RdOk (s : RSt) : Prop := s.u.length ≤ 1000000 ∧ 0 ≤ uintV s ∧ uintV s < 4294967296
theorem uintS_len (s : RSt) : (uintS s).u.length ≤ s.u.length := by
  unfold uintS
  split
  · split
    · show (s.u.drop 4).length ≤ _
      rw [List.length_drop]
      omega
    · show ([] : List Int).length ≤ _
      simp
  · exact Nat.le_refl _
/-- Array, all ways. -/
theorem Array_in {w0 w : World} {R : Res} (g : Nat) (s : RSt) (most : Int) (hs : SL w0 w [rdS g s, R]) (ho : RdOk s) :
    Calls Try.prog 26 #[.pointer (some ⟨g, 0, none⟩), .int .i64 most] w fun e w' => ∃ A c, e = .returned (.slice A (arrV s most).length c) ∧ SL w0 w' [rdS g (arrS s most), R, row8 (.slice A (arrV s most).length c) (arrV s most)] := by
  obtain ⟨hu, h0, h1⟩ := ho
  have hul := uintS_len s
  unfold arrV arrS
  by_cases he : (uintS s).er ≠ 0
  · rw [if_pos he, if_pos he]
    refine (Array_e1 g s most hs he).mono ?_
    rintro e w' ⟨rfl, hs⟩
    exact ⟨none, 0, rfl, sl_nil hs (Kd.int .u8) enc8 5⟩
  rw [if_neg he, if_neg he]
  have he0 : (uintS s).er = 0 := Decidable.not_not.1 he
  by_cases hm : mx most 0 < uintV s
  · rw [if_pos hm, if_pos hm]
    refine (Array_e2 g s most hs he0 hm h0 h1).mono ?_
    rintro e w' ⟨rfl, hs⟩
    exact ⟨none, 0, rfl, sl_nil hs (Kd.int .u8) enc8 5⟩
  rw [if_neg hm, if_neg hm]
  by_cases hl : ((uintS s).u.length : Int) < needN s
  · rw [if_pos hl, if_pos hl]
    refine (Array_e3 g s most hs he0 (by omega) h0 h1 hl).mono ?_
    rintro e w' ⟨rfl, hs⟩
    exact ⟨none, 0, rfl, sl_nil hs (Kd.int .u8) enc8 5⟩
  rw [if_neg hl, if_neg hl]
  obtain ⟨u, er, hS⟩ : ∃ u er, uintS s = ⟨u, er⟩ := ⟨_, _, rfl⟩
  obtain rfl : er = 0 := by rw [hS] at he0; exact he0
  obtain ⟨n, hn⟩ : ∃ n : Nat, uintV s = (n : Int) := ⟨(uintV s).toNat, by omega⟩
  have hp0 : 0 ≤ padN (n : Int) ∧ padN (n : Int) ≤ 3 := by unfold padN; omega
  obtain ⟨p, hp⟩ : ∃ p : Nat, padN (n : Int) = (p : Int) := ⟨(padN (n : Int)).toNat, by omega⟩
  have hneed : (needN s).toNat = n + p := by unfold needN; rw [hn, hp]; omega
  have hnt : (uintV s).toNat = n := by omega
  unfold cleanB
  rw [hneed, hnt]
  have hul2 : u.length ≤ 1000000 := by rw [hS] at hul; exact Nat.le_trans hul hu
  have hl2 : n + p ≤ u.length := by unfold needN at hl; rw [hS, hn, hp] at hl; have : ¬ ((u.length : Int) < (n : Int) + (p : Int)) := hl; omega
  have hS1 : (uintS s).u = u := by rw [hS]
  rw [hS1]
  rcases Nat.eq_zero_or_pos n with rfl | n0
  · have hp00 : p = 0 := by have : padN ((0 : Nat) : Int) = 0 := rfl; omega
    subst hp00
    refine (Array_e5 g s most hs u hS hn).mono ?_
    rintro e w' ⟨A, c, rfl, hs⟩
    have hc : ((u.take (0 + 0)).drop 0).all (· == 0) = true := by simp
    rw [if_pos hc, if_pos hc]
    exact ⟨A, c, rfl, hs⟩
  · have hmost : (n : Int) ≤ most := by
      have : ¬ mx most 0 < (n : Int) := by rw [← hn]; exact hm
      unfold mx at this
      split at this <;> omega
    refine (Array_e4 g s most hs u hS n p hn hp n0 (by omega) (by omega) hmost hl2 hul2).mono ?_
    rintro e w' (⟨hc, A, c, rfl, hs⟩ | ⟨hc, rfl, hs⟩)
    · rw [if_pos hc, if_pos hc]
      have hln : (u.take n).length = n := by rw [List.length_take]; omega
      rw [hln]
      exact ⟨A, c, rfl, hs⟩
    · rw [if_neg (by rw [hc]; decide), if_neg (by rw [hc]; decide)]
      exact ⟨none, 0, rfl, sl_nil hs (Kd.int .u8) enc8 5⟩
theorem Array_sl {w0 w : World} {L : List Res} (h : SL w0 w L) (i : Nat) {g : Nat} {s : RSt} (hi : L[i]? = some (rdS g s)) (most : Int) (ho : RdOk s) :
    Calls Try.prog 26 #[.pointer (some ⟨g, 0, none⟩), .int .i64 most] w fun e w' => ∃ A c, e = .returned (.slice A (arrV s most).length c) ∧ SL w0 w' (L.set i (rdS g (arrS s most)) ++ [row8 (.slice A (arrV s most).length c) (arrV s most)]) := by
  obtain ⟨S, h1, h2⟩ := sl_lift h hi
  refine (Array_in g s most h1 ho).mono ?_
  rintro e w' ⟨A, c, rfl, h4⟩
  exact ⟨A, c, rfl, h2 _ _ _ h4⟩
theorem fail_sl {w0 w : World} {L : List Res} (h : SL w0 w L) (i : Nat) {g : Nat} {u : List Int} {er : Int} (hi : L[i]? = some (rdR g u er)) (e' : Int) : Calls Try.prog 46 #[.pointer (some ⟨g, 0, none⟩), .int .i64 e'] w fun e w' => e = .returned (.tuple #[]) ∧ SL w0 w' (L.set i (rdR g [] e')) := by
  obtain ⟨S, h1, h2⟩ := sl_lift h hi
  refine (fail_in g u er e' h1).mono ?_
  rintro e w' ⟨h3, h4⟩
  have := h2 _ _ [] h4
  rw [List.append_nil] at this
  exact ⟨h3, this⟩
theorem arrV_len {s : RSt} {most : Int} (ho : RdOk s) : (arrV s most).length ≤ 1000000 := by
  have h1 := uintS_len s
  have h2 := ho.1
  unfold arrV
  split
  · simp
  · split
    · simp
    · split
      · simp
      · split
        · rw [List.length_take]
          omega
        · simp
/-- No byte is zero. -/
def noZ (b : List Int) : Bool := b.all (· != 0)
def strV (s : RSt) (most : Int) : List Int := if noZ (arrV s most) = true then arrV s most else []
def strS (s : RSt) (most : Int) : RSt := if noZ (arrV s most) = true then arrS s most else ⟨[], 3⟩
theorem noZ_of {b : List Int} (h : ∀ j : Nat, j < b.length → rd b (j : Int) ≠ 0) : noZ b = true := by
  unfold noZ
  rw [List.all_eq_true]
  intro x hx
  obtain ⟨j, hj⟩ := List.getElem?_of_mem hx
  have hjl := (List.getElem?_eq_some_iff.1 hj).1
  have := h j hjl
  unfold rd at this
  rw [Int.toNat_natCast, List.getD_eq_getElem?_getD, hj] at this
  exact bne_iff_ne.2 this
theorem noZ_not {b : List Int} {j : Nat} (hj : j < b.length) (h : rd b (j : Int) = 0) : noZ b = false := by
  refine Bool.eq_false_iff.2 fun hall => ?_
  unfold noZ at hall
  rw [List.all_eq_true] at hall
  have hm : rd b (j : Int) ∈ b := by
    unfold rd
    rw [Int.toNat_natCast, List.getD_eq_getElem?_getD, List.getElem?_eq_getElem hj]
    exact List.getElem_mem _
  have := hall _ hm
  rw [h] at this
  simp at this
set_option maxHeartbeats 4000000 in
set_option maxRecDepth 100000 in
theorem String_in {w0 w : World} {R : Res} (g : Nat) (s : RSt) (most : Int) (hs : SL w0 w [rdS g s, R]) (ho : RdOk s) :
    Calls Try.prog 24 #[.pointer (some ⟨g, 0, none⟩), .int .i64 most] w fun e w' => e = .returned (.string (strOfNums (strV s most))) ∧ SL w0 w' [rdS g (strS s most), R] := by
  have HS := Aside0.mk hs
  obtain ⟨b, hb⟩ : ∃ b, arrV s most = b := ⟨_, rfl⟩
  obtain ⟨S1, hS1⟩ : ∃ S1, arrS s most = S1 := ⟨_, rfl⟩
  have HA := Aside0.mk (show ∀ {w' : World}, SL w0 w' [rdS g s, R] → Calls Try.prog 26 #[.pointer (some ⟨g, 0, none⟩), .int .i64 most] w' fun e w'' => ∃ A c, e = .returned (.slice A b.length c) ∧ SL w0 w'' [rdS g S1, R, row8 (.slice A b.length c) b] from fun hs => by
    have := Array_in g s most hs ho
    rw [hb, hS1] at this
    exact this)
  have hbl := arrV_len (most := most) ho
  rw [hb] at hbl
  have HE := Aside0.mk (show strV s most = (if noZ b = true then b else []) ∧ strS s most = (if noZ b = true then S1 else ⟨[], 3⟩) by unfold strV strS; rw [hb, hS1]; exact ⟨rfl, rfl⟩)
  clear hs ho hb hS1
  go_enter Try.func24, Try.ntmps24
  go_wp2_with (first
    | (go_at_call 26; refine (HA.out (by repeat (with_reducible first | exact HS.out | apply sl_drewN | apply sl_drew | apply sl_alloc))).mono ?_; rintro e w1 ⟨A, c, rfl, hs⟩; replace HS := Aside0.mk hs; clear hs))
  go_loopg [13] b.length (fun kq v13 wr => ∃ i : Nat, v13 = .int .i64 (i : Int) ∧ Aside0 (i + kq = b.length) ∧ Aside0 (∀ j : Nat, j < i → rd b (j : Int) ≠ 0) ∧ Aside0 (SL w0 wr [rdS g S1, R, row8 (.slice A b.length c) b]))
  case atStart => exact ⟨0, rfl, ⟨by omega⟩, ⟨fun j hj => by omega⟩, ⟨(by repeat (with_reducible first | exact HS.out | apply sl_drewN | apply sl_drew | apply sl_alloc))⟩⟩
  case round =>
    obtain ⟨i, rfl, HI, HJ, HW⟩ := hrel
    have hi := HI.out
    clear HS
    have HS := Aside0.mk HW.out
    have HC := Aside0.mk (sl_reads' flat8 HS.out 2 rfl)
    by_cases hlt : i < b.length
    · have c1 : decide (i < b.length) = true := decide_eq_true hlt
      obtain ⟨kq, rfl⟩ : ∃ m, gk = m + 1 := ⟨gk - 1, by omega⟩
      obtain ⟨ad, rfl, x0⟩ := Kd.at_int HC.out (i : Int) (by omega) (by omega)
      rw [Int.toNat_natCast] at x0
      have q1 : (0 : Int) ≤ (i : Int) := by omega
      have q2 : (i : Int) < (b.length : Int) := by omega
      obtain ⟨x, ex⟩ : ∃ x, rd b (i : Int) = x := ⟨_, rfl⟩
      rw [ex] at x0
      have HX := Aside0.mk ex
      have HLt := Aside0.mk hlt
      clear ex hlt
      by_cases hx : x = 0
      · have hb0 : (x == 0) = true := beq_iff_eq.2 hx
        have HX0 := Aside0.mk hx
        clear hx
        go_wp2_with (first | (go_at_call 46; refine (fail_sl (by repeat (with_reducible first | exact HS.out | apply sl_drewN | apply sl_drew | apply sl_alloc)) 0 (by rfl) 3).mono ?_; rintro e w5 ⟨rfl, hs⟩; replace HS := Aside0.mk hs; clear hs))
        try rw [Exit.noGoto_ret]
        go_ret
        have hz : noZ b = false := noZ_not HLt.out (by rw [HX.out]; exact HX0.out)
        refine ⟨by rw [HE.out.1, if_neg (by rw [hz]; decide)]; rfl, ?_⟩
        rw [HE.out.2, if_neg (by rw [hz]; decide)]
        exact sl_take HS.out 2
      · have hb0 : (x == 0) = false := beq_eq_false_iff_ne.2 hx
        have HX0 := Aside0.mk hx
        clear hx
        go_wp2_with (fail)
        go_roundg kq
        case measure => omega
        case rel =>
          refine ⟨i + 1, rfl, ⟨by have := HI.out; omega⟩, ⟨fun j hj => ?_⟩, HW⟩
          by_cases hj2 : j < i
          · exact HJ.out j hj2
          · obtain rfl : j = i := by omega
            rw [HX.out]
            exact HX0.out
    · have c1 : decide (i < b.length) = false := decide_eq_false hlt
      have HZ := Aside0.mk (noZ_of (b := b) fun j hj => HJ.out j (by omega))
      have hcv := fun (n_ : Nat) => Kd.C_string (P := Try.prog) (c := c) Try.underlying22 Try.underlying5 Try.underlying9 (Kd.C_drewN HC.out n_)
      have hcw := Kd.C_string (P := Try.prog) (c := c) Try.underlying22 Try.underlying5 Try.underlying9 HC.out
      clear hlt hi
      go_wp2_with (fail)
      try rw [Exit.noGoto_ret]
      go_ret
      refine ⟨by rw [HE.out.1, if_pos HZ.out]; rfl, ?_⟩
      rw [HE.out.2, if_pos HZ.out]
      exact sl_take (by repeat (with_reducible first | exact HS.out | apply sl_drewN | apply sl_drew | apply sl_alloc)) 2
theorem String_sl {w0 w : World} {L : List Res} (h : SL w0 w L) (i : Nat) {g : Nat} {s : RSt} (hi : L[i]? = some (rdS g s)) (most : Int) (ho : RdOk s) :
    Calls Try.prog 24 #[.pointer (some ⟨g, 0, none⟩), .int .i64 most] w fun e w' => e = .returned (.string (strOfNums (strV s most))) ∧ SL w0 w' (L.set i (rdS g (strS s most))) := by
  obtain ⟨S, h1, h2⟩ := sl_lift h hi
  refine (String_in g s most h1 ho).mono ?_
  rintro e w' ⟨h3, h4⟩
  have := h2 _ _ [] h4
  rw [List.append_nil] at this
  exact ⟨h3, this⟩
end Go.Proofs.Ytmihibikhmldgaa.Q
