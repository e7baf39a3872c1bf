-- Written by wip/myprint.py out of the translation; not trusted: Lean checks it.
import Derived.Test.YtkpeeaekffclgaaQx0
import Derived.Test.YtkpeeaekffclgaaQx4
import Derived.Test.YtkpeeaekffclgaaQx6
namespace Go.Proofs.Ytkpeeaekffclgaa.Q
open Go.Proofs.Ytkpeeaekffclgaa.Hand
open Go.RowKit Go.Proofs.YtkpeeaekffclgaaW.PrintWords Go.Proofs.YtkpeeaekffclgaaW.PrintLast Go.Proofs.YtkpeeaekffclgaaW.PrintMore
attribute [local go_sem] max2_int min2_int max_two min_two max_three min_three max_four min_four   -- for this text's walks alone
attribute [local go_sem] sg_u32 sg_u8 sg_u16 sg_u64
set_option linter.unusedVariables false
set_option linter.unusedSimpArgs false

/-! ### repeat_Timer_Advance: function 18 -/
def dueI (r d p i : Int) : Int := wrap64 (wrap64 (p + d) + wrap64 (Int.tdiv (wrap64 (1000 * i)) r))
/-- The time of repetition i: the call only reads. -/
theorem due_calls (g : Nat) (f0 f1 f2 f3 f4 f5 i : Int) (w : World) (hb : w.heap[g]? = some (.cells #[.int .i64 f0, .int .i64 f1, .int .i64 f2, .int .i64 f3, .int .i64 f4, .int .i64 f5] 59 (0, 0))) (h0 : f0 ≠ 0) :
    Calls Try.prog 32 #[.pointer (some ⟨g, 0, none⟩), .int .i64 i] w fun e w' => e = .returned (.int .i64 (dueI f0 f1 f4 i)) ∧ Drawn0 w w' := by
  have hc0 := (blk_cell hb 0).trans (show _ = some (Value.int .i64 f0) from rfl)
  have hc1 := (blk_cell hb 1).trans (show _ = some (Value.int .i64 f1) from rfl)
  have hc4 := (blk_cell hb 4).trans (show _ = some (Value.int .i64 f4) from rfl)
  have hz0 : (f0 == 0) = false := beq_eq_false_iff_ne.mpr h0
  clear hb
  go_enter Try.func32, Try.ntmps32
  go_wp2
  go_quiet (fail)
  go_wp2
  go_ret
  exact ⟨rfl, by repeat (first | exact Drawn0.refl _ | apply Drawn0.step)⟩
set_option maxHeartbeats 4000000 in
set_option maxRecDepth 100000 in
theorem event_calls (g gb : Nat) (f0 f1 f2 f3 f4 f5 i : Int) (w : World) (hb : w.heap[g]? = some (.cells #[.int .i64 f0, .int .i64 f1, .int .i64 f2, .int .i64 f3, .int .i64 f4, .int .i64 f5] 59 (0, 0)))
    (hp : w.heap[gb]? = some (.cells #[.pointer (some ⟨g, 0, none⟩)] 23 (0, 0))) (h0 : f0 ≠ 0) :
    Calls Try.prog 33 #[.int .i64 i, .pointer (some ⟨gb, 0, none⟩)] w fun e w' => e = .returned (.agg #[.int .i64 4, .int .i64 (dueI f0 f1 f4 i), .int .i64 0, .int .i64 0, .int .i64 (wrap64 (f3 - 1)), .int .i64 1]) ∧ Below w.heap.size w w' := by
  have HB := Aside0.mk (Below.refl w.heap.size w)
  have HI := Aside0.mk hb
  have HP := Aside0.mk hp
  clear hb hp
  have hu53 := Try.underlying53
  go_enter Try.func33, Try.ntmps33
  go_upto_region 1 with (first | ((with_reducible refine gate_dst (N := 3) rfl ?_); refine box_event ?hg (N := 3) ?hd (cs := #[.int .i64 0, .int .i64 0, .int .i64 0, .int .i64 0, .int .i64 0, .int .i64 0]) (t := 53) ?hr ?_; (case hd => rfl); (case hg => rfl); (case hr => first | (go_simp; done) | (go_simp; rfl)); intro gr hg w3 hbox hb; have n0_ := Aside0.mk (blk_below HI.out hb); have n1_ := Aside0.mk (blk_below HP.out hb); have n2_ := Aside0.mk hbox; have n3_ := Aside0.mk hb; have n4_ := Aside0.mk (show w.heap.size ≤ gr by omega); have n5_ := Aside0.mk (show gb ≠ gr by have := blk_lt HP.out; omega); have n6_ := Aside0.mk (show g ≠ gr by have := blk_lt HI.out; omega); clear hb hbox hg HI HP HB))
  try simp only [Act.put, List.setIfInBounds_toArray, List.set_cons_zero, List.set_cons_succ]
  have hc0 := (blk_cell n0_.out 3).trans (show _ = some (Value.int .i64 f3) from rfl)
  have hp0 := (blk_cell n1_.out 0).trans (show _ = some (Value.pointer (some ⟨g, 0, none⟩)) from rfl)
  have hz0 := (blk_cell n2_.out 0).trans (show _ = some (Value.int .i64 0) from rfl)
  have hq0 := blk_frozen n2_.out 0
  have hz1 := (blk_cell n2_.out 1).trans (show _ = some (Value.int .i64 0) from rfl)
  have hq1 := blk_frozen n2_.out 1
  have hz2 := (blk_cell n2_.out 2).trans (show _ = some (Value.int .i64 0) from rfl)
  have hq2 := blk_frozen n2_.out 2
  have hz3 := (blk_cell n2_.out 3).trans (show _ = some (Value.int .i64 0) from rfl)
  have hq3 := blk_frozen n2_.out 3
  have hz4 := (blk_cell n2_.out 4).trans (show _ = some (Value.int .i64 0) from rfl)
  have hq4 := blk_frozen n2_.out 4
  have hz5 := (blk_cell n2_.out 5).trans (show _ = some (Value.int .i64 0) from rfl)
  have hq5 := blk_frozen n2_.out 5
  refine start_ (n := 10) (S := fun w' => w'.cell? ⟨gb, 0, none⟩ = some (.pointer (some ⟨g, 0, none⟩)) ∧ w'.cell? ⟨g, 3, none⟩ = some (.int .i64 f3)) (ds := [9]) #[false, false, false, false, false, false, false, false, false, false] (by kernel_rfl) rfl rfl ⟨hp0, hc0⟩ (fun hHeld => ?_)
  refine pure_ (i := 1) (N := some 5) (v := ?_) (a' := ?_) #[false, true, false, false, false, false, false, false, false, false] rfl rfl (by kernel_rfl) (fun _ _ _ h => h) (Or.inl ⟨by rfl, ?_⟩) ?_ ?_
  rotate_left
  · intro w'
    go_simp
    with_reducible rfl
  rotate_left
  · simp only [Act.put, List.setIfInBounds_toArray, List.set_cons_zero, List.set_cons_succ, i64_w, i32_w, IntKind.wrap_u32, IntKind.wrap_u8, IntKind.wrap_u16]
    rfl
  refine take_ (i := 0) (N := some 4) (v := ?_) (a' := ?_) #[true, true, false, false, false, false, false, false, false, false] rfl rfl (by kernel_rfl) (fun _ _ _ h => h) (Or.inl ⟨by rfl, ?_⟩) hHeld ?_ ?_
  rotate_left
  · rintro w' ⟨s0, s1⟩
    go_simp
    with_reducible rfl
  rotate_left
  · simp only [Act.put, List.setIfInBounds_toArray, List.set_cons_zero, List.set_cons_succ, i64_w, i32_w, IntKind.wrap_u32, IntKind.wrap_u8, IntKind.wrap_u16]
    rfl
  refine take_ (i := 3) (N := some 7) (v := ?_) (a' := ?_) #[true, true, false, true, false, false, false, false, false, false] rfl rfl (by kernel_rfl) (fun _ _ _ h => h) (Or.inl ⟨by rfl, ?_⟩) hHeld ?_ ?_
  rotate_left
  · rintro w' ⟨s0, s1⟩
    go_simp
    with_reducible rfl
  rotate_left
  · simp only [Act.put, List.setIfInBounds_toArray, List.set_cons_zero, List.set_cons_succ, i64_w, i32_w, IntKind.wrap_u32, IntKind.wrap_u8, IntKind.wrap_u16]
    rfl
  refine pure_ (i := 4) (N := some 8) (v := ?_) (a' := ?_) #[true, true, false, true, true, false, false, false, false, false] rfl rfl (by kernel_rfl) (fun _ _ _ h => h) (Or.inl ⟨by rfl, ?_⟩) ?_ ?_
  rotate_left
  · intro w'
    go_simp
    with_reducible rfl
  rotate_left
  · simp only [Act.put, List.setIfInBounds_toArray, List.set_cons_zero, List.set_cons_succ, i64_w, i32_w, IntKind.wrap_u32, IntKind.wrap_u8, IntKind.wrap_u16]
    rfl
  refine pure_ (i := 5) (N := some 9) (v := ?_) (a' := ?_) #[true, true, false, true, true, true, false, false, false, false] rfl rfl (by kernel_rfl) (fun _ _ _ h => h) (Or.inl ⟨by rfl, ?_⟩) ?_ ?_
  rotate_left
  · intro w'
    go_simp
    with_reducible rfl
  rotate_left
  · simp only [Act.put, List.setIfInBounds_toArray, List.set_cons_zero, List.set_cons_succ, i64_w, i32_w, IntKind.wrap_u32, IntKind.wrap_u8, IntKind.wrap_u16]
    rfl
  refine take_ (i := 6) (N := some 10) (v := ?_) (a' := ?_) #[true, true, false, true, true, true, true, false, false, false] rfl rfl (by kernel_rfl) (fun _ _ _ h => h) (Or.inl ⟨by rfl, ?_⟩) hHeld ?_ ?_
  rotate_left
  · rintro w' ⟨s0, s1⟩
    go_simp
    with_reducible rfl
  rotate_left
  · simp only [Act.put, List.setIfInBounds_toArray, List.set_cons_zero, List.set_cons_succ, i64_w, i32_w, IntKind.wrap_u32, IntKind.wrap_u8, IntKind.wrap_u16]
    rfl
  refine pure_ (i := 7) (N := some 11) (v := ?_) (a' := ?_) #[true, true, false, true, true, true, true, true, false, false] rfl rfl (by kernel_rfl) (fun _ _ _ h => h) (Or.inl ⟨by rfl, ?_⟩) ?_ ?_
  rotate_left
  · intro w'
    go_simp
    with_reducible rfl
  rotate_left
  · simp only [Act.put, List.setIfInBounds_toArray, List.set_cons_zero, List.set_cons_succ, i64_w, i32_w, IntKind.wrap_u32, IntKind.wrap_u8, IntKind.wrap_u16]
    rfl
  refine one_ (i := 2) (N := some 6) #[true, true, true, true, true, true, true, true, false, false] rfl rfl (by kernel_rfl) (by decide) (fun K hK => ?_)
  refine goes_ Try.func32 (by kernel_rfl) rfl #[.pointer (some ⟨g, 0, none⟩), .int .i64 i] (by rfl) rfl rfl (by simp only [List.map_toArray, List.map_cons, List.map_nil]; rfl) ?_
  with_reducible refine (due_calls g f0 f1 f2 f3 f4 f5 i _ (blk_drew n0_.out) h0).mono ?_
  rintro e w4 ⟨rfl, ⟨nd, rfl⟩⟩
  refine ⟨_, rfl, ?_⟩
  refine hK.out _ _ ⟨hp0, hc0⟩ (fun hHeld => ?_)
  clear hK K
  refine norm_ (a' := ?_) ?_ ?_
  rotate_left
  · show Act.put _ (some 6) _ = _
    simp only [Act.put, List.setIfInBounds_toArray, List.set_cons_zero, List.set_cons_succ, i64_w, i32_w, IntKind.wrap_u32, IntKind.wrap_u8, IntKind.wrap_u16]
    rfl
  refine pure_ (i := 8) (N := some 12) (v := ?_) (a' := ?_) #[true, true, true, true, true, true, true, true, true, false] rfl rfl (by kernel_rfl) (fun _ _ _ h => h) (Or.inl ⟨by rfl, ?_⟩) ?_ ?_
  rotate_left
  · intro w'
    go_simp
    with_reducible rfl
  rotate_left
  · simp only [Act.put, List.setIfInBounds_toArray, List.set_cons_zero, List.set_cons_succ, i64_w, i32_w, IntKind.wrap_u32, IntKind.wrap_u8, IntKind.wrap_u16]
    rfl
  refine last_ (i := 9) (N := none) #[true, true, true, true, true, true, true, true, true, true] rfl rfl (by kernel_rfl) (by decide) (fun K hK => ?_)
  refine skip_ (w1 := ?_) (by rfl) rfl ?_ ?_
  rotate_left
  · go_simp
    rfl
  refine hK.out _ _ ?_
  clear hK K
  refine done_ (by kernel_rfl) ?_
  go_wp2
  refine bodyPost_ret (results_cell_row rfl _ _ gr 53 #[.int .i64 4, .int .i64 (dueI f0 f1 f4 i), .int .i64 0, .int .i64 0, .int .i64 (wrap64 (f3 - 1)), .int .i64 1] (0, 0) _ rfl (by exact blk_set (blk_set (blk_set (blk_set (blk_set (blk_set (blk_drewN n2_.out (1 + nd)) 0 _) 1 _) 2 _) 3 _) 4 _) 5 _) Try.underlying53 rfl (by kernel_rfl)) rfl ?_
  exact ⟨rfl, by repeat (first | (with_reducible exact n3_.out) | refine below_set ?_ n4_.out | apply pw_below_drewN | apply below_drew1)⟩
/-- Whether New made it: the call only reads. -/
theorem usable_calls (g : Nat) (f0 f1 f2 f3 f4 f5 : Int) (w : World) (hb : w.heap[g]? = some (.cells #[.int .i64 f0, .int .i64 f1, .int .i64 f2, .int .i64 f3, .int .i64 f4, .int .i64 f5] 59 (0, 0))) :
    Calls Try.prog 31 #[.pointer (some ⟨g, 0, none⟩)] w fun e w' => e = .returned (.bool (decide (0 < f1))) ∧ Drawn0 w w' := by
  have hc1 := (blk_cell hb 1).trans (show _ = some (Value.int .i64 f1) from rfl)
  clear hb
  go_enter Try.func31, Try.ntmps31
  go_wp2
  go_ret
  exact ⟨rfl, by repeat (first | exact Drawn0.refl _ | apply Drawn0.step)⟩
theorem due_quiet (g : Nat) (f0 f1 f2 f3 f4 f5 i : Int) (w : World) (hb : w.heap[g]? = some (.cells #[.int .i64 f0, .int .i64 f1, .int .i64 f2, .int .i64 f3, .int .i64 f4, .int .i64 f5] 59 (0, 0))) (h0 : f0 ≠ 0) (a : Nat) :
    Calls Try.prog 32 #[.pointer (some ⟨g, 0, none⟩), .int .i64 i] (w.drewN a) fun e w' => e = .returned (.int .i64 (dueI f0 f1 f4 i)) ∧ ∃ n, w' = w.drewN n :=
  (due_calls g f0 f1 f2 f3 f4 f5 i (w.drewN a) (blk_drewN hb a) h0).mono fun e w' ⟨he, m, hm⟩ => ⟨he, a + m, by rw [hm, World.drewN_drewN]⟩
def evAt (r d p a n : Int) (i : Nat) : S53 := ⟨4, dueI r d p (n + i), 0, 0, wrap64 (a - 1), 1⟩
def evs (r d p a n : Int) (m : Nat) : List S53 := (List.range m).map (evAt r d p a n)
theorem evs_len (r d p a n : Int) (m : Nat) : (evs r d p a n m).length = m := by simp [evs]
theorem evs_succ (r d p a n : Int) (m : Nat) : evs r d p a n (m + 1) = evs r d p a n m ++ [evAt r d p a n m] := by simp [evs, List.range_succ]
def afterI (r d p c : Int) : Int := wrap64 (Int.tdiv (wrap64 (wrap64 (wrap64 (wrap64 (wrap64 (wrap64 (c - p) - d) + 1) * r) + 1000) - 1)) 1000)
/-- What Advance answers, and the state behind it. -/
def repeat_Timer_Advance.f (r d c a p n now : Int) : Option (List S53 × Int × Int × Int × Int × Int × Int) :=
  if 0 < d then
    if a = 0 then some ([], r, d, mx c (mn now 1099511627776), a, p, n)
    else if r = 0 then some ([], r, d, mx c (mn now 1099511627776), a, p, n)
    else if mx c (mn now 1099511627776) < dueI r d p n then some ([], r, d, mx c (mn now 1099511627776), a, p, n)
    else if 0 ≤ n ∧ n < 4611686018427387904 then some (evs r d p a n (mn (wrap64 (afterI r d p (mx c (mn now 1099511627776)) - n)) 256).toNat, r, d, mx c (mn now 1099511627776), a, p, afterI r d p (mx c (mn now 1099511627776)))
    else none
  else none
theorem keep_below {w w1 w2 : World} {g : Nat} (h : KeepBut w w1 g none) (k : Below w.heap.size w1 w2) : KeepBut w w2 g none :=
  ⟨Nat.le_trans h.1 k.size, fun i hi hg hr => (k.block i hi).trans (h.2 i hi hg hr)⟩
set_option maxHeartbeats 4000000 in
set_option maxRecDepth 100000 in
theorem repeat_Timer_Advance.calls (g : Nat) (s0_0 : Int) (s0_1 : Int) (s0_2 : Int) (s0_3 : Int) (s0_4 : Int) (s0_5 : Int) (a1 : Int) (r1 : List S53) (r2 r3 r4 r5 r6 r7 : Int) (w0 w : World) (hI : IsS59 w0 w g s0_0 s0_1 s0_2 s0_3 s0_4 s0_5) (hB : Below w0.heap.size w0 w)
    (h : repeat_Timer_Advance.f s0_0 s0_1 s0_2 s0_3 s0_4 s0_5 a1 = some (r1, r2, r3, r4, r5, r6, r7)) :
    Calls Try.prog 18 #[.pointer (some ⟨g, 0, none⟩), .int .i64 a1] w fun e w' => ∃ v0_ : Value, e = .returned v0_ ∧ Kd.R k53 53 w' w.heap.size (fun _ => True) v0_ r1 ∧ IsS59 w0 w' g r2 r3 r4 r5 r6 r7 ∧ Below w0.heap.size w0 w' ∧ KeepBut w w' g none := by
  have HI := Aside0.mk hI.1
  have HG := Aside0.mk hI.2
  have HG2 := Aside0.mk (blk_lt hI.1)
  have HB := Aside0.mk hB
  clear hI hB
  have HX := Aside0.mk (Below.refl w.heap.size w)
  unfold repeat_Timer_Advance.f at h
  by_cases hd : 0 < s0_1
  case neg => rw [if_neg hd] at h; exact absurd h (by simp)
  rw [if_pos hd] at h
  have H := Aside0.mk h
  clear h
  have hdt : decide (0 < s0_1) = true := decide_eq_true hd
  go_enter Try.func18, Try.ntmps18
  go_upto_region 4 with (first
    | ((with_reducible refine gate_dst (N := 2) rfl ?_); refine box_event ?hg (N := 2) ?hd (cs := #[.pointer (some ⟨g, 0, none⟩)]) (t := 23) ?hr ?_; (case hd => rfl); (case hg => rfl); (case hr => first | (go_simp; done) | (go_simp; rfl)); intro gb hg w1 hbox hb; have HI1 := Aside0.mk (blk_below HI.out hb); have HP1 := Aside0.mk hbox; have HB1 := Aside0.mk (below_then HB.out (by have := HG.out; have := HG2.out; omega) hb); have HX1 := Aside0.mk hb; have HN := Aside0.mk (show gb ≠ g by have := HG2.out; omega); have hp1 := (blk_cell HP1.out 0).trans (show _ = some (Value.pointer (some ⟨g, 0, none⟩)) from rfl); clear hb hbox hg HI HB HX)
    | (go_at_call 31; refine (usable_calls g _ _ _ _ _ _ _ HI1.out).mono ?_; rintro e w2 ⟨rfl, ⟨nd, rfl⟩⟩; rw [hdt])
    | (go_at_call 28; refine Calls.mono (repeat_Timer_set.calls g s0_0 s0_1 s0_2 s0_3 s0_4 s0_5 a1 s0_0 s0_1 (mx s0_2 (mn a1 1099511627776)) s0_3 s0_4 s0_5 w0 _ ⟨HI1.out, HG.out⟩ (pw_below_drewN HB1.out _) rfl) ?_; rintro e w3 ⟨rfl, hi, hb, hk⟩; have HI3 := Aside0.mk hi.1; have HB3 := Aside0.mk hb; have HP3 := Aside0.mk (hk.blk (blk_drewN HP1.out _) HN.out (by simp)); have HK3 := Aside0.mk (KeepBut.trans (KeepBut.of_below HX1.out g none) hk (.inl rfl)); clear hi hb hk hp1 HI1 HB1 HP1 HX1))
  try simp only [Act.put, List.setIfInBounds_toArray, List.set_cons_zero, List.set_cons_succ]
  generalize hc' : mx s0_2 (mn a1 1099511627776) = c at H HI3
  clear hc'
  have hp := (blk_cell HP3.out 0).trans (show _ = some (Value.pointer (some ⟨g, 0, none⟩)) from rfl)
  have h0 := (blk_cell HI3.out 0).trans (show _ = some (Value.int .i64 s0_0) from rfl)
  have h1 := (blk_cell HI3.out 1).trans (show _ = some (Value.int .i64 s0_1) from rfl)
  have h2 := (blk_cell HI3.out 2).trans (show _ = some (Value.int .i64 c) from rfl)
  have h3 := (blk_cell HI3.out 3).trans (show _ = some (Value.int .i64 s0_3) from rfl)
  have h4 := (blk_cell HI3.out 4).trans (show _ = some (Value.int .i64 s0_4) from rfl)
  have h5 := (blk_cell HI3.out 5).trans (show _ = some (Value.int .i64 s0_5) from rfl)
  by_cases ca : s0_3 = 0
  · have hab : (s0_3 == 0) = true := beq_iff_eq.mpr ca
    have H2 := H.out
    rw [if_pos ca] at H2
    simp only [Option.some.injEq, Prod.mk.injEq] at H2
    obtain ⟨rfl, rfl, rfl, rfl, rfl, rfl, rfl⟩ := H2
    clear ca
    go_wp2
    go_quiet (fail)
    go_wp2
    go_ret
    exact ⟨_, rfl, Kd.R_nil _ _ _ _ _, ⟨HI3.out, HG.out⟩, pw_below_drewN HB3.out _, HK3.out⟩
  have hab : (s0_3 == 0) = false := beq_eq_false_iff_ne.mpr ca
  by_cases cr : s0_0 = 0
  · have hrb : (s0_0 == 0) = true := beq_iff_eq.mpr cr
    have H2 := H.out
    rw [if_neg ca, if_pos cr] at H2
    simp only [Option.some.injEq, Prod.mk.injEq] at H2
    obtain ⟨rfl, rfl, rfl, rfl, rfl, rfl, rfl⟩ := H2
    clear ca cr
    go_wp2
    go_quiet (fail)
    go_wp2
    go_ret
    exact ⟨_, rfl, Kd.R_nil _ _ _ _ _, ⟨HI3.out, HG.out⟩, pw_below_drewN HB3.out _, HK3.out⟩
  have hrb : (s0_0 == 0) = false := beq_eq_false_iff_ne.mpr cr
  by_cases cd : c < dueI s0_0 s0_1 s0_4 s0_5
  · have hdb : decide (c < dueI s0_0 s0_1 s0_4 s0_5) = true := decide_eq_true cd
    have H2 := H.out
    rw [if_neg ca, if_neg cr, if_pos cd] at H2
    simp only [Option.some.injEq, Prod.mk.injEq] at H2
    obtain ⟨rfl, rfl, rfl, rfl, rfl, rfl, rfl⟩ := H2
    have CR := Aside0.mk cr
    clear ca cr cd
    go_wp2
    go_quiet ((go_at_call 32; exact due_quiet g _ _ _ _ _ _ _ _ HI3.out CR.out _))
    go_wp2
    go_ret
    exact ⟨_, rfl, Kd.R_nil _ _ _ _ _, ⟨HI3.out, HG.out⟩, pw_below_drewN HB3.out _, HK3.out⟩
  have hdb : decide (c < dueI s0_0 s0_1 s0_4 s0_5) = false := decide_eq_false cd
  have H2 := H.out
  rw [if_neg ca, if_neg cr, if_neg cd] at H2
  clear H
  by_cases cn : 0 ≤ s0_5 ∧ s0_5 < 4611686018427387904
  case neg => rw [if_neg cn] at H2; exact absurd H2 (by simp)
  rw [if_pos cn] at H2
  obtain ⟨M, hM⟩ : ∃ M, mn (wrap64 (afterI s0_0 s0_1 s0_4 c - s0_5)) 256 = M := ⟨_, rfl⟩
  rw [hM] at H2
  have hM2 : M ≤ 256 := by rw [← hM]; unfold mn; split <;> omega
  have hM' : (if 256 < wrap64 (wrap64 (Int.tdiv (wrap64 (wrap64 (wrap64 (wrap64 (wrap64 (wrap64 (c - s0_4) - s0_1) + 1) * s0_0) + 1000) - 1)) 1000) - s0_5) then 256 else wrap64 (wrap64 (Int.tdiv (wrap64 (wrap64 (wrap64 (wrap64 (wrap64 (wrap64 (c - s0_4) - s0_1) + 1) * s0_0) + 1000) - 1)) 1000) - s0_5)) = M := hM
  simp only [Option.some.injEq, Prod.mk.injEq] at H2
  obtain ⟨rfl, rfl, rfl, rfl, rfl, rfl, rfl⟩ := H2
  have CR := Aside0.mk cr
  have CN := Aside0.mk cn
  clear ca cr cd cn hM
  go_wp2
  go_quiet ((go_at_call 32; exact due_quiet g _ _ _ _ _ _ _ _ HI3.out CR.out _))
  go_wp2
  go_quiet (fail)
  go_wp2
  clear hM' hdb hrb hab hdt hd
  generalize hW : w3.drewN _ = w4
  have HI4 := Aside0.mk (show w4.heap[g]? = some (.cells #[.int .i64 s0_0, .int .i64 s0_1, .int .i64 c, .int .i64 s0_3, .int .i64 s0_4, .int .i64 s0_5] 59 (0, 0)) from by rw [← hW]; exact HI3.out)
  have HP4 := Aside0.mk (show w4.heap[gb]? = some (.cells #[.pointer (some ⟨g, 0, none⟩)] 23 (0, 0)) from by rw [← hW]; exact HP3.out)
  have HB4 := Aside0.mk (show Below w0.heap.size w0 w4 from by rw [← hW]; exact pw_below_drewN HB3.out _)
  have HK4 := Aside0.mk (show KeepBut w w4 g none from by rw [← hW]; exact keep_drewN HK3.out _)
  clear hW HI3 HP3 HB3 HK3 hp h0 h1 h2 h3 h4 h5
  go_loopg [8, 73] M.toNat (fun kq v8 v73 wr => ∃ i : Nat, v73 = .int .i64 (i : Int) ∧ Aside0 (i + kq = M.toNat) ∧ Aside0 (wr.heap[g]? = some (.cells #[.int .i64 s0_0, .int .i64 s0_1, .int .i64 c, .int .i64 s0_3, .int .i64 s0_4, .int .i64 s0_5] 59 (0, 0))) ∧ Aside0 (wr.heap[gb]? = some (.cells #[.pointer (some ⟨g, 0, none⟩)] 23 (0, 0))) ∧ Aside0 (Below w.heap.size w4 wr) ∧ Aside0 (Kd.R k53 53 wr w.heap.size (fun _ => True) v8 (evs s0_0 s0_1 s0_4 s0_3 s0_5 i)))
  case atStart => exact ⟨0, rfl, ⟨by omega⟩, HI4, HP4, ⟨Below.refl _ _⟩, ⟨Kd.R_nil _ _ _ _ _⟩⟩
  case round =>
    obtain ⟨i, rfl, HM, HI, HP, HX, HR⟩ := hrel
    have hi := HM.out
    have hp := (blk_cell HP.out 0).trans (show _ = some (Value.pointer (some ⟨g, 0, none⟩)) from rfl)
    have h5 := (blk_cell HI.out 5).trans (show _ = some (Value.int .i64 s0_5) from rfl)
    by_cases hlt : (i : Int) < M
    · have hdb : decide ((i : Int) < M) = true := decide_eq_true hlt
      have hk : gk = (gk - 1) + 1 := by omega
      have HLT := Aside0.mk hlt
      have hn0 := CN.out.1
      have hn1 := CN.out.2
      have hi256 : (i : Int) < 256 := by omega
      have hi0 : (0 : Int) ≤ (i : Int) := by omega
      clear hi hlt
      go_wp2_with (first
        | (go_at_call 33; refine Calls.mono (event_calls g gb s0_0 s0_1 c s0_3 s0_4 s0_5 (s0_5 + (i : Int)) _ HI.out HP.out CR.out) ?_; rintro e w5 ⟨rfl, hb5⟩; have HX5 := Aside0.mk (below_then HX.out (by have := HX.out.size; have := HK4.out.1; omega) hb5); have HI5 := Aside0.mk (blk_below HI.out hb5); have HP5 := Aside0.mk (blk_below HP.out hb5); have HR5 := Aside0.mk (Kd.R_below HR.out hb5); clear hb5)
        | ((with_reducible refine gate_builtin (b := .append) (xs := #[.tmp 76, .tmp 85]) rfl ?_); refine Aside0.out ?_))
      constructor
      at_builtin
      refine Kd.R_append k53 (w0 := w4) w.heap.size rfl (.tmp 76) (.tmp 85) 36 53 (.agg #[(.int .i64 0), (.int .i64 0), (.int .i64 0), (.int .i64 0), (.int .i64 0), (.int .i64 0)]) 48 rfl Try.underlying36 info53 rfl (by decide) (by omega) u8 (evs s0_0 s0_1 s0_4 s0_3 s0_5 i) (evAt s0_0 s0_1 s0_4 s0_3 s0_5 i) [.int .i64 4, .int .i64 (dueI s0_0 s0_1 s0_4 (s0_5 + (i : Int))), .int .i64 0, .int .i64 0, .int .i64 (wrap64 (s0_3 - 1)), .int .i64 1] (fun _ => True) (fun _ => False) rfl rfl ?aP (fun _ hk => hk.elim) ?aF ?aO ?aB ?aS ?aL ?_
      case aP => exact k53_mkM _ _ _ (evAt s0_0 s0_1 s0_4 s0_3 s0_5 i)
      case aF => exact fun _ _ => trivial
      case aO => exact HR5.out
      case aB => exact HX5.out
      case aS => have := HX5.out.size; have := HK4.out.1; omega
      case aL => rw [evs_len]; have := HLT.out; omega
      intro v6 w6 ho6 hb6 hg6 hat6
      rw [← evs_succ] at ho6
      have HR6 := Aside0.mk ho6
      have HX6 := Aside0.mk hb6
      have HI6 := Aside0.mk (blk_grown HI5.out hg6 (Kd.R_ne HR5.out HI5.out (by decide)))
      have HP6 := Aside0.mk (blk_grown HP5.out hg6 (Kd.R_ne HR5.out HP5.out (by decide)))
      clear ho6 hb6 hg6 hat6 hp h5 HX5 HI5 HP5 HR5 HX HI HP HR
      go_wp2
      go_roundg (gk - 1)
      case measure => omega
      case rel => exact ⟨i + 1, rfl, ⟨by have := HM.out; omega⟩, HI6, HP6, HX6, HR6⟩
    · have hdb : decide ((i : Int) < M) = false := decide_eq_false hlt
      have hz : gk = 0 := by omega
      subst hz
      have e : i = M.toNat := by omega
      clear hi hlt
      have hf5 := blk_frozen HI.out 5
      go_wp2
      go_ret
      rw [← e]
      exact ⟨_, rfl, Kd.R_set HR.out HI.out (by decide) 5 _, ⟨blk_put HI.out 5 _ rfl, HG.out⟩, by
        refine Below.setCell (HB4.out.trans (HX.out.mono ?_)) HG.out _
        have := HB4.out.size; have := HG.out; have := HG2.out
        omega, KeepBut.set_ (keep_below HK4.out HX.out) 5 _⟩

end Go.Proofs.Ytkpeeaekffclgaa.Q
