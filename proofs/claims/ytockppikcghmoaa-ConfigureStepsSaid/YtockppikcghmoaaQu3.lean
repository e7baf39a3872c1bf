import Derived.Test.YtockppikcghmoaaQu2
namespace Go.Proofs.Ytockppikcghmoaa.Q
open Go.RowKit Go.Proofs.YtockppikcghmoaaW.PrintWords Go.Proofs.YtockppikcghmoaaW.PrintLast Go.Proofs.YtockppikcghmoaaW.PrintMore Go.Proofs.Ytockppikcghmoaa.Sl Go.Proofs.Ytockppikcghmoaa.Hand 
attribute [local go_sem] max2_int min2_int max_two min_two max_three min_three max_four min_four 
set_option linter.unusedVariables false
set_option linter.unusedSimpArgs false

theorem info40 : (Try.prog.info? 40).map (fun i => (i.zero, i.size, i.bytes)) = some (some (.agg #[(.int .u32 0), (.int .i64 0), (.int .i64 0), (.int .i64 0)]), 4, 32) := by kernel_rfl
def sendE (q : QSt) (s a b : Int) : Int :=
  if 0 ≤ findI q.wait s then 7 else if a < 0 ∨ b < 0 ∨ 16384 < a ∨ 16384 < b then 6 else if 64 ≤ q.wait.length then 5 else 0
def sendS (q : QSt) (s a b st : Int) : QSt := if sendE q s a b = 0 then { q with wait := q.wait ++ [⟨s, a, b, st⟩] } else q
/-- Nothing but what is new has turned: the thing stays as it is. -/
theorem queue_below {g : Nat} {q : QSt} {F : Nat → Prop} {w w' : World} (h : (queueR g q).P w F) (hF : ∀ k, F k → k < w.heap.size) (hb : Below w.heap.size w w') :
    (∃ F' : Nat → Prop, (queueR g q).P w' F' ∧ ∀ k, F' k → (F k ∨ w.heap.size ≤ k) ∧ k < w'.heap.size) ∧ Chg F w w' :=
  ⟨⟨F, (queueR g q).loc h (fun k _ hlt => hb.block k hlt), fun k hk => ⟨.inl hk, Nat.lt_of_lt_of_le (hF k hk) hb.size⟩⟩, Chg.of_below hb⟩
set_option maxHeartbeats 2000000 in
set_option maxRecDepth 100000 in
theorem Send_base (g : Nat) (q : QSt) (s a b st : Int) (F : Nat → Prop) (w : World) (hP : (queueR g q).P w F) (hF : ∀ k, F k → k < w.heap.size) :
    Calls Try.prog 12 #[.pointer (some ⟨g, 0, none⟩), .int .u32 s, .int .i64 a, .int .i64 b, .int .i64 st] w fun e w' => e = .returned (.int .i64 (sendE q s a b)) ∧
      (∃ F' : Nat → Prop, (queueR g (sendS q s a b st)).P w' F' ∧ ∀ k, F' k → (F k ∨ w.heap.size ≤ k) ∧ k < w'.heap.size) ∧ Chg F w w' := by
  have HP := Aside0.mk hP
  have HF := Aside0.mk hF
  obtain ⟨v, Fr, hq, hb, hg, hr⟩ := hP
  have HQ := Aside0.mk hq
  have HBk := Aside0.mk hb
  have HG := Aside0.mk hg
  have HR := Aside0.mk hr
  clear hq hb hg hr hF
  have out (e : Int) (he : e ≠ 0) (h : sendE q s a b = e) : ∀ w', Below w.heap.size w w' → Ending.returned (.int .i64 e) = .returned (.int .i64 (sendE q s a b)) ∧
      (∃ F' : Nat → Prop, (queueR g (sendS q s a b st)).P w' F' ∧ ∀ k, F' k → (F k ∨ w.heap.size ≤ k) ∧ k < w'.heap.size) ∧ Chg F w w' := fun w' hw => by
    unfold sendS
    rw [h, if_neg he]
    exact ⟨rfl, queue_below HP.out HF.out hw⟩
  have HO := Aside0.mk out
  clear out
  by_cases c1 : 0 ≤ findI q.wait s
  · have b1 : decide (0 ≤ findI q.wait s) = true := decide_eq_true c1
    have E := Aside0.mk (show sendE q s a b = 7 by unfold sendE; rw [if_pos c1])
    clear c1
    go_enter Try.func12, Try.ntmps12
    go_wp2_with (first
      | (go_at_call 24; refine (usable_calls g v q _ HBk.out).mono ?_; rintro e w1 ⟨rfl, rfl⟩)
      | (go_at_call 25; refine (find_calls g v Fr q s _ HQ.out HBk.out).mono ?_; rintro e w1 ⟨rfl, hb⟩; have HB := Aside0.mk hb; clear hb))
    go_ret
    exact HO.out 7 (by decide) E.out _ HB.out
  have b1 : decide (0 ≤ findI q.wait s) = false := decide_eq_false c1
  rcases Int.lt_trichotomy b a with co | rfl | co
  · by_cases c2 : b < 0
    · have b2 : decide (b < 0) = true := decide_eq_true c2
      have E := Aside0.mk (show sendE q s a b = 6 by unfold sendE; rw [if_neg c1, if_pos (by omega)])
      go_enter Try.func12, Try.ntmps12
      go_wp2_with (first
        | (go_at_call 24; refine (usable_calls g v q _ HBk.out).mono ?_; rintro e w1 ⟨rfl, rfl⟩)
        | (go_at_call 25; refine (find_calls g v Fr q s _ HQ.out HBk.out).mono ?_; rintro e w1 ⟨rfl, hb⟩; have HB := Aside0.mk hb; clear hb))
      go_ret
      exact HO.out 6 (by decide) E.out _ HB.out
    have b2 : decide (b < 0) = false := decide_eq_false c2
    by_cases c3 : 16384 < a
    · have b3 : decide (16384 < a) = true := decide_eq_true c3
      have E := Aside0.mk (show sendE q s a b = 6 by unfold sendE; rw [if_neg c1, if_pos (by omega)])
      go_enter Try.func12, Try.ntmps12
      go_wp2_with (first
        | (go_at_call 24; refine (usable_calls g v q _ HBk.out).mono ?_; rintro e w1 ⟨rfl, rfl⟩)
        | (go_at_call 25; refine (find_calls g v Fr q s _ HQ.out HBk.out).mono ?_; rintro e w1 ⟨rfl, hb⟩; have HB := Aside0.mk hb; clear hb))
      go_ret
      exact HO.out 6 (by decide) E.out _ HB.out
    have b3 : decide (16384 < a) = false := decide_eq_false c3
    by_cases c4 : 64 ≤ q.wait.length
    · have b4 : decide (64 ≤ q.wait.length) = true := decide_eq_true c4
      have b4' : decide (64 ≤ (q.wait.length : Int)) = true := decide_eq_true (by omega)
      have E := Aside0.mk (show sendE q s a b = 5 by unfold sendE; rw [if_neg c1, if_neg (by omega), if_pos c4])
      obtain ⟨A, c, rfl, hc, _⟩ := HQ.out.reads flat40
      clear c4 hc
      go_enter Try.func12, Try.ntmps12
      go_wp2_with (first
        | (go_at_call 24; refine (usable_calls g _ q _ HBk.out).mono ?_; rintro e w1 ⟨rfl, rfl⟩)
        | (go_at_call 25; refine (find_calls g _ Fr q s _ HQ.out HBk.out).mono ?_; rintro e w1 ⟨rfl, hb⟩; have HB := Aside0.mk hb; have h3 := (blk_cell (blk_below HBk.out HB.out) 3).trans (show _ = some (Value.slice A q.wait.length c) from rfl); clear hb))
      go_ret
      exact HO.out 5 (by decide) E.out _ HB.out
    have b4 : decide (64 ≤ q.wait.length) = false := decide_eq_false c4
    have b4' : decide (64 ≤ (q.wait.length : Int)) = false := decide_eq_false (by omega)
    have HL := Aside0.mk c4
    have E := Aside0.mk (show sendE q s a b = 0 by unfold sendE; rw [if_neg c1, if_neg (by omega), if_neg c4])
    obtain ⟨A, c, rfl, hc, _⟩ := HQ.out.reads flat40
    clear c4 hc
    go_enter Try.func12, Try.ntmps12
    go_wp2_with (first
      | (go_at_call 24; refine (usable_calls g _ q _ HBk.out).mono ?_; rintro e w1 ⟨rfl, rfl⟩)
      | (go_at_call 25; refine (find_calls g _ Fr q s _ HQ.out HBk.out).mono ?_; rintro e w1 ⟨rfl, hb⟩; have HB := Aside0.mk hb; have HBk1 := Aside0.mk (blk_below HBk.out HB.out); have h3 := (blk_cell HBk1.out 3).trans (show _ = some (Value.slice A q.wait.length c) from rfl); clear hb)
      | (at_builtin; refine LR.append_one flat40 rfl (.tmp 42) (.tmp 48) 52 (.agg #[.int .u32 0, .int .i64 0, .int .i64 0, .int .i64 0]) 32 rfl Try.underlying52 info40 rfl (by decide) (by decide) (⟨s, a, b, st⟩ : S40) [.int .u32 s, .int .i64 a, .int .i64 b, .int .i64 st] rfl rfl rfl (HQ.out.below HB.out) (by have := HL.out; omega) ?_; intro v1 w2 hq1 hg1; have HQ2 := Aside0.mk hq1; have HBk2 := Aside0.mk (blk_grown HBk1.out hg1 ((HQ.out.below HB.out).ne HBk1.out (by decide))); have HC2 := Aside0.mk (Chg.grown (Chg.of_below (F := F) HB.out) hg1 (fun k hk => .inl (HR.out k (HQ.out.1 k hk)).1)); obtain ⟨A1, c1, hv1, _⟩ := HQ2.out.slice; rw [show (q.wait ++ [(⟨s, a, b, st⟩ : S40)]).length = q.wait.length + 1 from by simp] at hv1; subst hv1; have h3' := (blk_cell HBk2.out 3).trans (show _ = some (Value.slice A q.wait.length c) from rfl); have f3' := blk_frozen HBk2.out 3; clear hq1 hg1))
    go_ret
    have hgl : g < w.heap.size := HF.out g HG.out
    refine ⟨ret_i E.out.symm, ⟨fun k => (F k ∨ w.heap.size ≤ k) ∧ k < (w2.setCell ⟨g, 3, none⟩ (.slice A1 (q.wait.length + 1) c1)).heap.size, ?_, fun k hk => hk⟩, HC2.out.setCell (.inl HG.out) _⟩
    unfold sendS
    rw [if_pos E.out]
    refine ⟨.slice A1 (q.wait.length + 1) c1, fun k => (Fr k ∨ w.heap.size ≤ k) ∧ k < w2.heap.size, ?_, ?_, ?_, ?_⟩
    · refine LR.mono (LR.bound (LR.far (p := ⟨g, 3, none⟩) (LR.mono (LR.bound HQ2.out) (F' := fun k => ((Fr k ∨ w.heap.size ≤ k) ∧ k < w2.heap.size) ∧ k ≠ g) (fun k hk => ?_)) (fun h => h.2 rfl) _)) (fun k hk => hk.1.1)
      refine ⟨⟨hk.1.imp_right (fun h => Nat.le_trans HB.out.size h), hk.2.1⟩, ?_⟩
      rintro rfl
      rcases hk.1 with h1 | h1
      · exact (HR.out k h1).2 rfl
      · have := HB.out.size
        omega
    · have := blk_set HBk2.out 3 (.slice A1 (q.wait.length + 1) c1)
      exact this
    · refine ⟨.inl HG.out, ?_⟩
      have := HC2.out.size
      simp [World.setCell]
      omega
    · rintro k ⟨h1, h2⟩
      refine ⟨⟨h1.imp_left (fun h => (HR.out k h).1), by simpa [World.setCell] using h2⟩, ?_⟩
      rintro rfl
      rcases h1 with h1 | h1
      · exact (HR.out k h1).2 rfl
      · omega
  · by_cases c2 : b < 0
    · have b2 : decide (b < 0) = true := decide_eq_true c2
      have E := Aside0.mk (show sendE q s b b = 6 by unfold sendE; rw [if_neg c1, if_pos (by omega)])
      go_enter Try.func12, Try.ntmps12
      go_wp2_with (first
        | (go_at_call 24; refine (usable_calls g v q _ HBk.out).mono ?_; rintro e w1 ⟨rfl, rfl⟩)
        | (go_at_call 25; refine (find_calls g v Fr q s _ HQ.out HBk.out).mono ?_; rintro e w1 ⟨rfl, hb⟩; have HB := Aside0.mk hb; clear hb))
      go_ret
      exact HO.out 6 (by decide) E.out _ HB.out
    have b2 : decide (b < 0) = false := decide_eq_false c2
    by_cases c3 : 16384 < b
    · have b3 : decide (16384 < b) = true := decide_eq_true c3
      have E := Aside0.mk (show sendE q s b b = 6 by unfold sendE; rw [if_neg c1, if_pos (by omega)])
      go_enter Try.func12, Try.ntmps12
      go_wp2_with (first
        | (go_at_call 24; refine (usable_calls g v q _ HBk.out).mono ?_; rintro e w1 ⟨rfl, rfl⟩)
        | (go_at_call 25; refine (find_calls g v Fr q s _ HQ.out HBk.out).mono ?_; rintro e w1 ⟨rfl, hb⟩; have HB := Aside0.mk hb; clear hb))
      go_ret
      exact HO.out 6 (by decide) E.out _ HB.out
    have b3 : decide (16384 < b) = false := decide_eq_false c3
    by_cases c4 : 64 ≤ q.wait.length
    · have b4 : decide (64 ≤ q.wait.length) = true := decide_eq_true c4
      have b4' : decide (64 ≤ (q.wait.length : Int)) = true := decide_eq_true (by omega)
      have E := Aside0.mk (show sendE q s b b = 5 by unfold sendE; rw [if_neg c1, if_neg (by omega), if_pos c4])
      obtain ⟨A, c, rfl, hc, _⟩ := HQ.out.reads flat40
      clear c4 hc
      go_enter Try.func12, Try.ntmps12
      go_wp2_with (first
        | (go_at_call 24; refine (usable_calls g _ q _ HBk.out).mono ?_; rintro e w1 ⟨rfl, rfl⟩)
        | (go_at_call 25; refine (find_calls g _ Fr q s _ HQ.out HBk.out).mono ?_; rintro e w1 ⟨rfl, hb⟩; have HB := Aside0.mk hb; have h3 := (blk_cell (blk_below HBk.out HB.out) 3).trans (show _ = some (Value.slice A q.wait.length c) from rfl); clear hb))
      go_ret
      exact HO.out 5 (by decide) E.out _ HB.out
    have b4 : decide (64 ≤ q.wait.length) = false := decide_eq_false c4
    have b4' : decide (64 ≤ (q.wait.length : Int)) = false := decide_eq_false (by omega)
    have HL := Aside0.mk c4
    have E := Aside0.mk (show sendE q s b b = 0 by unfold sendE; rw [if_neg c1, if_neg (by omega), if_neg c4])
    obtain ⟨A, c, rfl, hc, _⟩ := HQ.out.reads flat40
    clear c4 hc
    go_enter Try.func12, Try.ntmps12
    go_wp2_with (first
      | (go_at_call 24; refine (usable_calls g _ q _ HBk.out).mono ?_; rintro e w1 ⟨rfl, rfl⟩)
      | (go_at_call 25; refine (find_calls g _ Fr q s _ HQ.out HBk.out).mono ?_; rintro e w1 ⟨rfl, hb⟩; have HB := Aside0.mk hb; have HBk1 := Aside0.mk (blk_below HBk.out HB.out); have h3 := (blk_cell HBk1.out 3).trans (show _ = some (Value.slice A q.wait.length c) from rfl); clear hb)
      | (at_builtin; refine LR.append_one flat40 rfl (.tmp 42) (.tmp 48) 52 (.agg #[.int .u32 0, .int .i64 0, .int .i64 0, .int .i64 0]) 32 rfl Try.underlying52 info40 rfl (by decide) (by decide) (⟨s, b, b, st⟩ : S40) [.int .u32 s, .int .i64 b, .int .i64 b, .int .i64 st] rfl rfl rfl (HQ.out.below HB.out) (by have := HL.out; omega) ?_; intro v1 w2 hq1 hg1; have HQ2 := Aside0.mk hq1; have HBk2 := Aside0.mk (blk_grown HBk1.out hg1 ((HQ.out.below HB.out).ne HBk1.out (by decide))); have HC2 := Aside0.mk (Chg.grown (Chg.of_below (F := F) HB.out) hg1 (fun k hk => .inl (HR.out k (HQ.out.1 k hk)).1)); obtain ⟨A1, c1, hv1, _⟩ := HQ2.out.slice; rw [show (q.wait ++ [(⟨s, b, b, st⟩ : S40)]).length = q.wait.length + 1 from by simp] at hv1; subst hv1; have h3' := (blk_cell HBk2.out 3).trans (show _ = some (Value.slice A q.wait.length c) from rfl); have f3' := blk_frozen HBk2.out 3; clear hq1 hg1))
    go_ret
    have hgl : g < w.heap.size := HF.out g HG.out
    refine ⟨ret_i E.out.symm, ⟨fun k => (F k ∨ w.heap.size ≤ k) ∧ k < (w2.setCell ⟨g, 3, none⟩ (.slice A1 (q.wait.length + 1) c1)).heap.size, ?_, fun k hk => hk⟩, HC2.out.setCell (.inl HG.out) _⟩
    unfold sendS
    rw [if_pos E.out]
    refine ⟨.slice A1 (q.wait.length + 1) c1, fun k => (Fr k ∨ w.heap.size ≤ k) ∧ k < w2.heap.size, ?_, ?_, ?_, ?_⟩
    · refine LR.mono (LR.bound (LR.far (p := ⟨g, 3, none⟩) (LR.mono (LR.bound HQ2.out) (F' := fun k => ((Fr k ∨ w.heap.size ≤ k) ∧ k < w2.heap.size) ∧ k ≠ g) (fun k hk => ?_)) (fun h => h.2 rfl) _)) (fun k hk => hk.1.1)
      refine ⟨⟨hk.1.imp_right (fun h => Nat.le_trans HB.out.size h), hk.2.1⟩, ?_⟩
      rintro rfl
      rcases hk.1 with h1 | h1
      · exact (HR.out k h1).2 rfl
      · have := HB.out.size
        omega
    · have := blk_set HBk2.out 3 (.slice A1 (q.wait.length + 1) c1)
      exact this
    · refine ⟨.inl HG.out, ?_⟩
      have := HC2.out.size
      simp [World.setCell]
      omega
    · rintro k ⟨h1, h2⟩
      refine ⟨⟨h1.imp_left (fun h => (HR.out k h).1), by simpa [World.setCell] using h2⟩, ?_⟩
      rintro rfl
      rcases h1 with h1 | h1
      · exact (HR.out k h1).2 rfl
      · omega
  · by_cases c2 : a < 0
    · have b2 : decide (a < 0) = true := decide_eq_true c2
      have E := Aside0.mk (show sendE q s a b = 6 by unfold sendE; rw [if_neg c1, if_pos (by omega)])
      go_enter Try.func12, Try.ntmps12
      go_wp2_with (first
        | (go_at_call 24; refine (usable_calls g v q _ HBk.out).mono ?_; rintro e w1 ⟨rfl, rfl⟩)
        | (go_at_call 25; refine (find_calls g v Fr q s _ HQ.out HBk.out).mono ?_; rintro e w1 ⟨rfl, hb⟩; have HB := Aside0.mk hb; clear hb))
      go_ret
      exact HO.out 6 (by decide) E.out _ HB.out
    have b2 : decide (a < 0) = false := decide_eq_false c2
    by_cases c3 : 16384 < b
    · have b3 : decide (16384 < b) = true := decide_eq_true c3
      have E := Aside0.mk (show sendE q s a b = 6 by unfold sendE; rw [if_neg c1, if_pos (by omega)])
      go_enter Try.func12, Try.ntmps12
      go_wp2_with (first
        | (go_at_call 24; refine (usable_calls g v q _ HBk.out).mono ?_; rintro e w1 ⟨rfl, rfl⟩)
        | (go_at_call 25; refine (find_calls g v Fr q s _ HQ.out HBk.out).mono ?_; rintro e w1 ⟨rfl, hb⟩; have HB := Aside0.mk hb; clear hb))
      go_ret
      exact HO.out 6 (by decide) E.out _ HB.out
    have b3 : decide (16384 < b) = false := decide_eq_false c3
    by_cases c4 : 64 ≤ q.wait.length
    · have b4 : decide (64 ≤ q.wait.length) = true := decide_eq_true c4
      have b4' : decide (64 ≤ (q.wait.length : Int)) = true := decide_eq_true (by omega)
      have E := Aside0.mk (show sendE q s a b = 5 by unfold sendE; rw [if_neg c1, if_neg (by omega), if_pos c4])
      obtain ⟨A, c, rfl, hc, _⟩ := HQ.out.reads flat40
      clear c4 hc
      go_enter Try.func12, Try.ntmps12
      go_wp2_with (first
        | (go_at_call 24; refine (usable_calls g _ q _ HBk.out).mono ?_; rintro e w1 ⟨rfl, rfl⟩)
        | (go_at_call 25; refine (find_calls g _ Fr q s _ HQ.out HBk.out).mono ?_; rintro e w1 ⟨rfl, hb⟩; have HB := Aside0.mk hb; have h3 := (blk_cell (blk_below HBk.out HB.out) 3).trans (show _ = some (Value.slice A q.wait.length c) from rfl); clear hb))
      go_ret
      exact HO.out 5 (by decide) E.out _ HB.out
    have b4 : decide (64 ≤ q.wait.length) = false := decide_eq_false c4
    have b4' : decide (64 ≤ (q.wait.length : Int)) = false := decide_eq_false (by omega)
    have HL := Aside0.mk c4
    have E := Aside0.mk (show sendE q s a b = 0 by unfold sendE; rw [if_neg c1, if_neg (by omega), if_neg c4])
    obtain ⟨A, c, rfl, hc, _⟩ := HQ.out.reads flat40
    clear c4 hc
    go_enter Try.func12, Try.ntmps12
    go_wp2_with (first
      | (go_at_call 24; refine (usable_calls g _ q _ HBk.out).mono ?_; rintro e w1 ⟨rfl, rfl⟩)
      | (go_at_call 25; refine (find_calls g _ Fr q s _ HQ.out HBk.out).mono ?_; rintro e w1 ⟨rfl, hb⟩; have HB := Aside0.mk hb; have HBk1 := Aside0.mk (blk_below HBk.out HB.out); have h3 := (blk_cell HBk1.out 3).trans (show _ = some (Value.slice A q.wait.length c) from rfl); clear hb)
      | (at_builtin; refine LR.append_one flat40 rfl (.tmp 42) (.tmp 48) 52 (.agg #[.int .u32 0, .int .i64 0, .int .i64 0, .int .i64 0]) 32 rfl Try.underlying52 info40 rfl (by decide) (by decide) (⟨s, a, b, st⟩ : S40) [.int .u32 s, .int .i64 a, .int .i64 b, .int .i64 st] rfl rfl rfl (HQ.out.below HB.out) (by have := HL.out; omega) ?_; intro v1 w2 hq1 hg1; have HQ2 := Aside0.mk hq1; have HBk2 := Aside0.mk (blk_grown HBk1.out hg1 ((HQ.out.below HB.out).ne HBk1.out (by decide))); have HC2 := Aside0.mk (Chg.grown (Chg.of_below (F := F) HB.out) hg1 (fun k hk => .inl (HR.out k (HQ.out.1 k hk)).1)); obtain ⟨A1, c1, hv1, _⟩ := HQ2.out.slice; rw [show (q.wait ++ [(⟨s, a, b, st⟩ : S40)]).length = q.wait.length + 1 from by simp] at hv1; subst hv1; have h3' := (blk_cell HBk2.out 3).trans (show _ = some (Value.slice A q.wait.length c) from rfl); have f3' := blk_frozen HBk2.out 3; clear hq1 hg1))
    go_ret
    have hgl : g < w.heap.size := HF.out g HG.out
    refine ⟨ret_i E.out.symm, ⟨fun k => (F k ∨ w.heap.size ≤ k) ∧ k < (w2.setCell ⟨g, 3, none⟩ (.slice A1 (q.wait.length + 1) c1)).heap.size, ?_, fun k hk => hk⟩, HC2.out.setCell (.inl HG.out) _⟩
    unfold sendS
    rw [if_pos E.out]
    refine ⟨.slice A1 (q.wait.length + 1) c1, fun k => (Fr k ∨ w.heap.size ≤ k) ∧ k < w2.heap.size, ?_, ?_, ?_, ?_⟩
    · refine LR.mono (LR.bound (LR.far (p := ⟨g, 3, none⟩) (LR.mono (LR.bound HQ2.out) (F' := fun k => ((Fr k ∨ w.heap.size ≤ k) ∧ k < w2.heap.size) ∧ k ≠ g) (fun k hk => ?_)) (fun h => h.2 rfl) _)) (fun k hk => hk.1.1)
      refine ⟨⟨hk.1.imp_right (fun h => Nat.le_trans HB.out.size h), hk.2.1⟩, ?_⟩
      rintro rfl
      rcases hk.1 with h1 | h1
      · exact (HR.out k h1).2 rfl
      · have := HB.out.size
        omega
    · have := blk_set HBk2.out 3 (.slice A1 (q.wait.length + 1) c1)
      exact this
    · refine ⟨.inl HG.out, ?_⟩
      have := HC2.out.size
      simp [World.setCell]
      omega
    · rintro k ⟨h1, h2⟩
      refine ⟨⟨h1.imp_left (fun h => (HR.out k h).1), by simpa [World.setCell] using h2⟩, ?_⟩
      rintro rfl
      rcases h1 with h1 | h1
      · exact (HR.out k h1).2 rfl
      · omega
theorem Send_sl {w0 w : World} {L : List Res} (i : Nat) {g : Nat} {q : QSt} (s a b st : Int) (hi : L[i]? = some (queueR g q)) (h : SL w0 w L) :
    Calls Try.prog 12 #[.pointer (some ⟨g, 0, none⟩), .int .u32 s, .int .i64 a, .int .i64 b, .int .i64 st] w fun e w' => e = .returned (.int .i64 (sendE q s a b)) ∧ SL w0 w' (L.set i (queueR g (sendS q s a b st))) :=
  sl_call1 h i hi fun F hP hF => Send_base g q s a b st F w hP hF
end Go.Proofs.Ytockppikcghmoaa.Q
