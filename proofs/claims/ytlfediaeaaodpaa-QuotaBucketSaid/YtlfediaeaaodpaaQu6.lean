import Derived.Test.YtlfediaeaaodpaaQu5
namespace Go.Proofs.Ytlfediaeaaodpaa.Q
open Go.RowKit Go.Proofs.YtlfediaeaaodpaaW.PrintWords Go.Proofs.YtlfediaeaaodpaaW.PrintLast Go.Proofs.YtlfediaeaaodpaaW.PrintMore Go.Proofs.Ytlfediaeaaodpaa.Sl Go.Proofs.Ytlfediaeaaodpaa.Hand 
attribute [local go_sem] max2_int min2_int max_two min_two max_three min_three max_four min_four 
set_option linter.unusedVariables false
set_option linter.unusedSimpArgs false

theorem LR.thaw {α : Type} {d : Kd α} {enc : α → List Value} {e : TypeId} {w : World} {F : Nat → Prop} {ad : Addr} {n c : Nat} {xs : List α} (h : LR d enc e w F (.slice (some ad) n c) xs) (j : Nat) : w.frozen? (ad.add j) = false := by
  rcases h.2.2 with ⟨_, h0⟩ | ⟨g, off, cap, cur, he, hh, _⟩
  · injection h0 with h0
    cases h0
  · injection he with ha _ hc
    injection ha with ha
    subst ha
    rw [add_at]
    exact blk_frozen hh _
theorem LR.blk {α : Type} {d : Kd α} {enc : α → List Value} {e : TypeId} {w : World} {F : Nat → Prop} {ad : Addr} {n c : Nat} {xs : List α} (h : LR d enc e w F (.slice (some ad) n c) xs) (j : Nat) : F (ad.add j).block := by
  refine h.1 _ ?_
  simp [Value.ownBlock, add_block]
set_option maxHeartbeats 2000000 in
set_option maxRecDepth 100000 in
theorem Use_base (g : Nat) (q : List S58) (k n : Int) (F : Nat → Prop) (w : World) (hP : (quotaR g q).P w F) (hF : ∀ k, F k → k < w.heap.size) (hk : Qok q) :
    Calls Try.prog 26 #[.pointer (some ⟨g, 0, none⟩), .int .i64 k, .int .i64 n] w fun e w' => e = .returned (.int .i64 (useE q k n)) ∧
      (∃ F' : Nat → Prop, (quotaR g (useS q k n)).P w' F' ∧ ∀ k, F' k → (F k ∨ w.heap.size ≤ k) ∧ k < w'.heap.size) ∧ Chg F w w' := by
  have HP := Aside0.mk hP
  have HF := Aside0.mk hF
  obtain ⟨v, Fr, hq, hb, hg, hr⟩ := hP
  obtain ⟨A, c, rfl, hc, hrd⟩ := hq.reads flat58
  have HQ := Aside0.mk hq
  have HBk := Aside0.mk hb
  have HG := Aside0.mk hg
  have HR := Aside0.mk hr
  have h1 := (blk_cell hb 1).trans (show _ = some (Value.slice A q.length c) from rfl)
  clear hq hb hg hr hF
  by_cases c1 : chkE q k n = 0
  · obtain ⟨p0, p1, p2⟩ := chk0 c1
    obtain ⟨x1, x2, x3⟩ := Qok_at hk p0 p1
    obtain ⟨ad, rfl, y0, y1⟩ := at_T58 hrd k p0 p1
    have hxg : q[k.toNat]? = some (rd_T58 q k) := by unfold rd_T58; simp [List.getD_eq_getElem?_getD, show k.toNat < q.length by omega]
    generalize hx : rd_T58 q k = x at x1 x2 x3 y0 y1 hxg
    have fz := LR.thaw HQ.out (k.toNat * 2)
    clear hk hc hrd
    by_cases c2 : x.f1 - x.f0 < n
    · have E := Aside0.mk (show useE q k n = 5 ∧ useS q k n = q by
        have : useE q k n = 5 := by unfold useE; rw [if_neg (by omega), hx, if_pos c2]
        unfold useS
        rw [this]
        exact ⟨rfl, rfl⟩)
      clear hx hxg
      go_enter Try.func26, Try.ntmps26
      go_wp2_with (first
        | (go_at_call 32; refine (check_calls g q _ c k n _ HBk.out).mono ?_; rintro e w1 ⟨rfl, rfl⟩))
      go_quiet (fail)
      go_wp2
      go_ret
      rw [E.out.1, E.out.2]
      exact ⟨rfl, quota_below HP.out HF.out (by repeat (with_reducible first | exact Below.refl _ _ | apply pw_below_drewN | apply below_drew))⟩
    · have E := Aside0.mk (show useE q k n = 0 ∧ useS q k n = q.set k.toNat ⟨x.f0 + n, x.f1⟩ by
        have : useE q k n = 0 := by unfold useE; rw [if_neg (by omega), hx, if_neg c2]
        unfold useS
        rw [this, hx]
        exact ⟨rfl, rfl⟩)
      have HX := Aside0.mk hxg
      clear hx hxg
      go_enter Try.func26, Try.ntmps26
      go_wp2_with (first
        | (go_at_call 32; refine (check_calls g q _ c k n _ HBk.out).mono ?_; rintro e w1 ⟨rfl, rfl⟩))
      go_quiet (fail)
      go_wp2
      refine start_ (n := 9) (S := fun w' => w'.cell? (ad.add (k.toNat * 2)) = some (.int .i64 x.f0)) (ds := [8]) #[false, false, false, false, false, false, false, false, false] (by kernel_rfl) rfl rfl (y0) (fun hHeld => ?_)
      refine pure_ (i := 0) (N := some 33) (v := ?_) (a' := ?_) #[true, false, false, false, false, false, false, false, false] rfl rfl (by kernel_rfl) (fun _ _ _ h => h) (Or.inl ⟨by rfl, ?_⟩) ?_ ?_
      rotate_left
      · intro w'
        go_simp
        with_reducible rfl
      rotate_left
      · simp only [Act.put, List.setIfInBounds_toArray, List.set_cons_zero, List.set_cons_succ, i64_w, i32_w, IntKind.wrap_u32, IntKind.wrap_u8, IntKind.wrap_u16]
        rfl
      refine pure_ (i := 1) (N := some 34) (v := ?_) (a' := ?_) #[true, true, false, false, false, false, false, false, false] rfl rfl (by kernel_rfl) (fun _ _ _ h => h) (Or.inl ⟨by rfl, ?_⟩) ?_ ?_
      rotate_left
      · intro w'
        go_simp
        with_reducible rfl
      rotate_left
      · simp only [Act.put, List.setIfInBounds_toArray, List.set_cons_zero, List.set_cons_succ, i64_w, i32_w, IntKind.wrap_u32, IntKind.wrap_u8, IntKind.wrap_u16]
        rfl
      refine pure_ (i := 2) (N := some 35) (v := ?_) (a' := ?_) #[true, true, true, false, false, false, false, false, false] rfl rfl (by kernel_rfl) (fun _ _ _ h => h) (Or.inl ⟨by rfl, ?_⟩) ?_ ?_
      rotate_left
      · intro w'
        go_simp
        with_reducible rfl
      rotate_left
      · simp only [Act.put, List.setIfInBounds_toArray, List.set_cons_zero, List.set_cons_succ, i64_w, i32_w, IntKind.wrap_u32, IntKind.wrap_u8, IntKind.wrap_u16]
        rfl
      refine pure_ (i := 4) (N := some 37) (v := ?_) (a' := ?_) #[true, true, true, false, true, false, false, false, false] rfl rfl (by kernel_rfl) (fun _ _ _ h => h) (Or.inl ⟨by rfl, ?_⟩) ?_ ?_
      rotate_left
      · intro w'
        go_simp
        with_reducible rfl
      rotate_left
      · simp only [Act.put, List.setIfInBounds_toArray, List.set_cons_zero, List.set_cons_succ, i64_w, i32_w, IntKind.wrap_u32, IntKind.wrap_u8, IntKind.wrap_u16]
        rfl
      refine pure_ (i := 6) (N := some 39) (v := ?_) (a' := ?_) #[true, true, true, false, true, false, true, false, false] rfl rfl (by kernel_rfl) (fun _ _ _ h => h) (Or.inl ⟨by rfl, ?_⟩) ?_ ?_
      rotate_left
      · intro w'
        go_simp
        with_reducible rfl
      rotate_left
      · simp only [Act.put, List.setIfInBounds_toArray, List.set_cons_zero, List.set_cons_succ, i64_w, i32_w, IntKind.wrap_u32, IntKind.wrap_u8, IntKind.wrap_u16]
        rfl
      refine take_ (i := 3) (N := some 36) (v := ?_) (a' := ?_) #[true, true, true, true, true, false, true, false, false] rfl rfl (by kernel_rfl) (fun _ _ _ h => h) (Or.inl ⟨by rfl, ?_⟩) hHeld ?_ ?_
      rotate_left
      · intro w' s0
        go_simp
        with_reducible rfl
      rotate_left
      · simp only [Act.put, List.setIfInBounds_toArray, List.set_cons_zero, List.set_cons_succ, i64_w, i32_w, IntKind.wrap_u32, IntKind.wrap_u8, IntKind.wrap_u16]
        rfl
      refine pure_ (i := 5) (N := some 38) (v := ?_) (a' := ?_) #[true, true, true, true, true, true, true, false, false] rfl rfl (by kernel_rfl) (fun _ _ _ h => h) (Or.inl ⟨by rfl, ?_⟩) ?_ ?_
      rotate_left
      · intro w'
        go_simp
        with_reducible rfl
      rotate_left
      · simp only [Act.put, List.setIfInBounds_toArray, List.set_cons_zero, List.set_cons_succ, i64_w, i32_w, IntKind.wrap_u32, IntKind.wrap_u8, IntKind.wrap_u16]
        rfl
      refine pure_ (i := 7) (N := some 40) (v := ?_) (a' := ?_) #[true, true, true, true, true, true, true, true, false] rfl rfl (by kernel_rfl) (fun _ _ _ h => h) (Or.inl ⟨by rfl, ?_⟩) ?_ ?_
      rotate_left
      · intro w'
        go_simp
        with_reducible rfl
      rotate_left
      · simp only [Act.put, List.setIfInBounds_toArray, List.set_cons_zero, List.set_cons_succ, i64_w, i32_w, IntKind.wrap_u32, IntKind.wrap_u8, IntKind.wrap_u16]
        rfl
      refine last_ (i := 8) (N := none) #[true, true, true, true, true, true, true, true, true] rfl rfl (by kernel_rfl) (by decide) (fun K hK => ?_)
      refine skip_ (w1 := ?_) (by rfl) rfl ?_ ?_
      rotate_left
      · go_simp
        rfl
      refine hK.out _ _ ?_
      clear hK K
      refine done_ (by kernel_rfl) ?_
      rw [w64 (x.f0 + n) (by omega)]
      go_wp2
      go_ret
      rw [E.out.1, E.out.2]
      refine ⟨rfl, ⟨F, ?_, fun k hk => ⟨.inl hk, by simpa [World.setCell] using HF.out k hk⟩⟩, ?_⟩
      · have hs := HQ.out.step (w1 := w.drewN (nq + 1)) (fun k _ _ => rfl)
        have hs2 := LR.set flat58 hs k.toNat 0 x ⟨x.f0 + n, x.f1⟩ (.int .i64 (x.f0 + n)) HX.out (by decide) rfl
        refine ⟨_, Fr, hs2, ?_, HG.out, HR.out⟩
        have hne : (ad.add (k.toNat * 2)).block ≠ g := (HR.out _ (LR.blk HQ.out (k.toNat * 2))).2
        exact (Below.heap_setCell _ _ _ g (Ne.symm hne)).trans HBk.out
      · have hin := (HR.out _ (LR.blk HQ.out (k.toNat * 2))).1
        repeat (with_reducible first | exact Chg.refl F w | apply Chg.drewN | apply Chg.drew | refine Chg.setCell ?_ (.inl hin) _)
  · have c1' : (chkE q k n == 0) = false := beq_eq_false_iff_ne.2 c1
    have E := Aside0.mk (show useE q k n = chkE q k n ∧ useS q k n = q by
      have : useE q k n = chkE q k n := by unfold useE; rw [if_pos c1]
      unfold useS
      rw [this, if_pos c1]
      exact ⟨rfl, rfl⟩)
    clear hk hc hrd
    go_enter Try.func26, Try.ntmps26
    go_wp2_with (first
      | (go_at_call 32; refine (check_calls g q _ c k n _ HBk.out).mono ?_; rintro e w1 ⟨rfl, rfl⟩))
    go_ret
    rw [E.out.1, E.out.2]
    exact ⟨rfl, quota_below HP.out HF.out (Below.refl _ _)⟩
set_option maxHeartbeats 2000000 in
set_option maxRecDepth 100000 in
theorem Rel_base (g : Nat) (q : List S58) (k n : Int) (F : Nat → Prop) (w : World) (hP : (quotaR g q).P w F) (hF : ∀ k, F k → k < w.heap.size) (hk : Qok q) :
    Calls Try.prog 25 #[.pointer (some ⟨g, 0, none⟩), .int .i64 k, .int .i64 n] w fun e w' => e = .returned (.int .i64 (relE q k n)) ∧
      (∃ F' : Nat → Prop, (quotaR g (relS q k n)).P w' F' ∧ ∀ k, F' k → (F k ∨ w.heap.size ≤ k) ∧ k < w'.heap.size) ∧ Chg F w w' := by
  have HP := Aside0.mk hP
  have HF := Aside0.mk hF
  obtain ⟨v, Fr, hq, hb, hg, hr⟩ := hP
  obtain ⟨A, c, rfl, hc, hrd⟩ := hq.reads flat58
  have HQ := Aside0.mk hq
  have HBk := Aside0.mk hb
  have HG := Aside0.mk hg
  have HR := Aside0.mk hr
  have h1 := (blk_cell hb 1).trans (show _ = some (Value.slice A q.length c) from rfl)
  clear hq hb hg hr hF
  by_cases c1 : chkE q k n = 0
  · obtain ⟨p0, p1, p2⟩ := chk0 c1
    obtain ⟨x1, x2, x3⟩ := Qok_at hk p0 p1
    obtain ⟨ad, rfl, y0, y1⟩ := at_T58 hrd k p0 p1
    have hxg : q[k.toNat]? = some (rd_T58 q k) := by unfold rd_T58; simp [List.getD_eq_getElem?_getD, show k.toNat < q.length by omega]
    generalize hx : rd_T58 q k = x at x1 x2 x3 y0 y1 hxg
    have fz := LR.thaw HQ.out (k.toNat * 2)
    clear hk hc hrd
    by_cases c2 : x.f0 < n
    · have E := Aside0.mk (show relE q k n = 14 ∧ relS q k n = q by
        have : relE q k n = 14 := by unfold relE; rw [if_neg (by omega), hx, if_pos c2]
        unfold relS
        rw [this]
        exact ⟨rfl, rfl⟩)
      clear hx hxg
      go_enter Try.func25, Try.ntmps25
      go_wp2_with (first
        | (go_at_call 32; refine (check_calls g q _ c k n _ HBk.out).mono ?_; rintro e w1 ⟨rfl, rfl⟩))
      go_ret
      rw [E.out.1, E.out.2]
      exact ⟨rfl, quota_below HP.out HF.out (by repeat (with_reducible first | exact Below.refl _ _ | apply pw_below_drewN | apply below_drew))⟩
    · have E := Aside0.mk (show relE q k n = 0 ∧ relS q k n = q.set k.toNat ⟨x.f0 - n, x.f1⟩ by
        have : relE q k n = 0 := by unfold relE; rw [if_neg (by omega), hx, if_neg c2]
        unfold relS
        rw [this, hx]
        exact ⟨rfl, rfl⟩)
      have HX := Aside0.mk hxg
      clear hx hxg
      go_enter Try.func25, Try.ntmps25
      go_wp2_with (first
        | (go_at_call 32; refine (check_calls g q _ c k n _ HBk.out).mono ?_; rintro e w1 ⟨rfl, rfl⟩))
      refine start_ (n := 9) (S := fun w' => w'.cell? (ad.add (k.toNat * 2)) = some (.int .i64 x.f0)) (ds := [8]) #[false, false, false, false, false, false, false, false, false] (by kernel_rfl) rfl rfl (y0) (fun hHeld => ?_)
      refine pure_ (i := 0) (N := some 28) (v := ?_) (a' := ?_) #[true, false, false, false, false, false, false, false, false] rfl rfl (by kernel_rfl) (fun _ _ _ h => h) (Or.inl ⟨by rfl, ?_⟩) ?_ ?_
      rotate_left
      · intro w'
        go_simp
        with_reducible rfl
      rotate_left
      · simp only [Act.put, List.setIfInBounds_toArray, List.set_cons_zero, List.set_cons_succ, i64_w, i32_w, IntKind.wrap_u32, IntKind.wrap_u8, IntKind.wrap_u16]
        rfl
      refine pure_ (i := 1) (N := some 29) (v := ?_) (a' := ?_) #[true, true, false, false, false, false, false, false, false] rfl rfl (by kernel_rfl) (fun _ _ _ h => h) (Or.inl ⟨by rfl, ?_⟩) ?_ ?_
      rotate_left
      · intro w'
        go_simp
        with_reducible rfl
      rotate_left
      · simp only [Act.put, List.setIfInBounds_toArray, List.set_cons_zero, List.set_cons_succ, i64_w, i32_w, IntKind.wrap_u32, IntKind.wrap_u8, IntKind.wrap_u16]
        rfl
      refine pure_ (i := 2) (N := some 30) (v := ?_) (a' := ?_) #[true, true, true, false, false, false, false, false, false] rfl rfl (by kernel_rfl) (fun _ _ _ h => h) (Or.inl ⟨by rfl, ?_⟩) ?_ ?_
      rotate_left
      · intro w'
        go_simp
        with_reducible rfl
      rotate_left
      · simp only [Act.put, List.setIfInBounds_toArray, List.set_cons_zero, List.set_cons_succ, i64_w, i32_w, IntKind.wrap_u32, IntKind.wrap_u8, IntKind.wrap_u16]
        rfl
      refine pure_ (i := 4) (N := some 32) (v := ?_) (a' := ?_) #[true, true, true, false, true, false, false, false, false] rfl rfl (by kernel_rfl) (fun _ _ _ h => h) (Or.inl ⟨by rfl, ?_⟩) ?_ ?_
      rotate_left
      · intro w'
        go_simp
        with_reducible rfl
      rotate_left
      · simp only [Act.put, List.setIfInBounds_toArray, List.set_cons_zero, List.set_cons_succ, i64_w, i32_w, IntKind.wrap_u32, IntKind.wrap_u8, IntKind.wrap_u16]
        rfl
      refine pure_ (i := 6) (N := some 34) (v := ?_) (a' := ?_) #[true, true, true, false, true, false, true, false, false] rfl rfl (by kernel_rfl) (fun _ _ _ h => h) (Or.inl ⟨by rfl, ?_⟩) ?_ ?_
      rotate_left
      · intro w'
        go_simp
        with_reducible rfl
      rotate_left
      · simp only [Act.put, List.setIfInBounds_toArray, List.set_cons_zero, List.set_cons_succ, i64_w, i32_w, IntKind.wrap_u32, IntKind.wrap_u8, IntKind.wrap_u16]
        rfl
      refine take_ (i := 3) (N := some 31) (v := ?_) (a' := ?_) #[true, true, true, true, true, false, true, false, false] rfl rfl (by kernel_rfl) (fun _ _ _ h => h) (Or.inl ⟨by rfl, ?_⟩) hHeld ?_ ?_
      rotate_left
      · intro w' s0
        go_simp
        with_reducible rfl
      rotate_left
      · simp only [Act.put, List.setIfInBounds_toArray, List.set_cons_zero, List.set_cons_succ, i64_w, i32_w, IntKind.wrap_u32, IntKind.wrap_u8, IntKind.wrap_u16]
        rfl
      refine pure_ (i := 5) (N := some 33) (v := ?_) (a' := ?_) #[true, true, true, true, true, true, true, false, false] rfl rfl (by kernel_rfl) (fun _ _ _ h => h) (Or.inl ⟨by rfl, ?_⟩) ?_ ?_
      rotate_left
      · intro w'
        go_simp
        with_reducible rfl
      rotate_left
      · simp only [Act.put, List.setIfInBounds_toArray, List.set_cons_zero, List.set_cons_succ, i64_w, i32_w, IntKind.wrap_u32, IntKind.wrap_u8, IntKind.wrap_u16]
        rfl
      refine pure_ (i := 7) (N := some 35) (v := ?_) (a' := ?_) #[true, true, true, true, true, true, true, true, false] rfl rfl (by kernel_rfl) (fun _ _ _ h => h) (Or.inl ⟨by rfl, ?_⟩) ?_ ?_
      rotate_left
      · intro w'
        go_simp
        with_reducible rfl
      rotate_left
      · simp only [Act.put, List.setIfInBounds_toArray, List.set_cons_zero, List.set_cons_succ, i64_w, i32_w, IntKind.wrap_u32, IntKind.wrap_u8, IntKind.wrap_u16]
        rfl
      refine last_ (i := 8) (N := none) #[true, true, true, true, true, true, true, true, true] rfl rfl (by kernel_rfl) (by decide) (fun K hK => ?_)
      refine skip_ (w1 := ?_) (by rfl) rfl ?_ ?_
      rotate_left
      · go_simp
        rfl
      refine hK.out _ _ ?_
      clear hK K
      refine done_ (by kernel_rfl) ?_
      rw [w64 (x.f0 - n) (by omega)]
      go_wp2
      go_ret
      rw [E.out.1, E.out.2]
      refine ⟨rfl, ⟨F, ?_, fun k hk => ⟨.inl hk, by simpa [World.setCell] using HF.out k hk⟩⟩, ?_⟩
      · have hs := HQ.out.step (w1 := w.drew) (fun k _ _ => rfl)
        have hs2 := LR.set flat58 hs k.toNat 0 x ⟨x.f0 - n, x.f1⟩ (.int .i64 (x.f0 - n)) HX.out (by decide) rfl
        refine ⟨_, Fr, hs2, ?_, HG.out, HR.out⟩
        have hne : (ad.add (k.toNat * 2)).block ≠ g := (HR.out _ (LR.blk HQ.out (k.toNat * 2))).2
        exact (Below.heap_setCell _ _ _ g (Ne.symm hne)).trans HBk.out
      · have hin := (HR.out _ (LR.blk HQ.out (k.toNat * 2))).1
        repeat (with_reducible first | exact Chg.refl F w | apply Chg.drewN | apply Chg.drew | refine Chg.setCell ?_ (.inl hin) _)
  · have c1' : (chkE q k n == 0) = false := beq_eq_false_iff_ne.2 c1
    have E := Aside0.mk (show relE q k n = chkE q k n ∧ relS q k n = q by
      have : relE q k n = chkE q k n := by unfold relE; rw [if_pos c1]
      unfold relS
      rw [this, if_pos c1]
      exact ⟨rfl, rfl⟩)
    clear hk hc hrd
    go_enter Try.func25, Try.ntmps25
    go_wp2_with (first
      | (go_at_call 32; refine (check_calls g q _ c k n _ HBk.out).mono ?_; rintro e w1 ⟨rfl, rfl⟩))
    go_ret
    rw [E.out.1, E.out.2]
    exact ⟨rfl, quota_below HP.out HF.out (Below.refl _ _)⟩

theorem Use_sl {w0 w : World} {L : List Res} (i : Nat) {g : Nat} {q : List S58} (k n : Int) (hi : L[i]? = some (quotaR g q)) (h : SL w0 w L) (hk : Qok q) :
    Calls Try.prog 26 #[.pointer (some ⟨g, 0, none⟩), .int .i64 k, .int .i64 n] w fun e w' => e = .returned (.int .i64 (useE q k n)) ∧ SL w0 w' (L.set i (quotaR g (useS q k n))) :=
  sl_call1 h i hi fun F hP hF => Use_base g q k n F w hP hF hk
theorem Rel_sl {w0 w : World} {L : List Res} (i : Nat) {g : Nat} {q : List S58} (k n : Int) (hi : L[i]? = some (quotaR g q)) (h : SL w0 w L) (hk : Qok q) :
    Calls Try.prog 25 #[.pointer (some ⟨g, 0, none⟩), .int .i64 k, .int .i64 n] w fun e w' => e = .returned (.int .i64 (relE q k n)) ∧ SL w0 w' (L.set i (quotaR g (relS q k n))) :=
  sl_call1 h i hi fun F hP hF => Rel_base g q k n F w hP hF hk
set_option maxRecDepth 100000 in
theorem Used_sl {w0 w : World} {L : List Res} (i : Nat) {g : Nat} {q : List S58} (k : Int) (hi : L[i]? = some (quotaR g q)) (h : SL w0 w L) :
    Calls Try.prog 23 #[.pointer (some ⟨g, 0, none⟩), .int .i64 k] w fun e w' => e = .returned (.int .i64 (usedE q k)) ∧ w = w' := by
  obtain ⟨F, ⟨v, Fr, hq, hb, hg, hr⟩, h2, _⟩ := sl_upd h hi
  obtain ⟨A, c, rfl, hc, hrd⟩ := hq.reads flat58
  have HBk := Aside0.mk hb
  have h1 := (blk_cell hb 1).trans (show _ = some (Value.slice A q.length c) from rfl)
  clear hq hb hg hr h2 h hi
  by_cases c1 : chkE q k 0 = 0
  · obtain ⟨p0, p1, p2⟩ := chk0 c1
    obtain ⟨ad, rfl, y0, y1⟩ := at_T58 hrd k p0 p1
    have E := Aside0.mk (show usedE q k = (rd_T58 q k).f0 by unfold usedE; rw [if_neg (by omega)])
    clear hc hrd
    go_enter Try.func23, Try.ntmps23
    go_wp2_with (first
      | (go_at_call 32; refine (check_calls g q _ c k 0 _ HBk.out).mono ?_; rintro e w1 ⟨rfl, rfl⟩))
    go_ret
    exact ⟨ret_i E.out.symm, rfl⟩
  · have c1' : (chkE q k 0 == 0) = false := beq_eq_false_iff_ne.2 c1
    have E := Aside0.mk (show usedE q k = 0 by unfold usedE; rw [if_pos c1])
    clear hc hrd
    go_enter Try.func23, Try.ntmps23
    go_wp2_with (first
      | (go_at_call 32; refine (check_calls g q _ c k 0 _ HBk.out).mono ?_; rintro e w1 ⟨rfl, rfl⟩))
    go_ret
    exact ⟨ret_i E.out.symm, rfl⟩
theorem no_check (k n : Int) (w : World) : Calls Try.prog 32 #[.pointer none, .int .i64 k, .int .i64 n] w fun e w' => e = .returned (.int .i64 1) ∧ w = w' := by
  go_enter Try.func32, Try.ntmps32
  go_wp2
  go_ret
  exact ⟨rfl, rfl⟩
theorem no_Use (k n : Int) (w : World) : Calls Try.prog 26 #[.pointer none, .int .i64 k, .int .i64 n] w fun e w' => e = .returned (.int .i64 1) ∧ w = w' := by
  go_enter Try.func26, Try.ntmps26
  go_wp2_with (first | (go_at_call 32; refine (no_check _ _ _).mono ?_; rintro e w1 ⟨rfl, rfl⟩))
  go_ret
  exact ⟨rfl, rfl⟩
theorem no_Rel (k n : Int) (w : World) : Calls Try.prog 25 #[.pointer none, .int .i64 k, .int .i64 n] w fun e w' => e = .returned (.int .i64 1) ∧ w = w' := by
  go_enter Try.func25, Try.ntmps25
  go_wp2_with (first | (go_at_call 32; refine (no_check _ _ _).mono ?_; rintro e w1 ⟨rfl, rfl⟩))
  go_ret
  exact ⟨rfl, rfl⟩
theorem no_Used (k : Int) (w : World) : Calls Try.prog 23 #[.pointer none, .int .i64 k] w fun e w' => e = .returned (.int .i64 0) ∧ w = w' := by
  go_enter Try.func23, Try.ntmps23
  go_wp2_with (first | (go_at_call 32; refine (no_check _ _ _).mono ?_; rintro e w1 ⟨rfl, rfl⟩))
  go_ret
  exact ⟨rfl, rfl⟩
end Go.Proofs.Ytlfediaeaaodpaa.Q
