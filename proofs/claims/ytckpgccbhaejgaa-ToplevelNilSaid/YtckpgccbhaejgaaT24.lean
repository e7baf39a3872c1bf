import Derived.Laws.StandIn
import Derived.Test.YtckpgccbhaejgaaT23
namespace Go.Proofs.Ytckpgccbhaejgaa.Q
open Go.RowKit Go.Proofs.YtckpgccbhaejgaaW.PrintWords Go.Proofs.YtckpgccbhaejgaaW.PrintLast Go.Proofs.YtckpgccbhaejgaaW.PrintMore Go.Proofs.Ytckpgccbhaejgaa.Sl Go.Proofs.Ytckpgccbhaejgaa.Hand 
attribute [local go_sem] max2_int min2_int max_two min_two max_three min_three max_four min_four 
set_option linter.unusedVariables false
set_option linter.unusedSimpArgs false

theorem wr6 {k kp : Nat} (h : k + (kp + 1) = 6) : wrap64 ((k : Int) + 1) = ((k + 1 : Nat) : Int) := by
  unfold wrap64
  omega
theorem sl_none {w0 w : World} {L : List Res} (h : SL w0 w L) : SL w0 w (L ++ [noneR]) := sl_new h (Below.refl _ _) (F := fun _ => False) trivial (fun k hk => hk.elim)
theorem eqA42 (d : Nat) (w : World) (x0 y0 x1 y1 x2 y2 x3 y3 : Int) : (Op.equalIn (d + 2) 42 (.agg #[.int .i64 x0, .int .i64 x1, .int .i64 x2, .int .i64 x3]) (.agg #[.int .i64 y0, .int .i64 y1, .int .i64 y2, .int .i64 y3])).run Try.prog w = .ok (x0 == y0 && (x1 == y1 && (x2 == y2 && (x3 == y3)))) w := by
  refine eqA_of Try.underlying42 (by kernel_rfl) ?_
  refine eqf_cons (by rfl) (by go_simp; rfl) (by go_simp; rfl) (by go_simp) ?_
  refine eqf_cons (by rfl) (by go_simp; rfl) (by go_simp; rfl) (by go_simp) ?_
  refine eqf_cons (by rfl) (by go_simp; rfl) (by go_simp; rfl) (by go_simp) ?_
  exact eqf_last (by rfl) (by go_simp; rfl) (by go_simp; rfl) (by go_simp)
theorem eqS42 (d : Nat) (w : World) (a b c e : Int) : (Op.equalIn (d + 2) 42 (.agg #[.int .i64 a, .int .i64 b, .int .i64 c, .int .i64 e]) (.agg #[.int .i64 a, .int .i64 b, .int .i64 c, .int .i64 e])).run Try.prog w = .ok true w := by
  rw [eqA42]
  simp
set_option maxHeartbeats 4000000 in
set_option maxRecDepth 100000 in
theorem Nil_law (x : S46) (w : World) : Calls Try.prog 7 #[ag46 x] w fun e w' => e = .returned (.bool true) ∧ Below w.heap.size w w' := by
  have HS := Aside0.mk (sl_none (sl_box (sl_start w) (cs46 x) 46))
  by_cases c1 : 1100 < x.f6.size
  · have d1 : decide (1100 < (x.f6.size : Int)) = true := decide_eq_true (by omega)
    clear c1
    go_enter Try.func7, Try.ntmps7
    go_wp2_with (first
    | (go_at_call 8; refine (ex_c (by repeat (with_reducible first | exact HS.out | apply sl_drewN | apply sl_drew | apply sl_alloc))).mono ?_; rintro e w1 ⟨rfl, hs⟩; (try simp only [World.size_alloc] at hs); replace HS := Aside0.mk hs; clear hs))
    go_ret
    exact ⟨rfl, sl_below0 HS.out⟩
  have d1 : decide (1100 < (x.f6.size : Int)) = false := decide_eq_false (by omega)
  clear c1
  go_enter Try.func7, Try.ntmps7
  go_wp2_with (fail)
  obtain ⟨gx, hgx⟩ : ∃ q, w.heap.size = q := ⟨_, rfl⟩
  have HSS : Aside0 (SL w _ [cellsR gx 46 (cs46 x), noneR, zeroR (gx + 1), cellsR (gx + 1 + 1) 25 #[.pointer none, .pointer (some ⟨gx + 1, 0, none⟩)]]) := ⟨by
    have h1 := sl_box (sl_box HS.out #[.bool false, .map none, .int .i64 0, .int .i64 0, .int .i64 0, .int .i64 0, .int .i64 0, .int .i64 0, .int .i64 0, .int .i64 0, .int .i64 0, .int .i64 0] 55) #[.pointer none, .pointer (some ⟨gx + 1, 0, none⟩)] 25
    simp only [World.size_alloc, hgx] at h1
    exact h1⟩
  try simp only [hgx]
  go_loopg [5] 2 (fun kq v5 wr => ∃ i : Nat, v5 = .int .i64 (i : Int) ∧ Aside0 (i + kq = 2) ∧ Aside0 (SL w wr [cellsR gx 46 (cs46 x), noneR, zeroR (gx + 1), cellsR (gx + 1 + 1) 25 #[.pointer none, .pointer (some ⟨gx + 1, 0, none⟩)]]))
  case atStart => exact ⟨0, rfl, ⟨by omega⟩, HSS⟩
  case round =>
    clear HSS HS hgx
    obtain ⟨i, hv, HI, HS⟩ := hrel
    have hi := HI.out
    have hi3 : i = 0 ∨ i = 1 ∨ i = 2 := by omega
    clear hi
    rcases hi3 with rfl | rfl | rfl
    · obtain ⟨kq, rfl⟩ : ∃ m, gk = m + 1 := ⟨gk - 1, by have := HI.out; omega⟩
      have hv2 : _ = Value.int .i64 0 := hv
      subst hv2
      clear hv
      have lc := c_at HS.out 3 rfl 0 rfl
      have lt3 := blk_lt (sl_blk HS.out 3 rfl)
      go_wp2_with (fail)
      have HSS : Aside0 (SL w _ [cellsR gx 46 (cs46 x), noneR, zeroR (gx + 1), cellsR (gx + 1 + 1) 25 #[.pointer none, .pointer (some ⟨gx + 1, 0, none⟩)]]) := ⟨HS.out⟩
      go_loopg [6] 6 (fun kp v6 wr => ∃ k : Nat, v6 = .int .i64 (k : Int) ∧ Aside0 (k + kp = 6) ∧ Aside0 (SL w wr [cellsR gx 46 (cs46 x), noneR, zeroR (gx + 1), cellsR (gx + 1 + 1) 25 #[.pointer none, .pointer (some ⟨gx + 1, 0, none⟩)]]))
      case atStart => exact ⟨0, rfl, ⟨by omega⟩, HSS⟩
      case round =>
        clear HSS HS lc lt3
        obtain ⟨k, rfl, HK, HS⟩ := hrel
        have hk := HK.out
        by_cases hlt : k < 6
        · have b2 : decide (k < 6) = true := decide_eq_true hlt
          have b3 : decide ((k : Int) < 6) = true := decide_eq_true (by omega)
          obtain ⟨kp, rfl⟩ : ∃ m, gk = m + 1 := ⟨gk - 1, by omega⟩
          have c0 : wr.cell? ⟨gx, 0, none⟩ = some (.int .i64 x.f0) := c_at HS.out 0 rfl 0 rfl
          have c1 : wr.cell? ⟨gx, 1, none⟩ = some (.int .i64 x.f1) := c_at HS.out 0 rfl 1 rfl
          have c2 : wr.cell? ⟨gx, 2, none⟩ = some (.int .i64 x.f2) := c_at HS.out 0 rfl 2 rfl
          have c3 : wr.cell? ⟨gx, 3, none⟩ = some (.int .i64 x.f3) := c_at HS.out 0 rfl 3 rfl
          have c4 : wr.cell? ⟨gx, 4, none⟩ = some (.bool x.f4) := c_at HS.out 0 rfl 4 rfl
          have c5 : wr.cell? ⟨gx, 5, none⟩ = some (.int .i64 x.f5.f0) := c_at HS.out 0 rfl 5 rfl
          have c6 : wr.cell? ⟨gx, 6, none⟩ = some (.int .i64 x.f5.f1) := c_at HS.out 0 rfl 6 rfl
          have c7 : wr.cell? ⟨gx, 7, none⟩ = some (.int .i64 x.f5.f2) := c_at HS.out 0 rfl 7 rfl
          have c8 : wr.cell? ⟨gx, 8, none⟩ = some (.int .i64 x.f5.f3) := c_at HS.out 0 rfl 8 rfl
          have c9 : wr.cell? ⟨gx, 9, none⟩ = some (.string x.f6) := c_at HS.out 0 rfl 9 rfl
          clear hlt hk
          go_wp2_with (fail)
          have HSY := Aside0.mk (sl_box HS.out (cs46 ⟨(k : Int), x.f1, x.f2, x.f3, x.f4, x.f5, x.f6⟩) 46)
          have hq : ∀ d (W : World), (Op.equalIn (d + 2) 42 (.agg #[.int .i64 0, .int .i64 0, .int .i64 0, .int .i64 1]) (.agg #[.int .i64 0, .int .i64 0, .int .i64 0, .int .i64 1])).run Try.prog W = .ok true W := fun d W => eqS42 d W 0 0 0 1
          refine start_ (n := 8) (S := fun w' => w'.cell? ⟨gx + 1 + 1, 0, none⟩ = some (.pointer none) ∧ w'.cell? ⟨wr.heap.size, 0, none⟩ = some (.int .i64 (k : Int)) ∧ w'.cell? ⟨wr.heap.size, 1, none⟩ = some (.int .i64 x.f1) ∧ w'.cell? ⟨wr.heap.size, 2, none⟩ = some (.int .i64 x.f2) ∧ w'.cell? ⟨wr.heap.size, 3, none⟩ = some (.int .i64 x.f3) ∧ w'.cell? ⟨wr.heap.size, 4, none⟩ = some (.bool x.f4) ∧ w'.cell? ⟨wr.heap.size, 5, none⟩ = some (.int .i64 x.f5.f0) ∧ w'.cell? ⟨wr.heap.size, 6, none⟩ = some (.int .i64 x.f5.f1) ∧ w'.cell? ⟨wr.heap.size, 7, none⟩ = some (.int .i64 x.f5.f2) ∧ w'.cell? ⟨wr.heap.size, 8, none⟩ = some (.int .i64 x.f5.f3) ∧ w'.cell? ⟨wr.heap.size, 9, none⟩ = some (.string x.f6)) (ds := []) #[false, false, false, false, false, false, false, false] (by kernel_rfl) rfl rfl ⟨(c_at (sl_drew HSY.out) 3 rfl 0 rfl), (c_at (sl_drew HSY.out) 4 rfl 0 rfl), (c_at (sl_drew HSY.out) 4 rfl 1 rfl), (c_at (sl_drew HSY.out) 4 rfl 2 rfl), (c_at (sl_drew HSY.out) 4 rfl 3 rfl), (c_at (sl_drew HSY.out) 4 rfl 4 rfl), (c_at (sl_drew HSY.out) 4 rfl 5 rfl), (c_at (sl_drew HSY.out) 4 rfl 6 rfl), (c_at (sl_drew HSY.out) 4 rfl 7 rfl), (c_at (sl_drew HSY.out) 4 rfl 8 rfl), (c_at (sl_drew HSY.out) 4 rfl 9 rfl)⟩ (fun hHeld => ?_)
          refine pure_ (i := 0) (N := some 30) (v := ?_) (a' := ?_) #[true, false, false, false, false, false, false, false] rfl rfl (by kernel_rfl) (fun _ _ _ h => h) (Or.inl ⟨by rfl, ?_⟩) ?_ ?_
          rotate_left
          · intro w'
            go_simp
            with_reducible rfl
          rotate_left
          · simp only [Act.put, List.setIfInBounds_toArray, List.set_cons_zero, List.set_cons_succ, i64_w, i32_w, IntKind.wrap_u32, IntKind.wrap_u8, IntKind.wrap_u16]
            rfl
          refine pure_ (i := 1) (N := some 31) (v := ?_) (a' := ?_) #[true, true, false, false, false, false, false, false] rfl rfl (by kernel_rfl) (fun _ _ _ h => h) (Or.inl ⟨by rfl, ?_⟩) ?_ ?_
          rotate_left
          · intro w'
            go_simp
            with_reducible rfl
          rotate_left
          · simp only [Act.put, List.setIfInBounds_toArray, List.set_cons_zero, List.set_cons_succ, i64_w, i32_w, IntKind.wrap_u32, IntKind.wrap_u8, IntKind.wrap_u16]
            rfl
          refine pure_ (i := 2) (N := some 32) (v := ?_) (a' := ?_) #[true, true, true, false, false, false, false, false] rfl rfl (by kernel_rfl) (fun _ _ _ h => h) (Or.inl ⟨by rfl, ?_⟩) ?_ ?_
          rotate_left
          · intro w'
            go_simp
            with_reducible rfl
          rotate_left
          · simp only [Act.put, List.setIfInBounds_toArray, List.set_cons_zero, List.set_cons_succ, i64_w, i32_w, IntKind.wrap_u32, IntKind.wrap_u8, IntKind.wrap_u16]
            rfl
          refine pure_ (i := 6) (N := some 36) (v := ?_) (a' := ?_) #[true, true, true, false, false, false, true, false] rfl rfl (by kernel_rfl) (fun _ _ _ h => h) (Or.inl ⟨by rfl, ?_⟩) ?_ ?_
          rotate_left
          · intro w'
            go_simp
            with_reducible rfl
          rotate_left
          · simp only [Act.put, List.setIfInBounds_toArray, List.set_cons_zero, List.set_cons_succ, i64_w, i32_w, IntKind.wrap_u32, IntKind.wrap_u8, IntKind.wrap_u16]
            rfl
          refine take_ (i := 3) (N := some 33) (v := ?_) (a' := ?_) #[true, true, true, true, false, false, true, false] rfl rfl (by kernel_rfl) (fun _ _ _ h => h) (Or.inl ⟨by rfl, ?_⟩) hHeld ?_ ?_
          rotate_left
          · rintro w' ⟨s0, s1, s2, s3, s4, s5, s6, s7, s8, s9, s10⟩
            go_simp
            with_reducible rfl
          rotate_left
          · simp only [Act.put, List.setIfInBounds_toArray, List.set_cons_zero, List.set_cons_succ, i64_w, i32_w, IntKind.wrap_u32, IntKind.wrap_u8, IntKind.wrap_u16]
            rfl
          refine take_ (i := 4) (N := some 34) (v := ?_) (a' := ?_) #[true, true, true, true, true, false, true, false] rfl rfl (by kernel_rfl) (fun _ _ _ h => h) (Or.inl ⟨by rfl, ?_⟩) hHeld ?_ ?_
          rotate_left
          · rintro w' ⟨s0, s1, s2, s3, s4, s5, s6, s7, s8, s9, s10⟩
            go_simp
            with_reducible rfl
          rotate_left
          · simp only [Act.put, List.setIfInBounds_toArray, List.set_cons_zero, List.set_cons_succ, i64_w, i32_w, IntKind.wrap_u32, IntKind.wrap_u8, IntKind.wrap_u16]
            rfl
          refine one_ (i := 5) (N := some 35) #[true, true, true, true, true, true, true, false] rfl rfl (by kernel_rfl) (by decide) (fun K hK => ?_)
          refine goes_ Try.func16 (by kernel_rfl) rfl #[.pointer none, .agg #[.int .i64 (k : Int), .int .i64 x.f1, .int .i64 x.f2, .int .i64 x.f3, .bool x.f4, .int .i64 x.f5.f0, .int .i64 x.f5.f1, .int .i64 x.f5.f2, .int .i64 x.f5.f3, .string x.f6]] (by rfl) rfl rfl (by (try simp only [List.map_toArray, List.map_cons, List.map_nil]); first | done | rfl) ?_
          with_reducible refine (call_no nouse_nil (sl_drew HSY.out) 1 rfl ⟨(k : Int), x.f1, x.f2, x.f3, x.f4, x.f5, x.f6⟩).mono ?_
          rintro e w3 ⟨rfl, hs3⟩
          refine ⟨_, rfl, ?_⟩
          refine hK.out _ _ ⟨(c_at hs3 3 rfl 0 rfl), (c_at hs3 4 rfl 0 rfl), (c_at hs3 4 rfl 1 rfl), (c_at hs3 4 rfl 2 rfl), (c_at hs3 4 rfl 3 rfl), (c_at hs3 4 rfl 4 rfl), (c_at hs3 4 rfl 5 rfl), (c_at hs3 4 rfl 6 rfl), (c_at hs3 4 rfl 7 rfl), (c_at hs3 4 rfl 8 rfl), (c_at hs3 4 rfl 9 rfl)⟩ (fun hHeld => ?_)
          clear hK K
          refine norm_ (a' := ?_) ?_ ?_
          rotate_left
          · show Act.put _ (some 35) _ = _
            simp only [Act.put, List.setIfInBounds_toArray, List.set_cons_zero, List.set_cons_succ, i64_w, i32_w, IntKind.wrap_u32, IntKind.wrap_u8, IntKind.wrap_u16]
            rfl
          refine pure_ (i := 7) (N := some 37) (v := ?_) (a' := ?_) #[true, true, true, true, true, true, true, true] rfl rfl (by kernel_rfl) (fun _ _ _ h => h) (Or.inl ⟨by rfl, ?_⟩) ?_ ?_
          rotate_left
          · intro w'
            go_simp
            with_reducible rfl
          rotate_left
          · simp only [Act.put, List.setIfInBounds_toArray, List.set_cons_zero, List.set_cons_succ, i64_w, i32_w, IntKind.wrap_u32, IntKind.wrap_u8, IntKind.wrap_u16]
            rfl
          refine done_ (by kernel_rfl) ?_
          go_wp2_with (fail)
          go_roundg kp
          case measure => omega
          case rel => exact ⟨k + 1, congrArg (Value.int .i64) (wr6 HK.out), ⟨by have := HK.out; omega⟩, ⟨sl_take hs3 4⟩⟩
        · have b2 : decide (k < 6) = false := decide_eq_false hlt
          have b3 : decide ((k : Int) < 6) = false := decide_eq_false (by omega)
          clear hlt hk
          have lc := c_at HS.out 3 rfl 0 rfl
          have lt3 := blk_lt (sl_blk HS.out 3 rfl)
          go_wp2_with (first
            | (go_at_call 17; refine (agrees_no nouse_nil (by repeat (with_reducible first | exact HS.out | apply sl_drewN | apply sl_drew | apply sl_box | apply sl_alloc)) 1 (by rfl)).mono ?_; rintro e w1 ⟨rfl, hs⟩; (try simp only [World.size_alloc] at hs); replace HS := Aside0.mk hs; clear hs))
          go_roundg kq
          case measure => omega
          case rel => exact ⟨0 + 1, rfl, ⟨by have := HI.out; omega⟩, ⟨HS.out⟩⟩
    · obtain ⟨kq, rfl⟩ : ∃ m, gk = m + 1 := ⟨gk - 1, by have := HI.out; omega⟩
      have hv2 : _ = Value.int .i64 1 := hv
      subst hv2
      clear hv
      have lc := c_at HS.out 3 rfl 1 rfl
      have lt3 := blk_lt (sl_blk HS.out 3 rfl)
      go_wp2_with (fail)
      have HSS : Aside0 (SL w _ [cellsR gx 46 (cs46 x), noneR, zeroR (gx + 1), cellsR (gx + 1 + 1) 25 #[.pointer none, .pointer (some ⟨gx + 1, 0, none⟩)]]) := ⟨HS.out⟩
      go_loopg [6] 6 (fun kp v6 wr => ∃ k : Nat, v6 = .int .i64 (k : Int) ∧ Aside0 (k + kp = 6) ∧ Aside0 (SL w wr [cellsR gx 46 (cs46 x), noneR, zeroR (gx + 1), cellsR (gx + 1 + 1) 25 #[.pointer none, .pointer (some ⟨gx + 1, 0, none⟩)]]))
      case atStart => exact ⟨0, rfl, ⟨by omega⟩, HSS⟩
      case round =>
        clear HSS HS lc lt3
        obtain ⟨k, rfl, HK, HS⟩ := hrel
        have hk := HK.out
        by_cases hlt : k < 6
        · have b2 : decide (k < 6) = true := decide_eq_true hlt
          have b3 : decide ((k : Int) < 6) = true := decide_eq_true (by omega)
          obtain ⟨kp, rfl⟩ : ∃ m, gk = m + 1 := ⟨gk - 1, by omega⟩
          have c0 : wr.cell? ⟨gx, 0, none⟩ = some (.int .i64 x.f0) := c_at HS.out 0 rfl 0 rfl
          have c1 : wr.cell? ⟨gx, 1, none⟩ = some (.int .i64 x.f1) := c_at HS.out 0 rfl 1 rfl
          have c2 : wr.cell? ⟨gx, 2, none⟩ = some (.int .i64 x.f2) := c_at HS.out 0 rfl 2 rfl
          have c3 : wr.cell? ⟨gx, 3, none⟩ = some (.int .i64 x.f3) := c_at HS.out 0 rfl 3 rfl
          have c4 : wr.cell? ⟨gx, 4, none⟩ = some (.bool x.f4) := c_at HS.out 0 rfl 4 rfl
          have c5 : wr.cell? ⟨gx, 5, none⟩ = some (.int .i64 x.f5.f0) := c_at HS.out 0 rfl 5 rfl
          have c6 : wr.cell? ⟨gx, 6, none⟩ = some (.int .i64 x.f5.f1) := c_at HS.out 0 rfl 6 rfl
          have c7 : wr.cell? ⟨gx, 7, none⟩ = some (.int .i64 x.f5.f2) := c_at HS.out 0 rfl 7 rfl
          have c8 : wr.cell? ⟨gx, 8, none⟩ = some (.int .i64 x.f5.f3) := c_at HS.out 0 rfl 8 rfl
          have c9 : wr.cell? ⟨gx, 9, none⟩ = some (.string x.f6) := c_at HS.out 0 rfl 9 rfl
          clear hlt hk
          go_wp2_with (fail)
          have HSY := Aside0.mk (sl_box HS.out (cs46 ⟨(k : Int), x.f1, x.f2, x.f3, x.f4, x.f5, x.f6⟩) 46)
          have hq : ∀ d (W : World), (Op.equalIn (d + 2) 42 (.agg #[.int .i64 0, .int .i64 0, .int .i64 0, .int .i64 1]) (.agg #[.int .i64 0, .int .i64 0, .int .i64 0, .int .i64 1])).run Try.prog W = .ok true W := fun d W => eqS42 d W 0 0 0 1
          refine start_ (n := 8) (S := fun w' => w'.cell? ⟨gx + 1 + 1, 1, none⟩ = some (.pointer (some ⟨gx + 1, 0, none⟩)) ∧ w'.cell? ⟨wr.heap.size, 0, none⟩ = some (.int .i64 (k : Int)) ∧ w'.cell? ⟨wr.heap.size, 1, none⟩ = some (.int .i64 x.f1) ∧ w'.cell? ⟨wr.heap.size, 2, none⟩ = some (.int .i64 x.f2) ∧ w'.cell? ⟨wr.heap.size, 3, none⟩ = some (.int .i64 x.f3) ∧ w'.cell? ⟨wr.heap.size, 4, none⟩ = some (.bool x.f4) ∧ w'.cell? ⟨wr.heap.size, 5, none⟩ = some (.int .i64 x.f5.f0) ∧ w'.cell? ⟨wr.heap.size, 6, none⟩ = some (.int .i64 x.f5.f1) ∧ w'.cell? ⟨wr.heap.size, 7, none⟩ = some (.int .i64 x.f5.f2) ∧ w'.cell? ⟨wr.heap.size, 8, none⟩ = some (.int .i64 x.f5.f3) ∧ w'.cell? ⟨wr.heap.size, 9, none⟩ = some (.string x.f6)) (ds := []) #[false, false, false, false, false, false, false, false] (by kernel_rfl) rfl rfl ⟨(c_at (sl_drew HSY.out) 3 rfl 1 rfl), (c_at (sl_drew HSY.out) 4 rfl 0 rfl), (c_at (sl_drew HSY.out) 4 rfl 1 rfl), (c_at (sl_drew HSY.out) 4 rfl 2 rfl), (c_at (sl_drew HSY.out) 4 rfl 3 rfl), (c_at (sl_drew HSY.out) 4 rfl 4 rfl), (c_at (sl_drew HSY.out) 4 rfl 5 rfl), (c_at (sl_drew HSY.out) 4 rfl 6 rfl), (c_at (sl_drew HSY.out) 4 rfl 7 rfl), (c_at (sl_drew HSY.out) 4 rfl 8 rfl), (c_at (sl_drew HSY.out) 4 rfl 9 rfl)⟩ (fun hHeld => ?_)
          refine pure_ (i := 0) (N := some 30) (v := ?_) (a' := ?_) #[true, false, false, false, false, false, false, false] rfl rfl (by kernel_rfl) (fun _ _ _ h => h) (Or.inl ⟨by rfl, ?_⟩) ?_ ?_
          rotate_left
          · intro w'
            go_simp
            with_reducible rfl
          rotate_left
          · simp only [Act.put, List.setIfInBounds_toArray, List.set_cons_zero, List.set_cons_succ, i64_w, i32_w, IntKind.wrap_u32, IntKind.wrap_u8, IntKind.wrap_u16]
            rfl
          refine pure_ (i := 1) (N := some 31) (v := ?_) (a' := ?_) #[true, true, false, false, false, false, false, false] rfl rfl (by kernel_rfl) (fun _ _ _ h => h) (Or.inl ⟨by rfl, ?_⟩) ?_ ?_
          rotate_left
          · intro w'
            go_simp
            with_reducible rfl
          rotate_left
          · simp only [Act.put, List.setIfInBounds_toArray, List.set_cons_zero, List.set_cons_succ, i64_w, i32_w, IntKind.wrap_u32, IntKind.wrap_u8, IntKind.wrap_u16]
            rfl
          refine pure_ (i := 2) (N := some 32) (v := ?_) (a' := ?_) #[true, true, true, false, false, false, false, false] rfl rfl (by kernel_rfl) (fun _ _ _ h => h) (Or.inl ⟨by rfl, ?_⟩) ?_ ?_
          rotate_left
          · intro w'
            go_simp
            with_reducible rfl
          rotate_left
          · simp only [Act.put, List.setIfInBounds_toArray, List.set_cons_zero, List.set_cons_succ, i64_w, i32_w, IntKind.wrap_u32, IntKind.wrap_u8, IntKind.wrap_u16]
            rfl
          refine pure_ (i := 6) (N := some 36) (v := ?_) (a' := ?_) #[true, true, true, false, false, false, true, false] rfl rfl (by kernel_rfl) (fun _ _ _ h => h) (Or.inl ⟨by rfl, ?_⟩) ?_ ?_
          rotate_left
          · intro w'
            go_simp
            with_reducible rfl
          rotate_left
          · simp only [Act.put, List.setIfInBounds_toArray, List.set_cons_zero, List.set_cons_succ, i64_w, i32_w, IntKind.wrap_u32, IntKind.wrap_u8, IntKind.wrap_u16]
            rfl
          refine take_ (i := 3) (N := some 33) (v := ?_) (a' := ?_) #[true, true, true, true, false, false, true, false] rfl rfl (by kernel_rfl) (fun _ _ _ h => h) (Or.inl ⟨by rfl, ?_⟩) hHeld ?_ ?_
          rotate_left
          · rintro w' ⟨s0, s1, s2, s3, s4, s5, s6, s7, s8, s9, s10⟩
            go_simp
            with_reducible rfl
          rotate_left
          · simp only [Act.put, List.setIfInBounds_toArray, List.set_cons_zero, List.set_cons_succ, i64_w, i32_w, IntKind.wrap_u32, IntKind.wrap_u8, IntKind.wrap_u16]
            rfl
          refine take_ (i := 4) (N := some 34) (v := ?_) (a' := ?_) #[true, true, true, true, true, false, true, false] rfl rfl (by kernel_rfl) (fun _ _ _ h => h) (Or.inl ⟨by rfl, ?_⟩) hHeld ?_ ?_
          rotate_left
          · rintro w' ⟨s0, s1, s2, s3, s4, s5, s6, s7, s8, s9, s10⟩
            go_simp
            with_reducible rfl
          rotate_left
          · simp only [Act.put, List.setIfInBounds_toArray, List.set_cons_zero, List.set_cons_succ, i64_w, i32_w, IntKind.wrap_u32, IntKind.wrap_u8, IntKind.wrap_u16]
            rfl
          refine one_ (i := 5) (N := some 35) #[true, true, true, true, true, true, true, false] rfl rfl (by kernel_rfl) (by decide) (fun K hK => ?_)
          refine goes_ Try.func16 (by kernel_rfl) rfl #[.pointer (some ⟨gx + 1, 0, none⟩), .agg #[.int .i64 (k : Int), .int .i64 x.f1, .int .i64 x.f2, .int .i64 x.f3, .bool x.f4, .int .i64 x.f5.f0, .int .i64 x.f5.f1, .int .i64 x.f5.f2, .int .i64 x.f5.f3, .string x.f6]] (by rfl) rfl rfl (by (try simp only [List.map_toArray, List.map_cons, List.map_nil]); first | done | rfl) ?_
          with_reducible refine (call_no (nouse_zero (gx + 1)) (sl_drew HSY.out) 2 rfl ⟨(k : Int), x.f1, x.f2, x.f3, x.f4, x.f5, x.f6⟩).mono ?_
          rintro e w3 ⟨rfl, hs3⟩
          refine ⟨_, rfl, ?_⟩
          refine hK.out _ _ ⟨(c_at hs3 3 rfl 1 rfl), (c_at hs3 4 rfl 0 rfl), (c_at hs3 4 rfl 1 rfl), (c_at hs3 4 rfl 2 rfl), (c_at hs3 4 rfl 3 rfl), (c_at hs3 4 rfl 4 rfl), (c_at hs3 4 rfl 5 rfl), (c_at hs3 4 rfl 6 rfl), (c_at hs3 4 rfl 7 rfl), (c_at hs3 4 rfl 8 rfl), (c_at hs3 4 rfl 9 rfl)⟩ (fun hHeld => ?_)
          clear hK K
          refine norm_ (a' := ?_) ?_ ?_
          rotate_left
          · show Act.put _ (some 35) _ = _
            simp only [Act.put, List.setIfInBounds_toArray, List.set_cons_zero, List.set_cons_succ, i64_w, i32_w, IntKind.wrap_u32, IntKind.wrap_u8, IntKind.wrap_u16]
            rfl
          refine pure_ (i := 7) (N := some 37) (v := ?_) (a' := ?_) #[true, true, true, true, true, true, true, true] rfl rfl (by kernel_rfl) (fun _ _ _ h => h) (Or.inl ⟨by rfl, ?_⟩) ?_ ?_
          rotate_left
          · intro w'
            go_simp
            with_reducible rfl
          rotate_left
          · simp only [Act.put, List.setIfInBounds_toArray, List.set_cons_zero, List.set_cons_succ, i64_w, i32_w, IntKind.wrap_u32, IntKind.wrap_u8, IntKind.wrap_u16]
            rfl
          refine done_ (by kernel_rfl) ?_
          go_wp2_with (fail)
          go_roundg kp
          case measure => omega
          case rel => exact ⟨k + 1, congrArg (Value.int .i64) (wr6 HK.out), ⟨by have := HK.out; omega⟩, ⟨sl_take hs3 4⟩⟩
        · have b2 : decide (k < 6) = false := decide_eq_false hlt
          have b3 : decide ((k : Int) < 6) = false := decide_eq_false (by omega)
          clear hlt hk
          have lc := c_at HS.out 3 rfl 1 rfl
          have lt3 := blk_lt (sl_blk HS.out 3 rfl)
          go_wp2_with (first
            | (go_at_call 17; refine (agrees_no (nouse_zero (gx + 1)) (by repeat (with_reducible first | exact HS.out | apply sl_drewN | apply sl_drew | apply sl_box | apply sl_alloc)) 2 (by rfl)).mono ?_; rintro e w1 ⟨rfl, hs⟩; (try simp only [World.size_alloc] at hs); replace HS := Aside0.mk hs; clear hs))
          go_roundg kq
          case measure => omega
          case rel => exact ⟨1 + 1, rfl, ⟨by have := HI.out; omega⟩, ⟨HS.out⟩⟩
    · have hv2 : _ = Value.int .i64 2 := hv
      subst hv2
      clear hv
      go_wp2_with (first
    | (go_at_call 8; refine (ex_c (by repeat (with_reducible first | exact HS.out | apply sl_drewN | apply sl_drew | apply sl_alloc))).mono ?_; rintro e w1 ⟨rfl, hs⟩; (try simp only [World.size_alloc] at hs); replace HS := Aside0.mk hs; clear hs))
      try rw [Exit.noGoto_ret]
      go_ret
      exact ⟨rfl, sl_below0 HS.out⟩
end Go.Proofs.Ytckpgccbhaejgaa.Q
