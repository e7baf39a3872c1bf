import Derived.Test.YtinchgipfaefbaaDoorV5
namespace Go.Proofs.YtinchgipfaefbaaDoor.Q
open Go.RowKit Go.Proofs.YtinchgipfaefbaaDoorW.PrintWords Go.Proofs.YtinchgipfaefbaaDoorW.PrintLast Go.Proofs.YtinchgipfaefbaaDoorW.PrintMore Go.Proofs.YtinchgipfaefbaaDoor.Sl Go.Proofs.YtinchgipfaefbaaDoor.Hand 
attribute [local go_sem] max2_int min2_int max_two min_two max_three min_three max_four min_four 
set_option linter.unusedVariables false
set_option linter.unusedSimpArgs false

theorem sz_set (w : World) (p : Addr) (v : Value) : (w.setCell p v).heap.size = w.heap.size := by simp [World.setCell]
theorem eqA23 (d : Nat) (w : World) (x0 y0 : Int) (x1 y1 : Int) (x2 y2 : Int) (x3 y3 : Int) :
    (Op.equalIn (d + 2) 23 (.agg #[.int .i64 x0, .int .i64 x1, .int .i64 x2, .int .i64 x3]) (.agg #[.int .i64 y0, .int .i64 y1, .int .i64 y2, .int .i64 y3])).run Tryd.prog w = .ok (x0 == y0 && (x1 == y1 && (x2 == y2 && (x3 == y3)))) w := by
  refine eqA_of Tryd.underlying23 (by kernel_rfl) ?_
  refine eqf_cons (by rfl) (by go_simp; rfl) (by go_simp; rfl) (by go_simp) ?_
  refine eqf_cons (by rfl) (by go_simp; rfl) (by go_simp; rfl) (by go_simp) ?_
  refine eqf_cons (by rfl) (by go_simp; rfl) (by go_simp; rfl) (by go_simp) ?_
  exact eqf_last (by rfl) (by go_simp; rfl) (by go_simp; rfl) (by go_simp)
section
attribute [local go_sem high] eqA23
variable {w0 w : World} {L : List Res}
set_option maxHeartbeats 8000000 in
set_option maxRecDepth 100000 in
theorem ex_c (hT : Tab w0) (h : SL w0 w L) : Calls Tryd.prog 13 #[] w fun e w' => e = .returned (.bool true) ∧ SL w0 w' L := by
  have HT := Aside0.mk (hT.sl h)
  have H := Aside0.mk h
  have HS := Aside0.mk (sl_start w)
  have eHPl : plaV (⟨4, 2, 10, 10, 12, 11, 2, 2, 0, 0, 0⟩ : Pos) = (9, 11, 13, 13, 0) := by decide +kernel
  have HPl := Aside0.mk (show ∀ {w' : World} {M : List Res}, SL w w' M → Calls Tryd.prog 16 #[.agg #[.int .i64 4, .int .i64 2, .int .i64 10, .int .i64 10, .int .i64 12, .int .i64 11, .int .i64 2, .int .i64 2, .int .i64 0, .int .i64 0, .int .i64 0]] w' fun e w'' => e = .returned (.tuple #[.agg #[.int .i64 9, .int .i64 11, .int .i64 13, .int .i64 13], .int .i64 0]) ∧ SL w w'' M from fun hs => by
    have := Place_c HT.out hs (⟨4, 2, 10, 10, 12, 11, 2, 2, 0, 0, 0⟩ : Pos); rw [eHPl] at this
    exact this)
  have eHC8 : conV (⟨4, 2, 10, 10, 12, 11, 2, 2, 8, 0, 0⟩ : Pos) 0 0 20 12 = (9, 8, 13, 10, 0) := by decide +kernel
  have HC8 := Aside0.mk (show ∀ {w' : World} {M : List Res}, SL w w' M → Calls Tryd.prog 18 #[.agg #[.int .i64 4, .int .i64 2, .int .i64 10, .int .i64 10, .int .i64 12, .int .i64 11, .int .i64 2, .int .i64 2, .int .i64 8, .int .i64 0, .int .i64 0], .agg #[.int .i64 0, .int .i64 0, .int .i64 20, .int .i64 12]] w' fun e w'' => e = .returned (.tuple #[.agg #[.int .i64 9, .int .i64 8, .int .i64 13, .int .i64 10], .int .i64 0]) ∧ SL w w'' M from fun hs => by
    have := Con_c HT.out hs (⟨4, 2, 10, 10, 12, 11, 2, 2, 8, 0, 0⟩ : Pos) 0 0 20 12; rw [eHC8] at this
    exact this)
  have eHC1 : conV (⟨4, 2, 10, 10, 12, 11, 2, 2, 1, 0, 0⟩ : Pos) 0 0 12 20 = (8, 11, 12, 13, 0) := by decide +kernel
  have HC1 := Aside0.mk (show ∀ {w' : World} {M : List Res}, SL w w' M → Calls Tryd.prog 18 #[.agg #[.int .i64 4, .int .i64 2, .int .i64 10, .int .i64 10, .int .i64 12, .int .i64 11, .int .i64 2, .int .i64 2, .int .i64 1, .int .i64 0, .int .i64 0], .agg #[.int .i64 0, .int .i64 0, .int .i64 12, .int .i64 20]] w' fun e w'' => e = .returned (.tuple #[.agg #[.int .i64 8, .int .i64 11, .int .i64 12, .int .i64 13], .int .i64 0]) ∧ SL w w'' M from fun hs => by
    have := Con_c HT.out hs (⟨4, 2, 10, 10, 12, 11, 2, 2, 1, 0, 0⟩ : Pos) 0 0 12 20; rw [eHC1] at this
    exact this)
  have eHC16 : conV (⟨4, 2, 10, 10, 12, 11, 2, 2, 16, 0, 0⟩ : Pos) 0 0 12 20 = (9, 11, 12, 13, 0) := by decide +kernel
  have HC16 := Aside0.mk (show ∀ {w' : World} {M : List Res}, SL w w' M → Calls Tryd.prog 18 #[.agg #[.int .i64 4, .int .i64 2, .int .i64 10, .int .i64 10, .int .i64 12, .int .i64 11, .int .i64 2, .int .i64 2, .int .i64 16, .int .i64 0, .int .i64 0], .agg #[.int .i64 0, .int .i64 0, .int .i64 12, .int .i64 20]] w' fun e w'' => e = .returned (.tuple #[.agg #[.int .i64 9, .int .i64 11, .int .i64 12, .int .i64 13], .int .i64 0]) ∧ SL w w'' M from fun hs => by
    have := Con_c HT.out hs (⟨4, 2, 10, 10, 12, 11, 2, 2, 16, 0, 0⟩ : Pos) 0 0 12 20; rw [eHC16] at this
    exact this)
  have eFl : flipV 5 true = 7 := by decide +kernel
  have HFl := Aside0.mk (show ∀ {w' : World} {M : List Res}, SL w w' M → Calls Tryd.prog 14 #[.int .i64 5, .bool true] w' fun e w'' => e = .returned (.int .i64 7) ∧ SL w w'' M from fun hs => by
    have := Flip_c HT.out hs 5 true; rw [eFl] at this
    exact this)
  clear eHPl eHC8 eHC1 eHC16 eFl
  clear h hT
  go_enter Tryd.func13, Tryd.ntmps13
  go_upto_region 4 with (first
    | (go_at_call 16; with_reducible refine (HPl.out (by repeat (with_reducible first | exact HS.out | apply sl_drewN | apply sl_drew | apply sl_box))).mono ?_; rintro e w1 ⟨rfl, hs⟩; (try simp only [World.size_alloc] at hs); replace HS := Aside0.mk hs; clear hs; (try (have c0_0 := c_at HS.out 0 rfl 0 rfl; have c0_1 := c_at HS.out 0 rfl 1 rfl; have c0_2 := c_at HS.out 0 rfl 2 rfl; have c0_3 := c_at HS.out 0 rfl 3 rfl; have c0_4 := c_at HS.out 0 rfl 4 rfl; have c0_5 := c_at HS.out 0 rfl 5 rfl; have c0_6 := c_at HS.out 0 rfl 6 rfl; have c0_7 := c_at HS.out 0 rfl 7 rfl; have c0_8 := c_at HS.out 0 rfl 8 rfl; have c0_9 := c_at HS.out 0 rfl 9 rfl; have c0_10 := c_at HS.out 0 rfl 10 rfl; have ltc0 := blk_lt (sl_blk HS.out 0 rfl); have fzc0_0 := f_at HS.out 0 rfl 0; have fzc0_1 := f_at HS.out 0 rfl 1; have fzc0_2 := f_at HS.out 0 rfl 2; have fzc0_3 := f_at HS.out 0 rfl 3; have fzc0_4 := f_at HS.out 0 rfl 4; have fzc0_5 := f_at HS.out 0 rfl 5; have fzc0_6 := f_at HS.out 0 rfl 6; have fzc0_7 := f_at HS.out 0 rfl 7; have fzc0_8 := f_at HS.out 0 rfl 8; have fzc0_9 := f_at HS.out 0 rfl 9; have fzc0_10 := f_at HS.out 0 rfl 10)))
    | (go_at_call 18; (first | with_reducible refine (HC8.out (by repeat (with_reducible first | exact HS.out | apply sl_drewN | apply sl_drew | apply sl_box))).mono ?_ | with_reducible refine (HC1.out (by repeat (with_reducible first | exact HS.out | apply sl_drewN | apply sl_drew | apply sl_box))).mono ?_ | with_reducible refine (HC16.out (by repeat (with_reducible first | exact HS.out | apply sl_drewN | apply sl_drew | apply sl_box))).mono ?_); rintro e w1 ⟨rfl, hs⟩; (try simp only [World.size_alloc] at hs); replace HS := Aside0.mk hs; clear hs; (try (have c0_0 := c_at HS.out 0 rfl 0 rfl; have c0_1 := c_at HS.out 0 rfl 1 rfl; have c0_2 := c_at HS.out 0 rfl 2 rfl; have c0_3 := c_at HS.out 0 rfl 3 rfl; have c0_4 := c_at HS.out 0 rfl 4 rfl; have c0_5 := c_at HS.out 0 rfl 5 rfl; have c0_6 := c_at HS.out 0 rfl 6 rfl; have c0_7 := c_at HS.out 0 rfl 7 rfl; have c0_8 := c_at HS.out 0 rfl 8 rfl; have c0_9 := c_at HS.out 0 rfl 9 rfl; have c0_10 := c_at HS.out 0 rfl 10 rfl; have ltc0 := blk_lt (sl_blk HS.out 0 rfl); have fzc0_0 := f_at HS.out 0 rfl 0; have fzc0_1 := f_at HS.out 0 rfl 1; have fzc0_2 := f_at HS.out 0 rfl 2; have fzc0_3 := f_at HS.out 0 rfl 3; have fzc0_4 := f_at HS.out 0 rfl 4; have fzc0_5 := f_at HS.out 0 rfl 5; have fzc0_6 := f_at HS.out 0 rfl 6; have fzc0_7 := f_at HS.out 0 rfl 7; have fzc0_8 := f_at HS.out 0 rfl 8; have fzc0_9 := f_at HS.out 0 rfl 9; have fzc0_10 := f_at HS.out 0 rfl 10)))
    | (go_at_call 14; with_reducible refine (HFl.out (by repeat (with_reducible first | exact HS.out | apply sl_drewN | apply sl_drew | apply sl_box))).mono ?_; rintro e w1 ⟨rfl, hs⟩; (try simp only [World.size_alloc] at hs); replace HS := Aside0.mk hs; clear hs; (try (have c0_0 := c_at HS.out 0 rfl 0 rfl; have c0_1 := c_at HS.out 0 rfl 1 rfl; have c0_2 := c_at HS.out 0 rfl 2 rfl; have c0_3 := c_at HS.out 0 rfl 3 rfl; have c0_4 := c_at HS.out 0 rfl 4 rfl; have c0_5 := c_at HS.out 0 rfl 5 rfl; have c0_6 := c_at HS.out 0 rfl 6 rfl; have c0_7 := c_at HS.out 0 rfl 7 rfl; have c0_8 := c_at HS.out 0 rfl 8 rfl; have c0_9 := c_at HS.out 0 rfl 9 rfl; have c0_10 := c_at HS.out 0 rfl 10 rfl; have ltc0 := blk_lt (sl_blk HS.out 0 rfl); have fzc0_0 := f_at HS.out 0 rfl 0; have fzc0_1 := f_at HS.out 0 rfl 1; have fzc0_2 := f_at HS.out 0 rfl 2; have fzc0_3 := f_at HS.out 0 rfl 3; have fzc0_4 := f_at HS.out 0 rfl 4; have fzc0_5 := f_at HS.out 0 rfl 5; have fzc0_6 := f_at HS.out 0 rfl 6; have fzc0_7 := f_at HS.out 0 rfl 7; have fzc0_8 := f_at HS.out 0 rfl 8; have fzc0_9 := f_at HS.out 0 rfl 9; have fzc0_10 := f_at HS.out 0 rfl 10))))
  refine world_gen (F := fun w_ => Code.wp Tryd.prog _ _ _ w_) (fun w_ => SL w w_ [cellsR w.heap.size 28 #[.int .i64 4, .int .i64 2, .int .i64 10, .int .i64 10, .int .i64 12, .int .i64 11, .int .i64 2, .int .i64 2, .int .i64 8, .int .i64 0, .int .i64 0], cellsR w1.heap.size 23 #[.int .i64 9, .int .i64 11, .int .i64 13, .int .i64 13]]) ?hP ?_
  case hP =>
    have hs := sl_box (sl_put HS.out 0 rfl 8 (Value.int .i64 8)) #[.int .i64 9, .int .i64 11, .int .i64 13, .int .i64 13] 23
    (try simp only [World.size_alloc, sz_set] at hs)
    exact hs
  generalize w1.heap.size = n1
  intro w2 hs
  replace HS := Aside0.mk hs
  clear hs
  have c0_0 := c_at HS.out 0 rfl 0 rfl
  have c0_1 := c_at HS.out 0 rfl 1 rfl
  have c0_2 := c_at HS.out 0 rfl 2 rfl
  have c0_3 := c_at HS.out 0 rfl 3 rfl
  have c0_4 := c_at HS.out 0 rfl 4 rfl
  have c0_5 := c_at HS.out 0 rfl 5 rfl
  have c0_6 := c_at HS.out 0 rfl 6 rfl
  have c0_7 := c_at HS.out 0 rfl 7 rfl
  have c0_8 := c_at HS.out 0 rfl 8 rfl
  have c0_9 := c_at HS.out 0 rfl 9 rfl
  have c0_10 := c_at HS.out 0 rfl 10 rfl
  have ltc0 := blk_lt (sl_blk HS.out 0 rfl)
  have fzc0_0 := f_at HS.out 0 rfl 0
  have fzc0_1 := f_at HS.out 0 rfl 1
  have fzc0_2 := f_at HS.out 0 rfl 2
  have fzc0_3 := f_at HS.out 0 rfl 3
  have fzc0_4 := f_at HS.out 0 rfl 4
  have fzc0_5 := f_at HS.out 0 rfl 5
  have fzc0_6 := f_at HS.out 0 rfl 6
  have fzc0_7 := f_at HS.out 0 rfl 7
  have fzc0_8 := f_at HS.out 0 rfl 8
  have fzc0_9 := f_at HS.out 0 rfl 9
  have fzc0_10 := f_at HS.out 0 rfl 10
  have c1_0 := c_at HS.out 1 rfl 0 rfl
  have c1_1 := c_at HS.out 1 rfl 1 rfl
  have c1_2 := c_at HS.out 1 rfl 2 rfl
  have c1_3 := c_at HS.out 1 rfl 3 rfl
  have ltc1 := blk_lt (sl_blk HS.out 1 rfl)
  go_upto_region 6 with (first
    | (go_at_call 16; with_reducible refine (HPl.out (by repeat (with_reducible first | exact HS.out | apply sl_drewN | apply sl_drew | apply sl_box))).mono ?_; rintro e w1 ⟨rfl, hs⟩; (try simp only [World.size_alloc] at hs); replace HS := Aside0.mk hs; clear hs; (try (have c0_0 := c_at HS.out 0 rfl 0 rfl; have c0_1 := c_at HS.out 0 rfl 1 rfl; have c0_2 := c_at HS.out 0 rfl 2 rfl; have c0_3 := c_at HS.out 0 rfl 3 rfl; have c0_4 := c_at HS.out 0 rfl 4 rfl; have c0_5 := c_at HS.out 0 rfl 5 rfl; have c0_6 := c_at HS.out 0 rfl 6 rfl; have c0_7 := c_at HS.out 0 rfl 7 rfl; have c0_8 := c_at HS.out 0 rfl 8 rfl; have c0_9 := c_at HS.out 0 rfl 9 rfl; have c0_10 := c_at HS.out 0 rfl 10 rfl; have ltc0 := blk_lt (sl_blk HS.out 0 rfl); have fzc0_0 := f_at HS.out 0 rfl 0; have fzc0_1 := f_at HS.out 0 rfl 1; have fzc0_2 := f_at HS.out 0 rfl 2; have fzc0_3 := f_at HS.out 0 rfl 3; have fzc0_4 := f_at HS.out 0 rfl 4; have fzc0_5 := f_at HS.out 0 rfl 5; have fzc0_6 := f_at HS.out 0 rfl 6; have fzc0_7 := f_at HS.out 0 rfl 7; have fzc0_8 := f_at HS.out 0 rfl 8; have fzc0_9 := f_at HS.out 0 rfl 9; have fzc0_10 := f_at HS.out 0 rfl 10)); (try (have c1_0 := c_at HS.out 1 rfl 0 rfl; have c1_1 := c_at HS.out 1 rfl 1 rfl; have c1_2 := c_at HS.out 1 rfl 2 rfl; have c1_3 := c_at HS.out 1 rfl 3 rfl; have ltc1 := blk_lt (sl_blk HS.out 1 rfl))))
    | (go_at_call 18; (first | with_reducible refine (HC8.out (by repeat (with_reducible first | exact HS.out | apply sl_drewN | apply sl_drew | apply sl_box))).mono ?_ | with_reducible refine (HC1.out (by repeat (with_reducible first | exact HS.out | apply sl_drewN | apply sl_drew | apply sl_box))).mono ?_ | with_reducible refine (HC16.out (by repeat (with_reducible first | exact HS.out | apply sl_drewN | apply sl_drew | apply sl_box))).mono ?_); rintro e w1 ⟨rfl, hs⟩; (try simp only [World.size_alloc] at hs); replace HS := Aside0.mk hs; clear hs; (try (have c0_0 := c_at HS.out 0 rfl 0 rfl; have c0_1 := c_at HS.out 0 rfl 1 rfl; have c0_2 := c_at HS.out 0 rfl 2 rfl; have c0_3 := c_at HS.out 0 rfl 3 rfl; have c0_4 := c_at HS.out 0 rfl 4 rfl; have c0_5 := c_at HS.out 0 rfl 5 rfl; have c0_6 := c_at HS.out 0 rfl 6 rfl; have c0_7 := c_at HS.out 0 rfl 7 rfl; have c0_8 := c_at HS.out 0 rfl 8 rfl; have c0_9 := c_at HS.out 0 rfl 9 rfl; have c0_10 := c_at HS.out 0 rfl 10 rfl; have ltc0 := blk_lt (sl_blk HS.out 0 rfl); have fzc0_0 := f_at HS.out 0 rfl 0; have fzc0_1 := f_at HS.out 0 rfl 1; have fzc0_2 := f_at HS.out 0 rfl 2; have fzc0_3 := f_at HS.out 0 rfl 3; have fzc0_4 := f_at HS.out 0 rfl 4; have fzc0_5 := f_at HS.out 0 rfl 5; have fzc0_6 := f_at HS.out 0 rfl 6; have fzc0_7 := f_at HS.out 0 rfl 7; have fzc0_8 := f_at HS.out 0 rfl 8; have fzc0_9 := f_at HS.out 0 rfl 9; have fzc0_10 := f_at HS.out 0 rfl 10)); (try (have c1_0 := c_at HS.out 1 rfl 0 rfl; have c1_1 := c_at HS.out 1 rfl 1 rfl; have c1_2 := c_at HS.out 1 rfl 2 rfl; have c1_3 := c_at HS.out 1 rfl 3 rfl; have ltc1 := blk_lt (sl_blk HS.out 1 rfl))))
    | (go_at_call 14; with_reducible refine (HFl.out (by repeat (with_reducible first | exact HS.out | apply sl_drewN | apply sl_drew | apply sl_box))).mono ?_; rintro e w1 ⟨rfl, hs⟩; (try simp only [World.size_alloc] at hs); replace HS := Aside0.mk hs; clear hs; (try (have c0_0 := c_at HS.out 0 rfl 0 rfl; have c0_1 := c_at HS.out 0 rfl 1 rfl; have c0_2 := c_at HS.out 0 rfl 2 rfl; have c0_3 := c_at HS.out 0 rfl 3 rfl; have c0_4 := c_at HS.out 0 rfl 4 rfl; have c0_5 := c_at HS.out 0 rfl 5 rfl; have c0_6 := c_at HS.out 0 rfl 6 rfl; have c0_7 := c_at HS.out 0 rfl 7 rfl; have c0_8 := c_at HS.out 0 rfl 8 rfl; have c0_9 := c_at HS.out 0 rfl 9 rfl; have c0_10 := c_at HS.out 0 rfl 10 rfl; have ltc0 := blk_lt (sl_blk HS.out 0 rfl); have fzc0_0 := f_at HS.out 0 rfl 0; have fzc0_1 := f_at HS.out 0 rfl 1; have fzc0_2 := f_at HS.out 0 rfl 2; have fzc0_3 := f_at HS.out 0 rfl 3; have fzc0_4 := f_at HS.out 0 rfl 4; have fzc0_5 := f_at HS.out 0 rfl 5; have fzc0_6 := f_at HS.out 0 rfl 6; have fzc0_7 := f_at HS.out 0 rfl 7; have fzc0_8 := f_at HS.out 0 rfl 8; have fzc0_9 := f_at HS.out 0 rfl 9; have fzc0_10 := f_at HS.out 0 rfl 10)); (try (have c1_0 := c_at HS.out 1 rfl 0 rfl; have c1_1 := c_at HS.out 1 rfl 1 rfl; have c1_2 := c_at HS.out 1 rfl 2 rfl; have c1_3 := c_at HS.out 1 rfl 3 rfl; have ltc1 := blk_lt (sl_blk HS.out 1 rfl)))))
  refine world_gen (F := fun w_ => Code.wp Tryd.prog _ _ _ w_) (fun w_ => SL w w_ [cellsR w.heap.size 28 #[.int .i64 4, .int .i64 2, .int .i64 10, .int .i64 10, .int .i64 12, .int .i64 11, .int .i64 2, .int .i64 2, .int .i64 1, .int .i64 0, .int .i64 0], cellsR n1 23 #[.int .i64 9, .int .i64 11, .int .i64 13, .int .i64 13], cellsR w1.heap.size 23 #[.int .i64 9, .int .i64 8, .int .i64 13, .int .i64 10]]) ?hP ?_
  case hP =>
    have hs := sl_box (sl_put HS.out 0 rfl 8 (Value.int .i64 1)) #[.int .i64 9, .int .i64 8, .int .i64 13, .int .i64 10] 23
    (try simp only [World.size_alloc, sz_set] at hs)
    exact hs
  generalize w1.heap.size = n2
  intro w2 hs
  replace HS := Aside0.mk hs
  clear hs
  have c0_0 := c_at HS.out 0 rfl 0 rfl
  have c0_1 := c_at HS.out 0 rfl 1 rfl
  have c0_2 := c_at HS.out 0 rfl 2 rfl
  have c0_3 := c_at HS.out 0 rfl 3 rfl
  have c0_4 := c_at HS.out 0 rfl 4 rfl
  have c0_5 := c_at HS.out 0 rfl 5 rfl
  have c0_6 := c_at HS.out 0 rfl 6 rfl
  have c0_7 := c_at HS.out 0 rfl 7 rfl
  have c0_8 := c_at HS.out 0 rfl 8 rfl
  have c0_9 := c_at HS.out 0 rfl 9 rfl
  have c0_10 := c_at HS.out 0 rfl 10 rfl
  have ltc0 := blk_lt (sl_blk HS.out 0 rfl)
  have fzc0_0 := f_at HS.out 0 rfl 0
  have fzc0_1 := f_at HS.out 0 rfl 1
  have fzc0_2 := f_at HS.out 0 rfl 2
  have fzc0_3 := f_at HS.out 0 rfl 3
  have fzc0_4 := f_at HS.out 0 rfl 4
  have fzc0_5 := f_at HS.out 0 rfl 5
  have fzc0_6 := f_at HS.out 0 rfl 6
  have fzc0_7 := f_at HS.out 0 rfl 7
  have fzc0_8 := f_at HS.out 0 rfl 8
  have fzc0_9 := f_at HS.out 0 rfl 9
  have fzc0_10 := f_at HS.out 0 rfl 10
  have c1_0 := c_at HS.out 1 rfl 0 rfl
  have c1_1 := c_at HS.out 1 rfl 1 rfl
  have c1_2 := c_at HS.out 1 rfl 2 rfl
  have c1_3 := c_at HS.out 1 rfl 3 rfl
  have ltc1 := blk_lt (sl_blk HS.out 1 rfl)
  have c2_0 := c_at HS.out 2 rfl 0 rfl
  have c2_1 := c_at HS.out 2 rfl 1 rfl
  have c2_2 := c_at HS.out 2 rfl 2 rfl
  have c2_3 := c_at HS.out 2 rfl 3 rfl
  have ltc2 := blk_lt (sl_blk HS.out 2 rfl)
  go_upto_region 8 with (first
    | (go_at_call 16; with_reducible refine (HPl.out (by repeat (with_reducible first | exact HS.out | apply sl_drewN | apply sl_drew | apply sl_box))).mono ?_; rintro e w1 ⟨rfl, hs⟩; (try simp only [World.size_alloc] at hs); replace HS := Aside0.mk hs; clear hs; (try (have c0_0 := c_at HS.out 0 rfl 0 rfl; have c0_1 := c_at HS.out 0 rfl 1 rfl; have c0_2 := c_at HS.out 0 rfl 2 rfl; have c0_3 := c_at HS.out 0 rfl 3 rfl; have c0_4 := c_at HS.out 0 rfl 4 rfl; have c0_5 := c_at HS.out 0 rfl 5 rfl; have c0_6 := c_at HS.out 0 rfl 6 rfl; have c0_7 := c_at HS.out 0 rfl 7 rfl; have c0_8 := c_at HS.out 0 rfl 8 rfl; have c0_9 := c_at HS.out 0 rfl 9 rfl; have c0_10 := c_at HS.out 0 rfl 10 rfl; have ltc0 := blk_lt (sl_blk HS.out 0 rfl); have fzc0_0 := f_at HS.out 0 rfl 0; have fzc0_1 := f_at HS.out 0 rfl 1; have fzc0_2 := f_at HS.out 0 rfl 2; have fzc0_3 := f_at HS.out 0 rfl 3; have fzc0_4 := f_at HS.out 0 rfl 4; have fzc0_5 := f_at HS.out 0 rfl 5; have fzc0_6 := f_at HS.out 0 rfl 6; have fzc0_7 := f_at HS.out 0 rfl 7; have fzc0_8 := f_at HS.out 0 rfl 8; have fzc0_9 := f_at HS.out 0 rfl 9; have fzc0_10 := f_at HS.out 0 rfl 10)); (try (have c1_0 := c_at HS.out 1 rfl 0 rfl; have c1_1 := c_at HS.out 1 rfl 1 rfl; have c1_2 := c_at HS.out 1 rfl 2 rfl; have c1_3 := c_at HS.out 1 rfl 3 rfl; have ltc1 := blk_lt (sl_blk HS.out 1 rfl))); (try (have c2_0 := c_at HS.out 2 rfl 0 rfl; have c2_1 := c_at HS.out 2 rfl 1 rfl; have c2_2 := c_at HS.out 2 rfl 2 rfl; have c2_3 := c_at HS.out 2 rfl 3 rfl; have ltc2 := blk_lt (sl_blk HS.out 2 rfl))))
    | (go_at_call 18; (first | with_reducible refine (HC8.out (by repeat (with_reducible first | exact HS.out | apply sl_drewN | apply sl_drew | apply sl_box))).mono ?_ | with_reducible refine (HC1.out (by repeat (with_reducible first | exact HS.out | apply sl_drewN | apply sl_drew | apply sl_box))).mono ?_ | with_reducible refine (HC16.out (by repeat (with_reducible first | exact HS.out | apply sl_drewN | apply sl_drew | apply sl_box))).mono ?_); rintro e w1 ⟨rfl, hs⟩; (try simp only [World.size_alloc] at hs); replace HS := Aside0.mk hs; clear hs; (try (have c0_0 := c_at HS.out 0 rfl 0 rfl; have c0_1 := c_at HS.out 0 rfl 1 rfl; have c0_2 := c_at HS.out 0 rfl 2 rfl; have c0_3 := c_at HS.out 0 rfl 3 rfl; have c0_4 := c_at HS.out 0 rfl 4 rfl; have c0_5 := c_at HS.out 0 rfl 5 rfl; have c0_6 := c_at HS.out 0 rfl 6 rfl; have c0_7 := c_at HS.out 0 rfl 7 rfl; have c0_8 := c_at HS.out 0 rfl 8 rfl; have c0_9 := c_at HS.out 0 rfl 9 rfl; have c0_10 := c_at HS.out 0 rfl 10 rfl; have ltc0 := blk_lt (sl_blk HS.out 0 rfl); have fzc0_0 := f_at HS.out 0 rfl 0; have fzc0_1 := f_at HS.out 0 rfl 1; have fzc0_2 := f_at HS.out 0 rfl 2; have fzc0_3 := f_at HS.out 0 rfl 3; have fzc0_4 := f_at HS.out 0 rfl 4; have fzc0_5 := f_at HS.out 0 rfl 5; have fzc0_6 := f_at HS.out 0 rfl 6; have fzc0_7 := f_at HS.out 0 rfl 7; have fzc0_8 := f_at HS.out 0 rfl 8; have fzc0_9 := f_at HS.out 0 rfl 9; have fzc0_10 := f_at HS.out 0 rfl 10)); (try (have c1_0 := c_at HS.out 1 rfl 0 rfl; have c1_1 := c_at HS.out 1 rfl 1 rfl; have c1_2 := c_at HS.out 1 rfl 2 rfl; have c1_3 := c_at HS.out 1 rfl 3 rfl; have ltc1 := blk_lt (sl_blk HS.out 1 rfl))); (try (have c2_0 := c_at HS.out 2 rfl 0 rfl; have c2_1 := c_at HS.out 2 rfl 1 rfl; have c2_2 := c_at HS.out 2 rfl 2 rfl; have c2_3 := c_at HS.out 2 rfl 3 rfl; have ltc2 := blk_lt (sl_blk HS.out 2 rfl))))
    | (go_at_call 14; with_reducible refine (HFl.out (by repeat (with_reducible first | exact HS.out | apply sl_drewN | apply sl_drew | apply sl_box))).mono ?_; rintro e w1 ⟨rfl, hs⟩; (try simp only [World.size_alloc] at hs); replace HS := Aside0.mk hs; clear hs; (try (have c0_0 := c_at HS.out 0 rfl 0 rfl; have c0_1 := c_at HS.out 0 rfl 1 rfl; have c0_2 := c_at HS.out 0 rfl 2 rfl; have c0_3 := c_at HS.out 0 rfl 3 rfl; have c0_4 := c_at HS.out 0 rfl 4 rfl; have c0_5 := c_at HS.out 0 rfl 5 rfl; have c0_6 := c_at HS.out 0 rfl 6 rfl; have c0_7 := c_at HS.out 0 rfl 7 rfl; have c0_8 := c_at HS.out 0 rfl 8 rfl; have c0_9 := c_at HS.out 0 rfl 9 rfl; have c0_10 := c_at HS.out 0 rfl 10 rfl; have ltc0 := blk_lt (sl_blk HS.out 0 rfl); have fzc0_0 := f_at HS.out 0 rfl 0; have fzc0_1 := f_at HS.out 0 rfl 1; have fzc0_2 := f_at HS.out 0 rfl 2; have fzc0_3 := f_at HS.out 0 rfl 3; have fzc0_4 := f_at HS.out 0 rfl 4; have fzc0_5 := f_at HS.out 0 rfl 5; have fzc0_6 := f_at HS.out 0 rfl 6; have fzc0_7 := f_at HS.out 0 rfl 7; have fzc0_8 := f_at HS.out 0 rfl 8; have fzc0_9 := f_at HS.out 0 rfl 9; have fzc0_10 := f_at HS.out 0 rfl 10)); (try (have c1_0 := c_at HS.out 1 rfl 0 rfl; have c1_1 := c_at HS.out 1 rfl 1 rfl; have c1_2 := c_at HS.out 1 rfl 2 rfl; have c1_3 := c_at HS.out 1 rfl 3 rfl; have ltc1 := blk_lt (sl_blk HS.out 1 rfl))); (try (have c2_0 := c_at HS.out 2 rfl 0 rfl; have c2_1 := c_at HS.out 2 rfl 1 rfl; have c2_2 := c_at HS.out 2 rfl 2 rfl; have c2_3 := c_at HS.out 2 rfl 3 rfl; have ltc2 := blk_lt (sl_blk HS.out 2 rfl)))))
  refine world_gen (F := fun w_ => Code.wp Tryd.prog _ _ _ w_) (fun w_ => SL w w_ [cellsR w.heap.size 28 #[.int .i64 4, .int .i64 2, .int .i64 10, .int .i64 10, .int .i64 12, .int .i64 11, .int .i64 2, .int .i64 2, .int .i64 16, .int .i64 0, .int .i64 0], cellsR n1 23 #[.int .i64 9, .int .i64 11, .int .i64 13, .int .i64 13], cellsR n2 23 #[.int .i64 9, .int .i64 8, .int .i64 13, .int .i64 10], cellsR w1.heap.size 23 #[.int .i64 8, .int .i64 11, .int .i64 12, .int .i64 13]]) ?hP ?_
  case hP =>
    have hs := sl_box (sl_put HS.out 0 rfl 8 (Value.int .i64 16)) #[.int .i64 8, .int .i64 11, .int .i64 12, .int .i64 13] 23
    (try simp only [World.size_alloc, sz_set] at hs)
    exact hs
  generalize w1.heap.size = n3
  intro w2 hs
  replace HS := Aside0.mk hs
  clear hs
  have c0_0 := c_at HS.out 0 rfl 0 rfl
  have c0_1 := c_at HS.out 0 rfl 1 rfl
  have c0_2 := c_at HS.out 0 rfl 2 rfl
  have c0_3 := c_at HS.out 0 rfl 3 rfl
  have c0_4 := c_at HS.out 0 rfl 4 rfl
  have c0_5 := c_at HS.out 0 rfl 5 rfl
  have c0_6 := c_at HS.out 0 rfl 6 rfl
  have c0_7 := c_at HS.out 0 rfl 7 rfl
  have c0_8 := c_at HS.out 0 rfl 8 rfl
  have c0_9 := c_at HS.out 0 rfl 9 rfl
  have c0_10 := c_at HS.out 0 rfl 10 rfl
  have ltc0 := blk_lt (sl_blk HS.out 0 rfl)
  have fzc0_0 := f_at HS.out 0 rfl 0
  have fzc0_1 := f_at HS.out 0 rfl 1
  have fzc0_2 := f_at HS.out 0 rfl 2
  have fzc0_3 := f_at HS.out 0 rfl 3
  have fzc0_4 := f_at HS.out 0 rfl 4
  have fzc0_5 := f_at HS.out 0 rfl 5
  have fzc0_6 := f_at HS.out 0 rfl 6
  have fzc0_7 := f_at HS.out 0 rfl 7
  have fzc0_8 := f_at HS.out 0 rfl 8
  have fzc0_9 := f_at HS.out 0 rfl 9
  have fzc0_10 := f_at HS.out 0 rfl 10
  have c1_0 := c_at HS.out 1 rfl 0 rfl
  have c1_1 := c_at HS.out 1 rfl 1 rfl
  have c1_2 := c_at HS.out 1 rfl 2 rfl
  have c1_3 := c_at HS.out 1 rfl 3 rfl
  have ltc1 := blk_lt (sl_blk HS.out 1 rfl)
  have c2_0 := c_at HS.out 2 rfl 0 rfl
  have c2_1 := c_at HS.out 2 rfl 1 rfl
  have c2_2 := c_at HS.out 2 rfl 2 rfl
  have c2_3 := c_at HS.out 2 rfl 3 rfl
  have ltc2 := blk_lt (sl_blk HS.out 2 rfl)
  have c3_0 := c_at HS.out 3 rfl 0 rfl
  have c3_1 := c_at HS.out 3 rfl 1 rfl
  have c3_2 := c_at HS.out 3 rfl 2 rfl
  have c3_3 := c_at HS.out 3 rfl 3 rfl
  have ltc3 := blk_lt (sl_blk HS.out 3 rfl)
  go_wp2_with (first
    | (go_at_call 16; with_reducible refine (HPl.out (by repeat (with_reducible first | exact HS.out | apply sl_drewN | apply sl_drew | apply sl_box))).mono ?_; rintro e w1 ⟨rfl, hs⟩; (try simp only [World.size_alloc] at hs); replace HS := Aside0.mk hs; clear hs; (try (have c0_0 := c_at HS.out 0 rfl 0 rfl; have c0_1 := c_at HS.out 0 rfl 1 rfl; have c0_2 := c_at HS.out 0 rfl 2 rfl; have c0_3 := c_at HS.out 0 rfl 3 rfl; have c0_4 := c_at HS.out 0 rfl 4 rfl; have c0_5 := c_at HS.out 0 rfl 5 rfl; have c0_6 := c_at HS.out 0 rfl 6 rfl; have c0_7 := c_at HS.out 0 rfl 7 rfl; have c0_8 := c_at HS.out 0 rfl 8 rfl; have c0_9 := c_at HS.out 0 rfl 9 rfl; have c0_10 := c_at HS.out 0 rfl 10 rfl; have ltc0 := blk_lt (sl_blk HS.out 0 rfl); have fzc0_0 := f_at HS.out 0 rfl 0; have fzc0_1 := f_at HS.out 0 rfl 1; have fzc0_2 := f_at HS.out 0 rfl 2; have fzc0_3 := f_at HS.out 0 rfl 3; have fzc0_4 := f_at HS.out 0 rfl 4; have fzc0_5 := f_at HS.out 0 rfl 5; have fzc0_6 := f_at HS.out 0 rfl 6; have fzc0_7 := f_at HS.out 0 rfl 7; have fzc0_8 := f_at HS.out 0 rfl 8; have fzc0_9 := f_at HS.out 0 rfl 9; have fzc0_10 := f_at HS.out 0 rfl 10)); (try (have c1_0 := c_at HS.out 1 rfl 0 rfl; have c1_1 := c_at HS.out 1 rfl 1 rfl; have c1_2 := c_at HS.out 1 rfl 2 rfl; have c1_3 := c_at HS.out 1 rfl 3 rfl; have ltc1 := blk_lt (sl_blk HS.out 1 rfl))); (try (have c2_0 := c_at HS.out 2 rfl 0 rfl; have c2_1 := c_at HS.out 2 rfl 1 rfl; have c2_2 := c_at HS.out 2 rfl 2 rfl; have c2_3 := c_at HS.out 2 rfl 3 rfl; have ltc2 := blk_lt (sl_blk HS.out 2 rfl))); (try (have c3_0 := c_at HS.out 3 rfl 0 rfl; have c3_1 := c_at HS.out 3 rfl 1 rfl; have c3_2 := c_at HS.out 3 rfl 2 rfl; have c3_3 := c_at HS.out 3 rfl 3 rfl; have ltc3 := blk_lt (sl_blk HS.out 3 rfl))); (try (have c4_0 := c_at HS.out 4 rfl 0 rfl; have c4_1 := c_at HS.out 4 rfl 1 rfl; have c4_2 := c_at HS.out 4 rfl 2 rfl; have c4_3 := c_at HS.out 4 rfl 3 rfl; have ltc4 := blk_lt (sl_blk HS.out 4 rfl))))
    | (go_at_call 18; (first | with_reducible refine (HC8.out (by repeat (with_reducible first | exact HS.out | apply sl_drewN | apply sl_drew | apply sl_box))).mono ?_ | with_reducible refine (HC1.out (by repeat (with_reducible first | exact HS.out | apply sl_drewN | apply sl_drew | apply sl_box))).mono ?_ | with_reducible refine (HC16.out (by repeat (with_reducible first | exact HS.out | apply sl_drewN | apply sl_drew | apply sl_box))).mono ?_); rintro e w1 ⟨rfl, hs⟩; (try simp only [World.size_alloc] at hs); replace HS := Aside0.mk hs; clear hs; (try (have c0_0 := c_at HS.out 0 rfl 0 rfl; have c0_1 := c_at HS.out 0 rfl 1 rfl; have c0_2 := c_at HS.out 0 rfl 2 rfl; have c0_3 := c_at HS.out 0 rfl 3 rfl; have c0_4 := c_at HS.out 0 rfl 4 rfl; have c0_5 := c_at HS.out 0 rfl 5 rfl; have c0_6 := c_at HS.out 0 rfl 6 rfl; have c0_7 := c_at HS.out 0 rfl 7 rfl; have c0_8 := c_at HS.out 0 rfl 8 rfl; have c0_9 := c_at HS.out 0 rfl 9 rfl; have c0_10 := c_at HS.out 0 rfl 10 rfl; have ltc0 := blk_lt (sl_blk HS.out 0 rfl); have fzc0_0 := f_at HS.out 0 rfl 0; have fzc0_1 := f_at HS.out 0 rfl 1; have fzc0_2 := f_at HS.out 0 rfl 2; have fzc0_3 := f_at HS.out 0 rfl 3; have fzc0_4 := f_at HS.out 0 rfl 4; have fzc0_5 := f_at HS.out 0 rfl 5; have fzc0_6 := f_at HS.out 0 rfl 6; have fzc0_7 := f_at HS.out 0 rfl 7; have fzc0_8 := f_at HS.out 0 rfl 8; have fzc0_9 := f_at HS.out 0 rfl 9; have fzc0_10 := f_at HS.out 0 rfl 10)); (try (have c1_0 := c_at HS.out 1 rfl 0 rfl; have c1_1 := c_at HS.out 1 rfl 1 rfl; have c1_2 := c_at HS.out 1 rfl 2 rfl; have c1_3 := c_at HS.out 1 rfl 3 rfl; have ltc1 := blk_lt (sl_blk HS.out 1 rfl))); (try (have c2_0 := c_at HS.out 2 rfl 0 rfl; have c2_1 := c_at HS.out 2 rfl 1 rfl; have c2_2 := c_at HS.out 2 rfl 2 rfl; have c2_3 := c_at HS.out 2 rfl 3 rfl; have ltc2 := blk_lt (sl_blk HS.out 2 rfl))); (try (have c3_0 := c_at HS.out 3 rfl 0 rfl; have c3_1 := c_at HS.out 3 rfl 1 rfl; have c3_2 := c_at HS.out 3 rfl 2 rfl; have c3_3 := c_at HS.out 3 rfl 3 rfl; have ltc3 := blk_lt (sl_blk HS.out 3 rfl))); (try (have c4_0 := c_at HS.out 4 rfl 0 rfl; have c4_1 := c_at HS.out 4 rfl 1 rfl; have c4_2 := c_at HS.out 4 rfl 2 rfl; have c4_3 := c_at HS.out 4 rfl 3 rfl; have ltc4 := blk_lt (sl_blk HS.out 4 rfl))))
    | (go_at_call 14; with_reducible refine (HFl.out (by repeat (with_reducible first | exact HS.out | apply sl_drewN | apply sl_drew | apply sl_box))).mono ?_; rintro e w1 ⟨rfl, hs⟩; (try simp only [World.size_alloc] at hs); replace HS := Aside0.mk hs; clear hs; (try (have c0_0 := c_at HS.out 0 rfl 0 rfl; have c0_1 := c_at HS.out 0 rfl 1 rfl; have c0_2 := c_at HS.out 0 rfl 2 rfl; have c0_3 := c_at HS.out 0 rfl 3 rfl; have c0_4 := c_at HS.out 0 rfl 4 rfl; have c0_5 := c_at HS.out 0 rfl 5 rfl; have c0_6 := c_at HS.out 0 rfl 6 rfl; have c0_7 := c_at HS.out 0 rfl 7 rfl; have c0_8 := c_at HS.out 0 rfl 8 rfl; have c0_9 := c_at HS.out 0 rfl 9 rfl; have c0_10 := c_at HS.out 0 rfl 10 rfl; have ltc0 := blk_lt (sl_blk HS.out 0 rfl); have fzc0_0 := f_at HS.out 0 rfl 0; have fzc0_1 := f_at HS.out 0 rfl 1; have fzc0_2 := f_at HS.out 0 rfl 2; have fzc0_3 := f_at HS.out 0 rfl 3; have fzc0_4 := f_at HS.out 0 rfl 4; have fzc0_5 := f_at HS.out 0 rfl 5; have fzc0_6 := f_at HS.out 0 rfl 6; have fzc0_7 := f_at HS.out 0 rfl 7; have fzc0_8 := f_at HS.out 0 rfl 8; have fzc0_9 := f_at HS.out 0 rfl 9; have fzc0_10 := f_at HS.out 0 rfl 10)); (try (have c1_0 := c_at HS.out 1 rfl 0 rfl; have c1_1 := c_at HS.out 1 rfl 1 rfl; have c1_2 := c_at HS.out 1 rfl 2 rfl; have c1_3 := c_at HS.out 1 rfl 3 rfl; have ltc1 := blk_lt (sl_blk HS.out 1 rfl))); (try (have c2_0 := c_at HS.out 2 rfl 0 rfl; have c2_1 := c_at HS.out 2 rfl 1 rfl; have c2_2 := c_at HS.out 2 rfl 2 rfl; have c2_3 := c_at HS.out 2 rfl 3 rfl; have ltc2 := blk_lt (sl_blk HS.out 2 rfl))); (try (have c3_0 := c_at HS.out 3 rfl 0 rfl; have c3_1 := c_at HS.out 3 rfl 1 rfl; have c3_2 := c_at HS.out 3 rfl 2 rfl; have c3_3 := c_at HS.out 3 rfl 3 rfl; have ltc3 := blk_lt (sl_blk HS.out 3 rfl))); (try (have c4_0 := c_at HS.out 4 rfl 0 rfl; have c4_1 := c_at HS.out 4 rfl 1 rfl; have c4_2 := c_at HS.out 4 rfl 2 rfl; have c4_3 := c_at HS.out 4 rfl 3 rfl; have ltc4 := blk_lt (sl_blk HS.out 4 rfl)))))
  go_ret
  exact ⟨rfl, sl_below H.out (sl_below0 (show SL w _ _ from (by repeat (with_reducible first | exact HS.out | apply sl_drewN | apply sl_drew | apply sl_box))))⟩
end
theorem adj_in {len lo hi at_ fl : Int} {flip slide : Bool} (h0 : 1 ≤ len) (h1 : lo < hi) : lo ≤ (adj len lo hi at_ fl flip slide true).1 ∧ (adj len lo hi at_ fl flip slide true).2 ≤ hi ∧ (adj len lo hi at_ fl flip slide true).1 < (adj len lo hi at_ fl flip slide true).2 ∧ (adj len lo hi at_ fl flip slide true).2 - (adj len lo hi at_ fl flip slide true).1 ≤ len := by
  rw [adj_res]
  have hf := fit_iff lo hi len at_
  have hg := fit_iff lo hi len fl
  by_cases f1 : fit lo hi len at_ = true
  · rw [if_pos f1]
    have := hf.1 f1
    simp only
    omega
  rw [if_neg f1]
  by_cases f2 : (flip && fit lo hi len fl) = true
  · rw [if_pos f2]
    have := hg.1 (Bool.and_eq_true_iff.1 f2).2
    simp only
    omega
  rw [if_neg f2]
  generalize (if slide = true then mx (mn at_ (hi - len)) lo else at_) = x
  have hx := fit_iff lo hi len x
  unfold res
  by_cases f3 : fit lo hi len x = true
  · have := hx.1 f3
    simp only [f3, Bool.not_true, Bool.and_false, Bool.false_eq_true, if_false]
    omega
  · have f4 : fit lo hi len x = false := by simpa using f3
    simp only [f4, Bool.not_false, Bool.and_self, if_true, mn_if, mx_if]
    (repeat' split) <;> simp only <;> omega
theorem adj_len {len lo hi at_ fl : Int} {flip slide : Bool} : (adj len lo hi at_ fl flip slide false).2 - (adj len lo hi at_ fl flip slide false).1 = len := by
  rw [adj_res]
  by_cases f1 : fit lo hi len at_ = true
  · rw [if_pos f1]
    simp only
    omega
  rw [if_neg f1]
  by_cases f2 : (flip && fit lo hi len fl) = true
  · rw [if_pos f2]
    simp only
    omega
  rw [if_neg f2, res_no]
  simp only
  omega
theorem adj_fit {len lo hi at_ fl : Int} {flip slide resize : Bool} (h : fit lo hi len at_ = true) : adj len lo hi at_ fl flip slide resize = (at_, at_ + len) := by rw [adj_res, if_pos h]
theorem adj_none {len lo hi at_ fl : Int} : adj len lo hi at_ fl false false false = (at_, at_ + len) := by
  rw [adj_res, res_no]
  by_cases f1 : fit lo hi len at_ = true
  · rw [if_pos f1]
  · rw [if_neg f1]
    rfl
theorem adj_slide {len lo hi at_ fl : Int} (h0 : 1 ≤ len) (h1 : len ≤ hi - lo) (r : Int × Int) (e : adj len lo hi at_ fl false true false = r) : lo ≤ r.1 ∧ r.2 ≤ hi ∧ r.2 = r.1 + len ∧ (r.1 = at_ ∨ (r.1 < at_ ∧ r.2 = hi) ∨ (at_ < r.1 ∧ r.1 = lo)) := by
  rw [adj_res, res_no] at e
  by_cases f1 : fit lo hi len at_ = true
  · rw [if_pos f1] at e
    have := (fit_iff lo hi len at_).1 f1
    subst e
    exact ⟨this.1, this.2, rfl, .inl rfl⟩
  · rw [if_neg f1, Bool.false_and, if_neg (by decide), if_pos rfl] at e
    have f2 : ¬ (lo ≤ at_ ∧ at_ + len ≤ hi) := fun h => f1 ((fit_iff lo hi len at_).2 h)
    subst e
    show lo ≤ mx (mn at_ (hi - len)) lo ∧ mx (mn at_ (hi - len)) lo + len ≤ hi ∧ mx (mn at_ (hi - len)) lo + len = mx (mn at_ (hi - len)) lo + len ∧ (mx (mn at_ (hi - len)) lo = at_ ∨ (mx (mn at_ (hi - len)) lo < at_ ∧ mx (mn at_ (hi - len)) lo + len = hi) ∨ (at_ < mx (mn at_ (hi - len)) lo ∧ mx (mn at_ (hi - len)) lo = lo))
    obtain ⟨m, em⟩ : ∃ m, mn at_ (hi - len) = m := ⟨_, rfl⟩
    have hm : (hi - len < at_ ∧ m = hi - len) ∨ (¬ hi - len < at_ ∧ m = at_) := by
      rw [mn_if] at em
      split at em <;> omega
    rw [em]
    obtain ⟨x, ex⟩ : ∃ x, mx m lo = x := ⟨_, rfl⟩
    have hx : (m < lo ∧ x = lo) ∨ (¬ m < lo ∧ x = m) := by
      rw [mx_if] at ex
      split at ex <;> omega
    rw [ex]
    omega
theorem res_bd {len lo hi x : Int} {r : Bool} (h0 : 1 ≤ len) (h1 : len ≤ 16384) (l0 : -16384 ≤ lo) (l1 : lo < hi) (l2 : hi ≤ 16384) (x0 : -200000 ≤ x) (x1 : x ≤ 200000) : -400000 ≤ (res len lo hi x r).1 ∧ (res len lo hi x r).1 ≤ 400000 ∧ -400000 ≤ (res len lo hi x r).2 ∧ (res len lo hi x r).2 ≤ 400000 := by
  unfold res
  simp only [mn_if, mx_if]
  (repeat' split) <;> simp only <;> omega
theorem adj_bd {len lo hi at_ fl : Int} {flip slide resize : Bool} (h0 : 1 ≤ len) (h1 : len ≤ 16384) (l0 : -16384 ≤ lo) (l1 : lo < hi) (l2 : hi ≤ 16384) (x0 : -100000 ≤ at_) (x1 : at_ ≤ 100000) (y0 : -100000 ≤ fl) (y1 : fl ≤ 100000) (r : Int × Int) (e : adj len lo hi at_ fl flip slide resize = r) :
    -400000 ≤ r.1 ∧ r.1 ≤ 400000 ∧ -400000 ≤ r.2 ∧ r.2 ≤ 400000 := by
  rw [adj_res] at e
  by_cases f1 : fit lo hi len at_ = true
  · rw [if_pos f1] at e
    subst e
    simp only
    omega
  rw [if_neg f1] at e
  by_cases f2 : (flip && fit lo hi len fl) = true
  · rw [if_pos f2] at e
    subst e
    simp only
    omega
  rw [if_neg f2] at e
  subst e
  refine res_bd h0 h1 l0 l1 l2 ?_ ?_
  · split
    · simp only [mn_if, mx_if]
      (repeat' split) <;> omega
    · omega
  · split
    · simp only [mn_if, mx_if]
      (repeat' split) <;> omega
    · omega
theorem pla_ok {p : Pos} {a0 a1 a2 a3 e : Int} (h : plaV p = (a0, a1, a2, a3, e)) : chk p = e ∧ (e = 0 → a0 = plX p ∧ a1 = plY p ∧ a2 = plX p + p.w ∧ a3 = plY p + p.h) := by
  unfold plaV at h
  by_cases hc : chk p = 0
  · rw [if_pos hc] at h
    simp only [Prod.mk.injEq] at h
    exact ⟨by omega, fun _ => by omega⟩
  · rw [if_neg hc] at h
    simp only [Prod.mk.injEq] at h
    exact ⟨by omega, fun _ => by omega⟩
theorem con_ok {p : Pos} {b0 b1 b2 b3 c0 c1 c2 c3 : Int} (h : conV p b0 b1 b2 b3 = (c0, c1, c2, c3, 0)) : chk p = 0 ∧ okr b0 b1 b2 b3 ∧ conX p b0 b2 = (c0, c2) ∧ conY p b1 b3 = (c1, c3) := by
  unfold conV at h
  by_cases hc : chk p = 0
  · rw [if_pos hc] at h
    by_cases hb : okrB b0 b1 b2 b3 = true
    · rw [if_pos hb] at h
      simp only [Prod.mk.injEq] at h
      exact ⟨hc, of_decide_eq_true hb, Prod.ext h.1 h.2.2.1, Prod.ext h.2.1 h.2.2.2.1⟩
    · rw [if_neg hb] at h
      simp only [Prod.mk.injEq] at h
      omega
  · rw [if_neg hc] at h
    simp only [Prod.mk.injEq] at h
    omega
theorem con_bd {p : Pos} {b0 b1 b2 b3 c0 c1 c2 c3 : Int} (h : conV p b0 b1 b2 b3 = (c0, c1, c2, c3, 0)) : (-400000 ≤ c0 ∧ c0 ≤ 400000) ∧ (-400000 ≤ c1 ∧ c1 ≤ 400000) ∧ (-400000 ≤ c2 ∧ c2 ≤ 400000) ∧ (-400000 ≤ c3 ∧ c3 ≤ 400000) := by
  obtain ⟨hc, hb, hX, hY⟩ := con_ok h
  obtain ⟨hw, hh, hr, hox, hoy, hae, hgr, had⟩ := chk_ok hc
  unfold okr at hr hb
  have B := sx_lt p hc
  have F1 := plc_lt p.x0 p.x1 p.w (-sideV p.ae true) (-sideV p.gr true) (-p.ox) (by omega) (by omega) (by omega) (by omega) (by omega) (by omega) (by omega) (by omega)
  have F2 := plc_lt p.y0 p.y1 p.h (-sideV p.ae false) (-sideV p.gr false) (-p.oy) (by omega) (by omega) (by omega) (by omega) (by omega) (by omega) (by omega) (by omega)
  have k1 := adj_bd hw.1 hw.2 (by omega) (by omega) (by omega) B.1.1 B.1.2 F1.1 F1.2 _ hX
  have k2 := adj_bd hh.1 hh.2 (by omega) (by omega) (by omega) B.2.1 B.2.2 F2.1 F2.2 _ hY
  simp only at k1 k2
  omega
theorem flip_in (n : Nat) (hn : n < 9) (hz : Bool) : flipV (flipV n hz) hz = n ∧ flipV (flipV n hz) (!hz) = flipV (flipV n (!hz)) hz := by
  have key : ∀ n < 9, ∀ hz : Bool, flipV (flipV ((n : Nat) : Int) hz) hz = n ∧ flipV (flipV (n : Int) hz) (!hz) = flipV (flipV (n : Int) (!hz)) hz := by decide +kernel
  exact key n hn hz
theorem flip_law (e : Int) (hz : Bool) : flipV (flipV e hz) hz = e ∧ flipV (flipV e hz) (!hz) = flipV (flipV e (!hz)) hz := by
  by_cases h : 0 ≤ e ∧ e ≤ 8
  · obtain ⟨n, hn, rfl⟩ := nat_of h.1 h.2
    exact flip_in n hn hz
  · have k : ∀ z, flipV e z = e := fun z => if_neg h
    rw [k, k, k, k]
    exact ⟨rfl, rfl⟩
def setAd (p : Pos) (a : Int) : Pos := ⟨p.w, p.h, p.x0, p.y0, p.x1, p.y1, p.ae, p.gr, a, p.ox, p.oy⟩
/-- The law PopupFits in numbers. -/
theorem fits_law {p : Pos} {b0 b1 b2 b3 c0 c1 c2 c3 a : Int} (ha : 48 ≤ a ∧ a ≤ 63) (h : conV (setAd p a) b0 b1 b2 b3 = (c0, c1, c2, c3, 0)) : withinB c0 c1 c2 c3 b0 b1 b2 b3 = true ∧ c0 < c2 ∧ c1 < c3 ∧ wrap64 (c2 - c0) = c2 - c0 ∧ wrap64 (c3 - c1) = c3 - c1 ∧ c2 - c0 ≤ p.w ∧ c3 - c1 ≤ p.h := by
  obtain ⟨hc, hb, hX, hY⟩ := con_ok h
  obtain ⟨hw, hh, hr, hox, hoy, hae, hgr, had⟩ := chk_ok hc
  have bd := con_bd h
  have b16 : bt_ (setAd p a).ad 16 = true := decide_eq_true (by show a / 16 % 2 = 1; omega)
  have b32 : bt_ (setAd p a).ad 32 = true := decide_eq_true (by show a / 32 % 2 = 1; omega)
  unfold okr at hb
  unfold conX at hX
  unfold conY at hY
  rw [b16] at hX
  rw [b32] at hY
  have k1 := adj_in (len := (setAd p a).w) (lo := b0) (hi := b2) (at_ := plX (setAd p a)) (fl := flX (setAd p a)) (flip := bt_ (setAd p a).ad 4) (slide := bt_ (setAd p a).ad 1) hw.1 (by omega)
  have k2 := adj_in (len := (setAd p a).h) (lo := b1) (hi := b3) (at_ := plY (setAd p a)) (fl := flY (setAd p a)) (flip := bt_ (setAd p a).ad 8) (slide := bt_ (setAd p a).ad 2) hh.1 (by omega)
  rw [hX] at k1
  rw [hY] at k2
  simp only at k1 k2
  have e1 : (setAd p a).w = p.w := rfl
  have e2 : (setAd p a).h = p.h := rfl
  rw [e1] at k1
  rw [e2] at k2
  refine ⟨decide_eq_true (by omega), by omega, by omega, w64 (by omega) (by omega), w64 (by omega) (by omega), by omega, by omega⟩
/-- The law PopupSize in numbers. -/
theorem size_law {p : Pos} {b0 b1 b2 b3 c0 c1 c2 c3 : Int} (h : conV p b0 b1 b2 b3 = (c0, c1, c2, c3, 0)) : (0 ≤ p.ad ∧ p.ad ≤ 63) ∧ wrap64 (c2 - c0) = c2 - c0 ∧ wrap64 (c3 - c1) = c3 - c1 ∧ (p.ad / 16 % 2 = 0 → c2 - c0 = p.w) ∧ (p.ad / 32 = 0 → c3 - c1 = p.h) := by
  obtain ⟨hc, hb, hX, hY⟩ := con_ok h
  obtain ⟨hw, hh, hr, hox, hoy, hae, hgr, had⟩ := chk_ok hc
  have bd := con_bd h
  refine ⟨had, w64 (by omega) (by omega), w64 (by omega) (by omega), fun h16 => ?_, fun h32 => ?_⟩
  · have b16 : bt_ p.ad 16 = false := decide_eq_false (by omega)
    unfold conX at hX
    rw [b16] at hX
    have := adj_len (len := p.w) (lo := b0) (hi := b2) (at_ := plX p) (fl := flX p) (flip := bt_ p.ad 4) (slide := bt_ p.ad 1)
    rw [hX] at this
    exact this
  · have b32 : bt_ p.ad 32 = false := decide_eq_false (by omega)
    unfold conY at hY
    rw [b32] at hY
    have := adj_len (len := p.h) (lo := b1) (hi := b3) (at_ := plY p) (fl := flY p) (flip := bt_ p.ad 8) (slide := bt_ p.ad 2)
    rw [hY] at this
    exact this
/-- The law PopupUnchanged in numbers. -/
theorem same_law {p : Pos} {b0 b1 b2 b3 a0 a1 a2 a3 c0 c1 c2 c3 d0 d1 d2 d3 : Int} (ha : plaV p = (a0, a1, a2, a3, 0)) (hc : conV p b0 b1 b2 b3 = (c0, c1, c2, c3, 0)) (hd : conV (setAd p 0) b0 b1 b2 b3 = (d0, d1, d2, d3, 0)) :
    (d0 = a0 ∧ d1 = a1 ∧ d2 = a2 ∧ d3 = a3) ∧ (withinB a0 a1 a2 a3 b0 b1 b2 b3 = true → c0 = a0 ∧ c1 = a1 ∧ c2 = a2 ∧ c3 = a3) := by
  obtain ⟨_, k⟩ := pla_ok ha
  obtain ⟨e0, e1, e2, e3⟩ := k rfl
  obtain ⟨_, _, hX, hY⟩ := con_ok hc
  obtain ⟨_, _, gX, gY⟩ := con_ok hd
  have g1 : conX (setAd p 0) b0 b2 = (plX p, plX p + p.w) := adj_none
  have g2 : conY (setAd p 0) b1 b3 = (plY p, plY p + p.h) := adj_none
  rw [gX] at g1
  rw [gY] at g2
  simp only [Prod.mk.injEq] at g1 g2
  refine ⟨by omega, fun hw => ?_⟩
  have hw2 := of_decide_eq_true hw
  have f1 : fit b0 b2 p.w (plX p) = true := (fit_iff _ _ _ _).2 (by omega)
  have f2 : fit b1 b3 p.h (plY p) = true := (fit_iff _ _ _ _).2 (by omega)
  have h1 : conX p b0 b2 = (plX p, plX p + p.w) := adj_fit f1
  have h2 : conY p b1 b3 = (plY p, plY p + p.h) := adj_fit f2
  rw [hX] at h1
  rw [hY] at h2
  simp only [Prod.mk.injEq] at h1 h2
  omega
/-- The law PopupSlide in numbers. -/
theorem slide_law {p : Pos} {b0 b1 b2 b3 a0 a1 a2 a3 c0 c1 c2 c3 : Int} (ha : plaV (setAd p 3) = (a0, a1, a2, a3, 0)) (hc : conV (setAd p 3) b0 b1 b2 b3 = (c0, c1, c2, c3, 0)) (h1 : p.w ≤ b2 - b0) (h2 : p.h ≤ b3 - b1) :
    withinB c0 c1 c2 c3 b0 b1 b2 b3 = true ∧ (c0 = a0 ∨ (c0 < a0 ∧ c2 = b2) ∨ (a0 < c0 ∧ c0 = b0)) ∧ (c1 = a1 ∨ (c1 < a1 ∧ c3 = b3) ∨ (a1 < c1 ∧ c1 = b1)) := by
  obtain ⟨_, k⟩ := pla_ok ha
  obtain ⟨e0, e1, e2, e3⟩ := k rfl
  obtain ⟨hk, hb, hX, hY⟩ := con_ok hc
  obtain ⟨hw, hh, _⟩ := chk_ok hk
  have k1 := adj_slide (len := (setAd p 3).w) (at_ := plX (setAd p 3)) (fl := flX (setAd p 3)) hw.1 h1 _ hX
  have k2 := adj_slide (len := (setAd p 3).h) (at_ := plY (setAd p 3)) (fl := flY (setAd p 3)) hh.1 h2 _ hY
  simp only at k1 k2
  rw [← e0] at k1
  rw [← e1] at k2
  exact ⟨decide_eq_true (by omega), by omega, by omega⟩
theorem con_okr {p : Pos} {b0 b1 b2 b3 c0 c1 c2 c3 : Int} (h : conV p b0 b1 b2 b3 = (c0, c1, c2, c3, 0)) : wrap64 (b2 - b0) = b2 - b0 ∧ wrap64 (b3 - b1) = b3 - b1 := by
  obtain ⟨_, hb, _⟩ := con_ok h
  unfold okr at hb
  exact ⟨w64 (by omega) (by omega), w64 (by omega) (by omega)⟩
end Go.Proofs.YtinchgipfaefbaaDoor.Q
