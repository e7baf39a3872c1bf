import Derived.Test.YtinchgipfaefbaaDoorV7
namespace Go.Proofs.YtinchgipfaefbaaDoor.Q
open Go.RowKit Go.Proofs.YtinchgipfaefbaaDoorW.PrintWords Go.Proofs.YtinchgipfaefbaaDoorW.PrintLast Go.Proofs.YtinchgipfaefbaaDoorW.PrintMore Go.Proofs.YtinchgipfaefbaaDoor.Sl Go.Proofs.YtinchgipfaefbaaDoor.Hand 
attribute [local go_sem] max2_int min2_int max_two min_two max_three min_three max_four min_four 
set_option linter.unusedVariables false
set_option linter.unusedSimpArgs false

section
attribute [local go_sem high] eqA23
set_option maxHeartbeats 8000000 in
set_option maxRecDepth 100000 in
theorem Flip_law (w : World) (hT : Tab w) (n : Int) (hz : Bool) : Calls Tryd.prog 4 #[.int .i64 n, .bool hz] w fun e w' => e = .returned (.bool true) ∧ Below w.heap.size w w' := by
  have HT := Aside0.mk hT
  have HS := Aside0.mk (sl_start w)
  have hl := flip_law n hz
  clear hT
  cases hz
  · simp only [Bool.not_false] at hl
    obtain ⟨m, em⟩ : ∃ m, flipV n false = m := ⟨_, rfl⟩
    obtain ⟨k, ek⟩ : ∃ k, flipV n true = k := ⟨_, rfl⟩
    obtain ⟨j, ej⟩ : ∃ j, flipV m true = j := ⟨_, rfl⟩
    rw [em] at hl
    obtain ⟨h1, h2⟩ := hl
    rw [ej, ek] at h2
    have h3 := h2.symm
    clear h2
    have H1 := Aside0.mk (show ∀ {w' : World} {M : List Res}, SL w w' M → Calls Tryd.prog 14 #[.int .i64 n, .bool false] w' fun e w'' => e = .returned (.int .i64 m) ∧ SL w w'' M from fun hs => by
      have := Flip_c HT.out hs n false; rw [em] at this
      exact this)
    have H1R := Aside0.mk (show ∀ {w' : World} {M : List Res}, SL w w' M → Calls Tryd.prog 15 #[.int .i64 n, .bool false] w' fun e w'' => e = .returned (.int .i64 m) ∧ SL w w'' M from fun hs => by
      have := FlipR_c hs n false; rw [em] at this
      exact this)
    have H2 := Aside0.mk (show ∀ {w' : World} {M : List Res}, SL w w' M → Calls Tryd.prog 14 #[.int .i64 m, .bool false] w' fun e w'' => e = .returned (.int .i64 n) ∧ SL w w'' M from fun hs => by
      have := Flip_c HT.out hs m false; rw [h1] at this
      exact this)
    have H3 := Aside0.mk (show ∀ {w' : World} {M : List Res}, SL w w' M → Calls Tryd.prog 14 #[.int .i64 m, .bool true] w' fun e w'' => e = .returned (.int .i64 j) ∧ SL w w'' M from fun hs => by
      have := Flip_c HT.out hs m true; rw [ej] at this
      exact this)
    have H4 := Aside0.mk (show ∀ {w' : World} {M : List Res}, SL w w' M → Calls Tryd.prog 14 #[.int .i64 n, .bool true] w' fun e w'' => e = .returned (.int .i64 k) ∧ SL w w'' M from fun hs => by
      have := Flip_c HT.out hs n true; rw [ek] at this
      exact this)
    have H5 := Aside0.mk (show ∀ {w' : World} {M : List Res}, SL w w' M → Calls Tryd.prog 14 #[.int .i64 k, .bool false] w' fun e w'' => e = .returned (.int .i64 j) ∧ SL w w'' M from fun hs => by
      have := Flip_c HT.out hs k false; rw [h3] at this
      exact this)
    clear em ek ej h1 h3
    go_enter Tryd.func4, Tryd.ntmps4
    go_wp2_with (first
      | (go_at_call 14; (first | with_reducible refine (H1.out (by repeat (with_reducible first | exact HS.out | apply sl_drewN | apply sl_drew | apply sl_box))).mono ?_ | with_reducible refine (H2.out (by repeat (with_reducible first | exact HS.out | apply sl_drewN | apply sl_drew | apply sl_box))).mono ?_ | with_reducible refine (H3.out (by repeat (with_reducible first | exact HS.out | apply sl_drewN | apply sl_drew | apply sl_box))).mono ?_ | with_reducible refine (H4.out (by repeat (with_reducible first | exact HS.out | apply sl_drewN | apply sl_drew | apply sl_box))).mono ?_ | with_reducible refine (H5.out (by repeat (with_reducible first | exact HS.out | apply sl_drewN | apply sl_drew | apply sl_box))).mono ?_); rintro e w1 ⟨rfl, hs⟩; replace HS := Aside0.mk hs; clear hs)
      | (go_at_call 15; with_reducible refine (H1R.out (by repeat (with_reducible first | exact HS.out | apply sl_drewN | apply sl_drew | apply sl_box))).mono ?_; rintro e w1 ⟨rfl, hs⟩; replace HS := Aside0.mk hs; clear hs)
      | (go_at_call 13; refine (ex_c HT.out (by repeat (with_reducible first | exact HS.out | apply sl_drewN | apply sl_drew | apply sl_box))).mono ?_; rintro e w1 ⟨rfl, hs⟩; replace HS := Aside0.mk hs; clear hs))
    go_ret
    exact ⟨rfl, sl_below0 (show SL w _ _ from (by repeat (with_reducible first | exact HS.out | apply sl_drewN | apply sl_drew | apply sl_box)))⟩
  · simp only [Bool.not_true] at hl
    obtain ⟨m, em⟩ : ∃ m, flipV n true = m := ⟨_, rfl⟩
    obtain ⟨k, ek⟩ : ∃ k, flipV n false = k := ⟨_, rfl⟩
    obtain ⟨j, ej⟩ : ∃ j, flipV m false = j := ⟨_, rfl⟩
    rw [em] at hl
    obtain ⟨h1, h2⟩ := hl
    rw [ej, ek] at h2
    have h3 := h2.symm
    clear h2
    have H1 := Aside0.mk (show ∀ {w' : World} {M : List Res}, SL w w' M → Calls Tryd.prog 14 #[.int .i64 n, .bool true] w' fun e w'' => e = .returned (.int .i64 m) ∧ SL w w'' M from fun hs => by
      have := Flip_c HT.out hs n true; rw [em] at this
      exact this)
    have H1R := Aside0.mk (show ∀ {w' : World} {M : List Res}, SL w w' M → Calls Tryd.prog 15 #[.int .i64 n, .bool true] w' fun e w'' => e = .returned (.int .i64 m) ∧ SL w w'' M from fun hs => by
      have := FlipR_c hs n true; rw [em] at this
      exact this)
    have H2 := Aside0.mk (show ∀ {w' : World} {M : List Res}, SL w w' M → Calls Tryd.prog 14 #[.int .i64 m, .bool true] w' fun e w'' => e = .returned (.int .i64 n) ∧ SL w w'' M from fun hs => by
      have := Flip_c HT.out hs m true; rw [h1] at this
      exact this)
    have H3 := Aside0.mk (show ∀ {w' : World} {M : List Res}, SL w w' M → Calls Tryd.prog 14 #[.int .i64 m, .bool false] w' fun e w'' => e = .returned (.int .i64 j) ∧ SL w w'' M from fun hs => by
      have := Flip_c HT.out hs m false; rw [ej] at this
      exact this)
    have H4 := Aside0.mk (show ∀ {w' : World} {M : List Res}, SL w w' M → Calls Tryd.prog 14 #[.int .i64 n, .bool false] w' fun e w'' => e = .returned (.int .i64 k) ∧ SL w w'' M from fun hs => by
      have := Flip_c HT.out hs n false; rw [ek] at this
      exact this)
    have H5 := Aside0.mk (show ∀ {w' : World} {M : List Res}, SL w w' M → Calls Tryd.prog 14 #[.int .i64 k, .bool true] w' fun e w'' => e = .returned (.int .i64 j) ∧ SL w w'' M from fun hs => by
      have := Flip_c HT.out hs k true; rw [h3] at this
      exact this)
    clear em ek ej h1 h3
    go_enter Tryd.func4, Tryd.ntmps4
    go_wp2_with (first
      | (go_at_call 14; (first | with_reducible refine (H1.out (by repeat (with_reducible first | exact HS.out | apply sl_drewN | apply sl_drew | apply sl_box))).mono ?_ | with_reducible refine (H2.out (by repeat (with_reducible first | exact HS.out | apply sl_drewN | apply sl_drew | apply sl_box))).mono ?_ | with_reducible refine (H3.out (by repeat (with_reducible first | exact HS.out | apply sl_drewN | apply sl_drew | apply sl_box))).mono ?_ | with_reducible refine (H4.out (by repeat (with_reducible first | exact HS.out | apply sl_drewN | apply sl_drew | apply sl_box))).mono ?_ | with_reducible refine (H5.out (by repeat (with_reducible first | exact HS.out | apply sl_drewN | apply sl_drew | apply sl_box))).mono ?_); rintro e w1 ⟨rfl, hs⟩; replace HS := Aside0.mk hs; clear hs)
      | (go_at_call 15; with_reducible refine (H1R.out (by repeat (with_reducible first | exact HS.out | apply sl_drewN | apply sl_drew | apply sl_box))).mono ?_; rintro e w1 ⟨rfl, hs⟩; replace HS := Aside0.mk hs; clear hs)
      | (go_at_call 13; refine (ex_c HT.out (by repeat (with_reducible first | exact HS.out | apply sl_drewN | apply sl_drew | apply sl_box))).mono ?_; rintro e w1 ⟨rfl, hs⟩; replace HS := Aside0.mk hs; clear hs))
    go_ret
    exact ⟨rfl, sl_below0 (show SL w _ _ from (by repeat (with_reducible first | exact HS.out | apply sl_drewN | apply sl_drew | apply sl_box)))⟩
end
end Go.Proofs.YtinchgipfaefbaaDoor.Q
