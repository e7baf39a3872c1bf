import Derived.Test.YtlfediaeaaodpaaQu7
namespace Go.Proofs.Ytlfediaeaaodpaa.Q
open Go.RowKit Go.Proofs.YtlfediaeaaodpaaW.PrintWords Go.Proofs.YtlfediaeaaodpaaW.PrintLast Go.Proofs.YtlfediaeaaodpaaW.PrintMore Go.Proofs.Ytlfediaeaaodpaa.Sl Go.Proofs.Ytlfediaeaaodpaa.Hand 
attribute [local go_sem] max2_int min2_int max_two min_two max_three min_three max_four min_four 
set_option linter.unusedVariables false
set_option linter.unusedSimpArgs false

theorem ret_b {a b : Bool} (h : a = b) : Ending.returned (.bool a) = .returned (.bool b) := by rw [h]
set_option maxHeartbeats 4000000 in
set_option maxRecDepth 100000 in
theorem Nil_calls (k n r b : Int) (w : World) :
    Calls Try.prog 10 #[.int .i64 k, .int .i64 n, .agg #[.int .i64 r, .int .i64 b]] w fun e w' => e = .returned (.bool true) ∧ Below w.heap.size w w' := by
  have HS := Aside0.mk (sl_start w)
  by_cases hc : NewOk r b
  · have newok := hc
    obtain ⟨h1, h2, h3, h4⟩ := hc
    go_enter Try.func10, Try.ntmps10
    go_upto_region 1 with (fail)
    go_quiet (fail)
    go_wp2_with (first
    | (go_at_call 26; refine (no_Use _ _ _).mono ?_; rintro e w1 ⟨rfl, rfl⟩)
    | (go_at_call 25; refine (no_Rel _ _ _).mono ?_; rintro e w1 ⟨rfl, rfl⟩)
    | (go_at_call 23; refine (no_Used _ _).mono ?_; rintro e w1 ⟨rfl, rfl⟩)
    | (go_at_call 17; refine (no_Take _ _ _).mono ?_; rintro e w1 ⟨rfl, rfl⟩)
    | (go_at_call 15; refine (no_Level _ _).mono ?_; rintro e w1 ⟨rfl, rfl⟩)
    | (go_at_call 12; refine (New_sl _ _ (by repeat (with_reducible first | exact HS.out | apply sl_drewN | apply sl_drew | apply sl_alloc)) newok).mono ?_; rintro e w1 ⟨gb, rfl, hs⟩; (try simp only [World.size_alloc] at hs); replace HS := Aside0.mk hs; clear hs)
    | (go_at_call 11; refine (ex_calls w _ _ (by repeat (with_reducible first | exact HS.out | apply sl_drewN | apply sl_drew | apply sl_alloc))).mono ?_; rintro e w1 ⟨rfl, hs⟩; (try simp only [World.size_alloc] at hs); replace HS := Aside0.mk hs; clear hs))
    go_ret
    exact ⟨rfl, sl_below0 HS.out⟩
  · have newok := hc
    unfold NewOk at hc
    rcases (show r < 0 ∨ (0 ≤ r ∧ 1048576 < r) ∨ (0 ≤ r ∧ r ≤ 1048576 ∧ b < 1) ∨ (0 ≤ r ∧ r ≤ 1048576 ∧ 1 ≤ b ∧ 1048576 < b) by omega) with d | ⟨d1, d⟩ | ⟨d1, d2, d⟩ | ⟨d1, d2, d3, d⟩
    all_goals
      clear hc
      go_enter Try.func10, Try.ntmps10
      go_upto_region 1 with (fail)
      go_quiet (fail)
      go_wp2_with (first
        | (go_at_call 26; refine (no_Use _ _ _).mono ?_; rintro e w1 ⟨rfl, rfl⟩)
        | (go_at_call 25; refine (no_Rel _ _ _).mono ?_; rintro e w1 ⟨rfl, rfl⟩)
        | (go_at_call 23; refine (no_Used _ _).mono ?_; rintro e w1 ⟨rfl, rfl⟩)
        | (go_at_call 17; refine (no_Take _ _ _).mono ?_; rintro e w1 ⟨rfl, rfl⟩)
        | (go_at_call 15; refine (no_Level _ _).mono ?_; rintro e w1 ⟨rfl, rfl⟩)
        | (go_at_call 12; refine (New_no _ _ newok).mono ?_; rintro e w1 ⟨rfl, rfl⟩)
        | (go_at_call 11; refine (ex_calls w _ _ (by repeat (with_reducible first | exact HS.out | apply sl_drewN | apply sl_drew | apply sl_alloc))).mono ?_; rintro e w1 ⟨rfl, hs⟩; (try simp only [World.size_alloc] at hs); replace HS := Aside0.mk hs; clear hs))
      all_goals
        go_ret
        first
          | exact ⟨rfl, sl_below0 HS.out⟩
          | (refine ⟨ret_b ?_, sl_below0 HS.out⟩
             simp
             omega)
end Go.Proofs.Ytlfediaeaaodpaa.Q
