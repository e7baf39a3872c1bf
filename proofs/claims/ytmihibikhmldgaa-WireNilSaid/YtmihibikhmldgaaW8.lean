import Derived.Test.YtmihibikhmldgaaW7
namespace Go.Proofs.Ytmihibikhmldgaa.Q
open Go.RowKit Go.Proofs.YtmihibikhmldgaaW.PrintWords Go.Proofs.YtmihibikhmldgaaW.PrintLast Go.Proofs.YtmihibikhmldgaaW.PrintMore Go.Proofs.Ytmihibikhmldgaa.Sl Go.Proofs.Ytmihibikhmldgaa.Hand 
attribute [local go_sem] max2_int min2_int max_two min_two max_three min_three max_four min_four 
set_option linter.unusedVariables false
set_option linter.unusedSimpArgs false

/-! ### What is no reader -/
def zrd : Array Value := #[.slice none 0 0, .int .i64 0, .bool false]
theorem zero_ready (g : Nat) (w : World) (hb : w.heap[g]? = some (.cells #[.slice none 0 0, .int .i64 0, .bool false] 68 (0, 0))) : Calls Try.prog 50 #[.pointer (some ⟨g, 0, none⟩)] w fun e w' => e = .returned (.bool false) ∧ Drawn0 w w' := by
  have m2 := (blk_cell hb 2).trans (show _ = some (Value.bool false) from rfl)
  clear hb
  go_enter Try.func50, Try.ntmps50
  go_wp2
  go_ret
  exact ⟨rfl, by repeat (first | exact Drawn0.refl _ | apply Drawn0.step)⟩
theorem no_usable (w : World) : Calls Try.prog 44 #[.pointer none] w fun e w' => e = .returned (.bool false) ∧ Drawn0 w w' := by
  go_enter Try.func44, Try.ntmps44
  go_wp2
  go_ret
  exact ⟨rfl, by repeat (first | exact Drawn0.refl _ | apply Drawn0.step)⟩
theorem zero_usable (g : Nat) (w : World) (hb : w.heap[g]? = some (.cells #[.slice none 0 0, .int .i64 0, .bool false] 68 (0, 0))) : Calls Try.prog 44 #[.pointer (some ⟨g, 0, none⟩)] w fun e w' => e = .returned (.bool false) ∧ Drawn0 w w' := by
  have HB := Aside0.mk hb
  clear hb
  go_enter Try.func44, Try.ntmps44
  go_wp2_with (first | (go_at_call 50; refine (zero_ready g _ HB.out).mono ?_; rintro e w1 ⟨rfl, ⟨nd, rfl⟩⟩))
  go_ret
  exact ⟨rfl, ⟨nd, rfl⟩⟩
/-- nil, or a reader that From did not make. -/
def NoRd (v : Value) (w : World) : Prop := v = .pointer none ∨ ∃ g, v = .pointer (some ⟨g, 0, none⟩) ∧ w.heap[g]? = some (.cells #[.slice none 0 0, .int .i64 0, .bool false] 68 (0, 0))
theorem nr_usable (v : Value) (w : World) (h : NoRd v w) : Calls Try.prog 44 #[v] w fun e w' => e = .returned (.bool false) ∧ Drawn0 w w' := by
  rcases h with rfl | ⟨g, rfl, hb⟩
  · exact no_usable w
  · exact zero_usable g w hb
theorem nr_Uint (v : Value) (w : World) (h : NoRd v w) : Calls Try.prog 20 #[v] w fun e w' => e = .returned (.int .u32 0) ∧ Drawn0 w w' := by
  have H := Aside0.mk h
  clear h
  go_enter Try.func20, Try.ntmps20
  go_wp2_with (first | (go_at_call 44; refine (nr_usable v _ H.out).mono ?_; rintro e w1 ⟨rfl, ⟨nd, rfl⟩⟩))
  try rw [Exit.noGoto_ret]
  go_ret
  exact ⟨rfl, ⟨nd, rfl⟩⟩
theorem nr_Left (v : Value) (w : World) (h : NoRd v w) : Calls Try.prog 27 #[v] w fun e w' => e = .returned (.int .i64 0) ∧ Drawn0 w w' := by
  have H := Aside0.mk h
  clear h
  go_enter Try.func27, Try.ntmps27
  go_wp2_with (first | (go_at_call 44; refine (nr_usable v _ H.out).mono ?_; rintro e w1 ⟨rfl, ⟨nd, rfl⟩⟩))
  try rw [Exit.noGoto_ret]
  go_ret
  exact ⟨rfl, ⟨nd, rfl⟩⟩
theorem nr_drawn {v : Value} {w : World} (h : NoRd v w) (n : Nat) : NoRd v (w.drewN n) := by
  rcases h with rfl | ⟨g, rfl, hb⟩
  · exact .inl rfl
  · exact .inr ⟨g, rfl, blk_drewN hb n⟩
theorem nr_Err (v : Value) (w : World) (h : NoRd v w) : Calls Try.prog 29 #[v] w fun e w' => e = .returned (.int .i64 1) ∧ w = w' := by
  rcases h with rfl | ⟨g, rfl, hb⟩
  · go_enter Try.func29, Try.ntmps29
    go_wp2
    try rw [Exit.noGoto_ret]
    go_ret
    exact ⟨rfl, rfl⟩
  · have m2 := (blk_cell hb 2).trans (show _ = some (Value.bool false) from rfl)
    clear hb
    go_enter Try.func29, Try.ntmps29
    go_wp2
    try rw [Exit.noGoto_ret]
    go_ret
    exact ⟨rfl, rfl⟩
theorem nr_End (v : Value) (w : World) (h : NoRd v w) : Calls Try.prog 31 #[v] w fun e w' => e = .returned (.int .i64 1) ∧ w = w' := by
  have H := Aside0.mk h
  clear h
  go_enter Try.func31, Try.ntmps31
  go_wp2_with (first | (go_at_call 29; refine (nr_Err v _ H.out).mono ?_; rintro e w1 ⟨rfl, rfl⟩))
  try rw [Exit.noGoto_ret]
  go_ret
  exact ⟨rfl, rfl⟩
theorem nr_Int (v : Value) (w : World) (h : NoRd v w) : Calls Try.prog 22 #[v] w fun e w' => e = .returned (.int .i32 0) ∧ Drawn0 w w' := by
  have H := Aside0.mk h
  clear h
  go_enter Try.func22, Try.ntmps22
  go_wp2_with (first | (go_at_call 20; refine (nr_Uint v _ H.out).mono ?_; rintro e w1 ⟨rfl, ⟨nd, rfl⟩⟩))
  go_ret
  exact ⟨rfl, ⟨nd, rfl⟩⟩
theorem nr_Array (v : Value) (m : Int) (w : World) (h : NoRd v w) : Calls Try.prog 26 #[v, .int .i64 m] w fun e w' => e = .returned (.slice none 0 0) ∧ Drawn0 w w' := by
  have H := Aside0.mk h
  clear h
  go_enter Try.func26, Try.ntmps26
  go_wp2_with (first
    | (go_at_call 20; refine (nr_Uint v _ H.out).mono ?_; rintro e w1 ⟨rfl, ⟨nd, rfl⟩⟩; have H2 := Aside0.mk (nr_drawn H.out nd))
    | (go_at_call 44; refine (nr_usable v _ H2.out).mono ?_; rintro e w1 ⟨rfl, ⟨nd2, rfl⟩⟩))
  try rw [Exit.noGoto_ret]
  go_ret
  exact ⟨rfl, by first | exact ⟨_, by rw [World.drewN_drewN]⟩ | exact ⟨_, rfl⟩⟩
end Go.Proofs.Ytmihibikhmldgaa.Q
