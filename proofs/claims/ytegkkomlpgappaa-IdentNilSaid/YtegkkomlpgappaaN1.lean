import Derived.Test.YtegkkomlpgappaaD1
namespace Go.Proofs.Ytegkkomlpgappaa.Q
open Go.RowKit Go.Proofs.YtegkkomlpgappaaW.PrintWords Go.Proofs.YtegkkomlpgappaaW.PrintLast Go.Proofs.YtegkkomlpgappaaW.PrintMore Go.Proofs.Ytegkkomlpgappaa.Sl Go.Proofs.Ytegkkomlpgappaa.Hand 
attribute [local go_sem] max2_int min2_int max_two min_two max_three min_three max_four min_four 
set_option linter.unusedVariables false
set_option linter.unusedSimpArgs false

/-! ### A nil table, and one that New did not make -/
def NoT (v : Value) (w : World) : Prop := v = .pointer none ∨ ∃ g : Nat, v = .pointer (some ⟨g, 0, none⟩) ∧ w.heap[g]? = some (.cells #[.bool false, .bool false, .map none, .map none, .int .u64 0] 52 (0, 0))
theorem no_us (v : Value) (w : World) (h : NoT v w) : Calls Try.prog 23 #[v] w fun e w' => e = .returned (.bool false) ∧ Drawn0 w w' := by
  rcases h with rfl | ⟨g, rfl, hb⟩
  · go_enter Try.func23, Try.ntmps23
    go_wp2
    go_ret
    exact ⟨rfl, by repeat (first | exact Drawn0.refl _ | apply Drawn0.step)⟩
  · have m0 := (blk_cell hb 0).trans (show _ = some (Value.bool false) from rfl)
    clear hb
    go_enter Try.func23, Try.ntmps23
    go_wp2
    go_ret
    exact ⟨rfl, by repeat (first | exact Drawn0.refl _ | apply Drawn0.step)⟩
theorem no_Alloc (v : Value)  (w : World) (h : NoT v w) : Calls Try.prog 9 #[v] w fun e w' => e = .returned (.tuple #[.int .u32 0, .int .i64 1]) ∧ Drawn0 w w' := by
  have HN := Aside0.mk h
  clear h
  go_enter Try.func9, Try.ntmps9
  go_wp2_with (first | (go_at_call 23; refine (no_us v _ HN.out).mono ?_; rintro e w1 ⟨rfl, ⟨nd, rfl⟩⟩))
  try rw [Exit.noGoto_ret]
  go_ret2
  exact ⟨rfl, ⟨nd, rfl⟩⟩
theorem no_Take (v : Value) (id : Int) (w : World) (h : NoT v w) : Calls Try.prog 10 #[v, .int .u32 id] w fun e w' => e = .returned (.int .i64 1) ∧ Drawn0 w w' := by
  have HN := Aside0.mk h
  clear h
  go_enter Try.func10, Try.ntmps10
  go_wp2_with (first | (go_at_call 23; refine (no_us v _ HN.out).mono ?_; rintro e w1 ⟨rfl, ⟨nd, rfl⟩⟩))
  try rw [Exit.noGoto_ret]
  go_ret
  exact ⟨rfl, ⟨nd, rfl⟩⟩
theorem no_Rel (v : Value) (id : Int) (w : World) (h : NoT v w) : Calls Try.prog 12 #[v, .int .u32 id] w fun e w' => e = .returned (.int .i64 1) ∧ Drawn0 w w' := by
  have HN := Aside0.mk h
  clear h
  go_enter Try.func12, Try.ntmps12
  go_wp2_with (first | (go_at_call 23; refine (no_us v _ HN.out).mono ?_; rintro e w1 ⟨rfl, ⟨nd, rfl⟩⟩))
  try rw [Exit.noGoto_ret]
  go_ret
  exact ⟨rfl, ⟨nd, rfl⟩⟩
theorem no_Con (v : Value) (id : Int) (w : World) (h : NoT v w) : Calls Try.prog 13 #[v, .int .u32 id] w fun e w' => e = .returned (.int .i64 1) ∧ Drawn0 w w' := by
  have HN := Aside0.mk h
  clear h
  go_enter Try.func13, Try.ntmps13
  go_wp2_with (first | (go_at_call 23; refine (no_us v _ HN.out).mono ?_; rintro e w1 ⟨rfl, ⟨nd, rfl⟩⟩))
  try rw [Exit.noGoto_ret]
  go_ret
  exact ⟨rfl, ⟨nd, rfl⟩⟩
theorem no_Live (v : Value) (id : Int) (w : World) (h : NoT v w) : Calls Try.prog 19 #[v, .int .u32 id] w fun e w' => e = .returned (.bool false) ∧ Drawn0 w w' := by
  have HN := Aside0.mk h
  clear h
  go_enter Try.func19, Try.ntmps19
  go_wp2_with (first | (go_at_call 23; refine (no_us v _ HN.out).mono ?_; rintro e w1 ⟨rfl, ⟨nd, rfl⟩⟩))
  try rw [Exit.noGoto_ret]
  go_ret
  exact ⟨rfl, ⟨nd, rfl⟩⟩
theorem no_Count (v : Value)  (w : World) (h : NoT v w) : Calls Try.prog 11 #[v] w fun e w' => e = .returned (.int .i64 0) ∧ Drawn0 w w' := by
  have HN := Aside0.mk h
  clear h
  go_enter Try.func11, Try.ntmps11
  go_wp2_with (first | (go_at_call 23; refine (no_us v _ HN.out).mono ?_; rintro e w1 ⟨rfl, ⟨nd, rfl⟩⟩))
  try rw [Exit.noGoto_ret]
  go_ret
  exact ⟨rfl, ⟨nd, rfl⟩⟩
theorem nosl {P : Program} {f : FuncId} {args : Array Value} {r : Ending} {w0 w : World} {L : List Res} (h : SL w0 w L) (hc : Calls P f args w fun e w' => e = r ∧ Drawn0 w w') : Calls P f args w fun e w' => e = r ∧ SL w0 w' L :=
  hc.mono fun e w' ⟨h1, n, h2⟩ => ⟨h1, by rw [h2]; exact sl_drewN h n⟩
set_option maxHeartbeats 4000000 in
set_option maxRecDepth 100000 in
theorem Nil_law (id : Int) (w : World) : Calls Try.prog 7 #[.int .u32 id] w fun e w' => e = .returned (.bool true) ∧ Below w.heap.size w w' := by
  have HS := Aside0.mk (sl_start w)
  have HZ := Aside0.mk (show ∀ {w' : World} {M : List Res} {g : Nat}, SL w w' M → M[0]? = some (cellsR g 52 #[.bool false, .bool false, .map none, .map none, .int .u64 0]) → NoT (.pointer (some ⟨g, 0, none⟩)) w' from fun h hi => .inr ⟨_, rfl, sl_blk h 0 hi⟩)
  have HN := Aside0.mk (show ∀ {w' : World}, NoT (.pointer none) w' from .inl rfl)
  go_enter Try.func7, Try.ntmps7
  go_wp2_with (first
    | (go_at_call 9; (first | with_reducible refine (nosl (by repeat (with_reducible first | exact HS.out | apply sl_drewN | apply sl_drew | apply sl_box | apply sl_alloc)) (no_Alloc (.pointer none) _ HN.out)).mono ?_ | refine (nosl (by repeat (with_reducible first | exact HS.out | apply sl_drewN | apply sl_drew | apply sl_box | apply sl_alloc)) (no_Alloc _ _ (HZ.out (by repeat (with_reducible first | exact HS.out | apply sl_drewN | apply sl_drew | apply sl_box | apply sl_alloc)) (by rfl)))).mono ?_); rintro e w1 ⟨rfl, hs⟩; (try simp only [World.size_alloc] at hs); replace HS := Aside0.mk hs; clear hs)
    | (go_at_call 10; (first | with_reducible refine (nosl (by repeat (with_reducible first | exact HS.out | apply sl_drewN | apply sl_drew | apply sl_box | apply sl_alloc)) (no_Take (.pointer none) id _ HN.out)).mono ?_ | refine (nosl (by repeat (with_reducible first | exact HS.out | apply sl_drewN | apply sl_drew | apply sl_box | apply sl_alloc)) (no_Take _ id _ (HZ.out (by repeat (with_reducible first | exact HS.out | apply sl_drewN | apply sl_drew | apply sl_box | apply sl_alloc)) (by rfl)))).mono ?_); rintro e w1 ⟨rfl, hs⟩; (try simp only [World.size_alloc] at hs); replace HS := Aside0.mk hs; clear hs)
    | (go_at_call 12; (first | with_reducible refine (nosl (by repeat (with_reducible first | exact HS.out | apply sl_drewN | apply sl_drew | apply sl_box | apply sl_alloc)) (no_Rel (.pointer none) id _ HN.out)).mono ?_ | refine (nosl (by repeat (with_reducible first | exact HS.out | apply sl_drewN | apply sl_drew | apply sl_box | apply sl_alloc)) (no_Rel _ id _ (HZ.out (by repeat (with_reducible first | exact HS.out | apply sl_drewN | apply sl_drew | apply sl_box | apply sl_alloc)) (by rfl)))).mono ?_); rintro e w1 ⟨rfl, hs⟩; (try simp only [World.size_alloc] at hs); replace HS := Aside0.mk hs; clear hs)
    | (go_at_call 13; (first | with_reducible refine (nosl (by repeat (with_reducible first | exact HS.out | apply sl_drewN | apply sl_drew | apply sl_box | apply sl_alloc)) (no_Con (.pointer none) id _ HN.out)).mono ?_ | refine (nosl (by repeat (with_reducible first | exact HS.out | apply sl_drewN | apply sl_drew | apply sl_box | apply sl_alloc)) (no_Con _ id _ (HZ.out (by repeat (with_reducible first | exact HS.out | apply sl_drewN | apply sl_drew | apply sl_box | apply sl_alloc)) (by rfl)))).mono ?_); rintro e w1 ⟨rfl, hs⟩; (try simp only [World.size_alloc] at hs); replace HS := Aside0.mk hs; clear hs)
    | (go_at_call 19; (first | with_reducible refine (nosl (by repeat (with_reducible first | exact HS.out | apply sl_drewN | apply sl_drew | apply sl_box | apply sl_alloc)) (no_Live (.pointer none) id _ HN.out)).mono ?_ | refine (nosl (by repeat (with_reducible first | exact HS.out | apply sl_drewN | apply sl_drew | apply sl_box | apply sl_alloc)) (no_Live _ id _ (HZ.out (by repeat (with_reducible first | exact HS.out | apply sl_drewN | apply sl_drew | apply sl_box | apply sl_alloc)) (by rfl)))).mono ?_); rintro e w1 ⟨rfl, hs⟩; (try simp only [World.size_alloc] at hs); replace HS := Aside0.mk hs; clear hs)
    | (go_at_call 11; (first | with_reducible refine (nosl (by repeat (with_reducible first | exact HS.out | apply sl_drewN | apply sl_drew | apply sl_box | apply sl_alloc)) (no_Count (.pointer none) _ HN.out)).mono ?_ | refine (nosl (by repeat (with_reducible first | exact HS.out | apply sl_drewN | apply sl_drew | apply sl_box | apply sl_alloc)) (no_Count _ _ (HZ.out (by repeat (with_reducible first | exact HS.out | apply sl_drewN | apply sl_drew | apply sl_box | apply sl_alloc)) (by rfl)))).mono ?_); rintro e w1 ⟨rfl, hs⟩; (try simp only [World.size_alloc] at hs); replace HS := Aside0.mk hs; clear hs)
    | (go_at_call 14; refine (ex_c (by repeat (with_reducible first | exact HS.out | apply sl_drewN | apply sl_drew | apply sl_box | apply sl_alloc))).mono ?_; rintro e w1 ⟨rfl, hs⟩; (try simp only [World.size_alloc] at hs); replace HS := Aside0.mk hs; clear hs))
  go_ret
  exact ⟨rfl, sl_below0 HS.out⟩
end Go.Proofs.Ytegkkomlpgappaa.Q
