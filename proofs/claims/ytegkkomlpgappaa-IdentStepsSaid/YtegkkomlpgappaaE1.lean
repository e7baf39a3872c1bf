import Derived.Test.YtegkkomlpgappaaT1
namespace Go.Proofs.Ytegkkomlpgappaa.Q
open Go.RowKit Go.Proofs.YtegkkomlpgappaaW.PrintWords Go.Proofs.YtegkkomlpgappaaW.PrintLast Go.Proofs.YtegkkomlpgappaaW.PrintMore Go.Proofs.Ytegkkomlpgappaa.Sl Go.Proofs.Ytegkkomlpgappaa.Hand 
attribute [local go_sem] max2_int min2_int max_two min_two max_three min_three max_four min_four 
set_option linter.unusedVariables false
set_option linter.unusedSimpArgs false

/-! ### The chapter's examples -/
theorem tok0 (b : Bool) : TOk ⟨b, [], [], fstI b - 1⟩ := ⟨Nat.zero_le _, Nat.zero_le _, by have := fst_range b; show 0 ≤ fstI b - 1; omega, by have := fst_range b; show fstI b - 1 < 4294967296; omega⟩
abbrev x0 : TSt := ⟨false, [], [], 0⟩
abbrev x1 : TSt := ⟨false, [1], [], 1⟩
abbrev x2 : TSt := ⟨false, [1, 2], [], 2⟩
abbrev x3 : TSt := ⟨false, [2], [1], 2⟩
abbrev x4 : TSt := ⟨false, [2, 3], [1], 3⟩
abbrev x5 : TSt := ⟨false, [2, 3], [], 3⟩
abbrev x6 : TSt := ⟨false, [2, 3, 1], [], 3⟩
theorem xok {s : TSt} (h1 : s.live.length ≤ 256) (h2 : s.rel.length ≤ 100000) (h3 : 0 ≤ s.lar) (h4 : s.lar < 4294967296) : TOk s := ⟨h1, h2, h3, h4⟩
theorem e01 : allV x0 = 1 ∧ allE x0 = 0 ∧ allS x0 = x1 := by refine ⟨?_, ?_, ?_⟩ <;> kernel_rfl
theorem e12 : allV x1 = 2 ∧ allE x1 = 0 ∧ allS x1 = x2 := by refine ⟨?_, ?_, ?_⟩ <;> kernel_rfl
theorem e23 : relE x2 1 = 0 ∧ relS x2 1 = x3 := by refine ⟨?_, ?_⟩ <;> kernel_rfl
theorem e34 : allV x3 = 3 ∧ allE x3 = 0 ∧ allS x3 = x4 := by refine ⟨?_, ?_, ?_⟩ <;> kernel_rfl
theorem e45 : conE x4 1 = 0 ∧ conS x4 1 = x5 := by refine ⟨?_, ?_⟩ <;> kernel_rfl
theorem e56 : allV x5 = 1 ∧ allE x5 = 0 ∧ allS x5 = x6 := by refine ⟨?_, ?_, ?_⟩ <;> kernel_rfl
theorem et2 : takeE x0 2 = 2 ∧ takeS x0 2 = x0 := by refine ⟨?_, ?_⟩ <;> kernel_rfl
theorem et0 : takeE x0 0 = 6 ∧ takeS x0 0 = x0 := by refine ⟨?_, ?_⟩ <;> kernel_rfl
theorem et3 : takeE x0 4278190080 = 6 ∧ takeS x0 4278190080 = x0 := by refine ⟨?_, ?_⟩ <;> kernel_rfl
theorem New0 {w0 w : World} {L : List Res} (h : SL w0 w L) : Calls Try.prog 8 #[.bool false] w fun e w' => ∃ g : Nat, e = .returned (.pointer (some ⟨g, 0, none⟩)) ∧ SL w0 w' (L ++ [tabR g x0]) := New_sl h false
set_option maxHeartbeats 4000000 in
set_option maxRecDepth 100000 in
theorem ex_c {w0 w : World} {L : List Res} (h : SL w0 w L) : Calls Try.prog 14 #[] w fun e w' => e = .returned (.bool true) ∧ SL w0 w' L := by
  have H := Aside0.mk h
  have HS := Aside0.mk (sl_start w)
  clear h
  go_enter Try.func14, Try.ntmps14
  go_wp2_with (first
    | (go_at_call 8; refine (New0 (by repeat (with_reducible first | exact HS.out | apply sl_drewN | apply sl_drew | apply sl_alloc))).mono ?_; rintro e w1 ⟨gn, rfl, hs⟩; (try simp only [World.size_alloc] at hs); replace HS := Aside0.mk hs; clear hs)
    | (go_at_call 9; (first | with_reducible refine (Alloc_eq (s := x0) (by repeat (with_reducible first | exact HS.out | apply sl_drewN | apply sl_drew | apply sl_alloc)) 0 e01.1 e01.2.1 e01.2.2 (xok (by decide) (by decide) (by decide) (by decide)) rfl).mono ?_ | with_reducible refine (Alloc_eq (s := x1) (by repeat (with_reducible first | exact HS.out | apply sl_drewN | apply sl_drew | apply sl_alloc)) 0 e12.1 e12.2.1 e12.2.2 (xok (by decide) (by decide) (by decide) (by decide)) rfl).mono ?_ | with_reducible refine (Alloc_eq (s := x3) (by repeat (with_reducible first | exact HS.out | apply sl_drewN | apply sl_drew | apply sl_alloc)) 0 e34.1 e34.2.1 e34.2.2 (xok (by decide) (by decide) (by decide) (by decide)) rfl).mono ?_ | with_reducible refine (Alloc_eq (s := x5) (by repeat (with_reducible first | exact HS.out | apply sl_drewN | apply sl_drew | apply sl_alloc)) 0 e56.1 e56.2.1 e56.2.2 (xok (by decide) (by decide) (by decide) (by decide)) rfl).mono ?_); rintro e w1 ⟨rfl, hs⟩; (try simp only [World.size_alloc] at hs); replace HS := Aside0.mk hs; clear hs)
    | (go_at_call 12; (first | with_reducible refine (Rel_eq (s := x2) (by repeat (with_reducible first | exact HS.out | apply sl_drewN | apply sl_drew | apply sl_alloc)) 0 e23.1 e23.2 (xok (by decide) (by decide) (by decide) (by decide)) (by decide) (by decide) rfl).mono ?_); rintro e w1 ⟨rfl, hs⟩; (try simp only [World.size_alloc] at hs); replace HS := Aside0.mk hs; clear hs)
    | (go_at_call 13; (first | with_reducible refine (Con_eq (s := x4) (by repeat (with_reducible first | exact HS.out | apply sl_drewN | apply sl_drew | apply sl_alloc)) 0 e45.1 e45.2 (by decide) (by decide) rfl).mono ?_); rintro e w1 ⟨rfl, hs⟩; (try simp only [World.size_alloc] at hs); replace HS := Aside0.mk hs; clear hs)
    | (go_at_call 10; (first | with_reducible refine (Take_eq (s := x0) (by repeat (with_reducible first | exact HS.out | apply sl_drewN | apply sl_drew | apply sl_alloc)) 1 et2.1 et2.2 (xok (by decide) (by decide) (by decide) (by decide)) (by decide) (by decide) rfl).mono ?_ | with_reducible refine (Take_eq (s := x0) (by repeat (with_reducible first | exact HS.out | apply sl_drewN | apply sl_drew | apply sl_alloc)) 1 et0.1 et0.2 (xok (by decide) (by decide) (by decide) (by decide)) (by decide) (by decide) rfl).mono ?_ | with_reducible refine (Take_eq (s := x0) (by repeat (with_reducible first | exact HS.out | apply sl_drewN | apply sl_drew | apply sl_alloc)) 1 et3.1 et3.2 (xok (by decide) (by decide) (by decide) (by decide)) (by decide) (by decide) rfl).mono ?_); rintro e w1 ⟨rfl, hs⟩; (try simp only [World.size_alloc] at hs); replace HS := Aside0.mk hs; clear hs))
  go_ret
  exact ⟨rfl, sl_below H.out (sl_below0 HS.out)⟩
end Go.Proofs.Ytegkkomlpgappaa.Q
