import Derived.Test.YtegkkomlpgappaaL1
namespace Go.Proofs.Ytegkkomlpgappaa.Q
open Go.RowKit Go.Proofs.YtegkkomlpgappaaW.PrintWords Go.Proofs.YtegkkomlpgappaaW.PrintLast Go.Proofs.YtegkkomlpgappaaW.PrintMore Go.Proofs.Ytegkkomlpgappaa.Sl Go.Proofs.Ytegkkomlpgappaa.Hand 
attribute [local go_sem] max2_int min2_int max_two min_two max_three min_three max_four min_four 
set_option linter.unusedVariables false
set_option linter.unusedSimpArgs false

section
set_option maxHeartbeats 8000000 in
set_option maxRecDepth 100000 in
theorem Limit_false (r : Nat) (w : World) (r1 : r < 256) : Calls Try.prog 3 #[.bool false, .int .u8 (r : Int)] w fun e w' => e = .returned (.bool true) ∧ Below w.heap.size w w' := by
  have HS := Aside0.mk (sl_start w)
  have hfb : fstI false = 1 := rfl
  obtain ⟨sA, sB, sC, HL⟩ := lim_stL false r r1
  rw [hfb] at HL
  have HLm := Aside0.mk HL
  have HSt := Aside0.mk (fun (n : Nat) (h : n < 256) => (by have := step_stL false n h; rw [hfb] at this; exact this : allV (stL false n) = 1 + (n : Int) ∧ allE (stL false n) = 0 ∧ allS (stL false n) = stL false (n + 1)))
  have HM1 := Aside0.mk (by have := more_stL false (d := 256) (by omega) (by omega); rw [hfb] at this; exact this : takeE (stL false 256) (257) = 5 ∧ takeS (stL false 256) (257) = stL false 256)
  have HM2 := Aside0.mk (by have := more_stL false (d := 261) (by omega) (by omega); rw [hfb] at this; exact this : takeE (stL false 256) (262) = 5 ∧ takeS (stL false 256) (262) = stL false 256)
  have HF := Aside0.mk (full_stL false)
  have HOk := Aside0.mk (fun (n : Nat) (h : n ≤ 256) => ok_stL false n h)
  have HLn := Aside0.mk (len_stL false 256)
  have HN := Aside0.mk (show ∀ {w' : World} {L : List Res}, SL w w' L → Calls Try.prog 8 #[.bool false] w' fun e w'' => ∃ g : Nat, e = .returned (.pointer (some ⟨g, 0, none⟩)) ∧ SL w w'' (L ++ [tabR g (stL false 0)]) from fun h => New_sl h false)
  clear HL hfb
  go_enter Try.func3, Try.ntmps3
  go_wp2_with (first
    | (go_at_call 8; refine (HN.out (by repeat (with_reducible first | exact HS.out | apply sl_drewN | apply sl_drew | apply sl_alloc))).mono ?_; rintro e w1 ⟨g, rfl, hs⟩; (try simp only [World.size_alloc] at hs); replace HS := Aside0.mk hs; clear hs))
  have HSS : Aside0 (SL w _ [tabR g (stL false 0)]) := ⟨HS.out⟩
  go_loopg [17] 256 (fun kq v17 wr => ∃ n : Nat, v17 = .int .i64 (n : Int) ∧ Aside0 (n + kq = 256) ∧ Aside0 (SL w wr [tabR g (stL false n)]))
  case atStart => exact ⟨0, rfl, ⟨by omega⟩, HSS⟩
  case round =>
    clear HSS HS
    obtain ⟨n, rfl, HI, HS⟩ := hrel
    have hi := HI.out
    by_cases hlt : n < 256
    · have b1 : decide ((n : Int) < 256) = true := decide_eq_true (by omega)
      obtain ⟨kq, rfl⟩ : ∃ m, gk = m + 1 := ⟨gk - 1, by omega⟩
      have HNn := Aside0.mk hlt
      have p1 : (0 : Int) ≤ (n : Int) := by omega
      have p2 : (n : Int) < 256 := by omega
      clear hi hlt
      go_wp2_with (first
        | (go_at_call 9; refine (Alloc_eq (s := stL false n) (by repeat (with_reducible first | exact HS.out | apply sl_drewN | apply sl_drew | apply sl_alloc)) 0 (HSt.out n HNn.out).1 (HSt.out n HNn.out).2.1 (HSt.out n HNn.out).2.2 (HOk.out n (Nat.le_of_lt HNn.out)) (by rfl)).mono ?_; rintro e w1 ⟨rfl, hs⟩; (try simp only [World.size_alloc] at hs); replace HS := Aside0.mk hs; clear hs))
      go_roundg kq
      case measure => omega
      case rel => exact ⟨n + 1, rfl, ⟨by have := HI.out; omega⟩, ⟨HS.out⟩⟩
    · have b1 : decide ((n : Int) < 256) = false := decide_eq_false (by omega)
      obtain rfl : n = 256 := by omega
      clear hlt hi
      have p1 : (0 : Int) ≤ (r : Int) := by omega
      have p2 : (r : Int) < 256 := by omega
      go_wp2_with (first
      | (go_at_call 9; (first | with_reducible refine (Alloc_eq (s := stL false 256) (by repeat (with_reducible first | exact HS.out | apply sl_drewN | apply sl_drew | apply sl_alloc)) 0 HF.out.1 HF.out.2.1 HF.out.2.2 (HOk.out 256 (Nat.le_refl _)) rfl).mono ?_ | with_reducible refine (Alloc_eq (s := sA) (by repeat (with_reducible first | exact HS.out | apply sl_drewN | apply sl_drew | apply sl_alloc)) 0 HLm.out.b1 HLm.out.b2 HLm.out.b3 HLm.out.oA rfl).mono ?_); rintro e w1 ⟨rfl, hs⟩; (try simp only [World.size_alloc] at hs); replace HS := Aside0.mk hs; clear hs)
      | (go_at_call 10; (first | with_reducible refine (Take_eq (s := stL false 256) (by repeat (with_reducible first | exact HS.out | apply sl_drewN | apply sl_drew | apply sl_alloc)) 0 HM1.out.1 HM1.out.2 (HOk.out 256 (Nat.le_refl _)) (by decide) (by decide) rfl).mono ?_ | with_reducible refine (Take_eq (s := stL false 256) (by repeat (with_reducible first | exact HS.out | apply sl_drewN | apply sl_drew | apply sl_alloc)) 0 HM2.out.1 HM2.out.2 (HOk.out 256 (Nat.le_refl _)) (by decide) (by decide) rfl).mono ?_ | with_reducible refine (Take_eq (s := sC) (by repeat (with_reducible first | exact HS.out | apply sl_drewN | apply sl_drew | apply sl_alloc)) 0 HLm.out.d1 HLm.out.d2 HLm.out.oC (by omega) (by omega) rfl).mono ?_); rintro e w1 ⟨rfl, hs⟩; (try simp only [World.size_alloc] at hs); replace HS := Aside0.mk hs; clear hs)
      | (go_at_call 11; (first | with_reducible refine (Count_sl (s := stL false 256) (by repeat (with_reducible first | exact HS.out | apply sl_drewN | apply sl_drew | apply sl_alloc)) 0 rfl).mono ?_); rintro e w1 ⟨rfl, hs⟩; rw [HLn.out]; (try simp only [World.size_alloc] at hs); replace HS := Aside0.mk hs; clear hs)
      | (go_at_call 12; (first | with_reducible refine (Rel_eq (s := stL false 256) (by repeat (with_reducible first | exact HS.out | apply sl_drewN | apply sl_drew | apply sl_alloc)) 0 HLm.out.a1 HLm.out.a2 (HOk.out 256 (Nat.le_refl _)) (by omega) (by omega) rfl).mono ?_ | with_reducible refine (Rel_eq (s := sA) (by repeat (with_reducible first | exact HS.out | apply sl_drewN | apply sl_drew | apply sl_alloc)) 0 HLm.out.a3 HLm.out.a4 HLm.out.oA (by omega) (by omega) rfl).mono ?_); rintro e w1 ⟨rfl, hs⟩; (try simp only [World.size_alloc] at hs); replace HS := Aside0.mk hs; clear hs)
      | (go_at_call 13; (first | with_reducible refine (Con_eq (s := sB) (by repeat (with_reducible first | exact HS.out | apply sl_drewN | apply sl_drew | apply sl_alloc)) 0 HLm.out.c1 HLm.out.c2 (by omega) (by omega) rfl).mono ?_ | with_reducible refine (Con_eq (s := sC) (by repeat (with_reducible first | exact HS.out | apply sl_drewN | apply sl_drew | apply sl_alloc)) 0 HLm.out.c3 HLm.out.c4 (by omega) (by omega) rfl).mono ?_); rintro e w1 ⟨rfl, hs⟩; (try simp only [World.size_alloc] at hs); replace HS := Aside0.mk hs; clear hs)
      | (go_at_call 14; refine (ex_c (by repeat (with_reducible first | exact HS.out | apply sl_drewN | apply sl_drew | apply sl_alloc))).mono ?_; rintro e w1 ⟨rfl, hs⟩; (try simp only [World.size_alloc] at hs); replace HS := Aside0.mk hs; clear hs))
      try rw [Exit.noGoto_ret]
      go_ret
      exact ⟨rfl, sl_below0 HS.out⟩
set_option maxHeartbeats 8000000 in
set_option maxRecDepth 100000 in
theorem Limit_true (r : Nat) (w : World) (r1 : r < 256) : Calls Try.prog 3 #[.bool true, .int .u8 (r : Int)] w fun e w' => e = .returned (.bool true) ∧ Below w.heap.size w w' := by
  have HS := Aside0.mk (sl_start w)
  have hfb : fstI true = 4278190080 := rfl
  obtain ⟨sA, sB, sC, HL⟩ := lim_stL true r r1
  rw [hfb] at HL
  have HLm := Aside0.mk HL
  have HSt := Aside0.mk (fun (n : Nat) (h : n < 256) => (by have := step_stL true n h; rw [hfb] at this; exact this : allV (stL true n) = 4278190080 + (n : Int) ∧ allE (stL true n) = 0 ∧ allS (stL true n) = stL true (n + 1)))
  have HM1 := Aside0.mk (by have := more_stL true (d := 256) (by omega) (by omega); rw [hfb] at this; exact this : takeE (stL true 256) (4278190336) = 5 ∧ takeS (stL true 256) (4278190336) = stL true 256)
  have HM2 := Aside0.mk (by have := more_stL true (d := 261) (by omega) (by omega); rw [hfb] at this; exact this : takeE (stL true 256) (4278190341) = 5 ∧ takeS (stL true 256) (4278190341) = stL true 256)
  have HF := Aside0.mk (full_stL true)
  have HOk := Aside0.mk (fun (n : Nat) (h : n ≤ 256) => ok_stL true n h)
  have HLn := Aside0.mk (len_stL true 256)
  have HN := Aside0.mk (show ∀ {w' : World} {L : List Res}, SL w w' L → Calls Try.prog 8 #[.bool true] w' fun e w'' => ∃ g : Nat, e = .returned (.pointer (some ⟨g, 0, none⟩)) ∧ SL w w'' (L ++ [tabR g (stL true 0)]) from fun h => New_sl h true)
  clear HL hfb
  go_enter Try.func3, Try.ntmps3
  go_wp2_with (first
    | (go_at_call 8; refine (HN.out (by repeat (with_reducible first | exact HS.out | apply sl_drewN | apply sl_drew | apply sl_alloc))).mono ?_; rintro e w1 ⟨g, rfl, hs⟩; (try simp only [World.size_alloc] at hs); replace HS := Aside0.mk hs; clear hs))
  have HSS : Aside0 (SL w _ [tabR g (stL true 0)]) := ⟨HS.out⟩
  go_loopg [17] 256 (fun kq v17 wr => ∃ n : Nat, v17 = .int .i64 (n : Int) ∧ Aside0 (n + kq = 256) ∧ Aside0 (SL w wr [tabR g (stL true n)]))
  case atStart => exact ⟨0, rfl, ⟨by omega⟩, HSS⟩
  case round =>
    clear HSS HS
    obtain ⟨n, rfl, HI, HS⟩ := hrel
    have hi := HI.out
    by_cases hlt : n < 256
    · have b1 : decide ((n : Int) < 256) = true := decide_eq_true (by omega)
      obtain ⟨kq, rfl⟩ : ∃ m, gk = m + 1 := ⟨gk - 1, by omega⟩
      have HNn := Aside0.mk hlt
      have p1 : (0 : Int) ≤ (n : Int) := by omega
      have p2 : (n : Int) < 256 := by omega
      clear hi hlt
      go_wp2_with (first
        | (go_at_call 9; refine (Alloc_eq (s := stL true n) (by repeat (with_reducible first | exact HS.out | apply sl_drewN | apply sl_drew | apply sl_alloc)) 0 (HSt.out n HNn.out).1 (HSt.out n HNn.out).2.1 (HSt.out n HNn.out).2.2 (HOk.out n (Nat.le_of_lt HNn.out)) (by rfl)).mono ?_; rintro e w1 ⟨rfl, hs⟩; (try simp only [World.size_alloc] at hs); replace HS := Aside0.mk hs; clear hs))
      go_roundg kq
      case measure => omega
      case rel => exact ⟨n + 1, rfl, ⟨by have := HI.out; omega⟩, ⟨HS.out⟩⟩
    · have b1 : decide ((n : Int) < 256) = false := decide_eq_false (by omega)
      obtain rfl : n = 256 := by omega
      clear hlt hi
      have p1 : (0 : Int) ≤ (r : Int) := by omega
      have p2 : (r : Int) < 256 := by omega
      go_wp2_with (first
      | (go_at_call 9; (first | with_reducible refine (Alloc_eq (s := stL true 256) (by repeat (with_reducible first | exact HS.out | apply sl_drewN | apply sl_drew | apply sl_alloc)) 0 HF.out.1 HF.out.2.1 HF.out.2.2 (HOk.out 256 (Nat.le_refl _)) rfl).mono ?_ | with_reducible refine (Alloc_eq (s := sA) (by repeat (with_reducible first | exact HS.out | apply sl_drewN | apply sl_drew | apply sl_alloc)) 0 HLm.out.b1 HLm.out.b2 HLm.out.b3 HLm.out.oA rfl).mono ?_); rintro e w1 ⟨rfl, hs⟩; (try simp only [World.size_alloc] at hs); replace HS := Aside0.mk hs; clear hs)
      | (go_at_call 10; (first | with_reducible refine (Take_eq (s := stL true 256) (by repeat (with_reducible first | exact HS.out | apply sl_drewN | apply sl_drew | apply sl_alloc)) 0 HM1.out.1 HM1.out.2 (HOk.out 256 (Nat.le_refl _)) (by decide) (by decide) rfl).mono ?_ | with_reducible refine (Take_eq (s := stL true 256) (by repeat (with_reducible first | exact HS.out | apply sl_drewN | apply sl_drew | apply sl_alloc)) 0 HM2.out.1 HM2.out.2 (HOk.out 256 (Nat.le_refl _)) (by decide) (by decide) rfl).mono ?_ | with_reducible refine (Take_eq (s := sC) (by repeat (with_reducible first | exact HS.out | apply sl_drewN | apply sl_drew | apply sl_alloc)) 0 HLm.out.d1 HLm.out.d2 HLm.out.oC (by omega) (by omega) rfl).mono ?_); rintro e w1 ⟨rfl, hs⟩; (try simp only [World.size_alloc] at hs); replace HS := Aside0.mk hs; clear hs)
      | (go_at_call 11; (first | with_reducible refine (Count_sl (s := stL true 256) (by repeat (with_reducible first | exact HS.out | apply sl_drewN | apply sl_drew | apply sl_alloc)) 0 rfl).mono ?_); rintro e w1 ⟨rfl, hs⟩; rw [HLn.out]; (try simp only [World.size_alloc] at hs); replace HS := Aside0.mk hs; clear hs)
      | (go_at_call 12; (first | with_reducible refine (Rel_eq (s := stL true 256) (by repeat (with_reducible first | exact HS.out | apply sl_drewN | apply sl_drew | apply sl_alloc)) 0 HLm.out.a1 HLm.out.a2 (HOk.out 256 (Nat.le_refl _)) (by omega) (by omega) rfl).mono ?_ | with_reducible refine (Rel_eq (s := sA) (by repeat (with_reducible first | exact HS.out | apply sl_drewN | apply sl_drew | apply sl_alloc)) 0 HLm.out.a3 HLm.out.a4 HLm.out.oA (by omega) (by omega) rfl).mono ?_); rintro e w1 ⟨rfl, hs⟩; (try simp only [World.size_alloc] at hs); replace HS := Aside0.mk hs; clear hs)
      | (go_at_call 13; (first | with_reducible refine (Con_eq (s := sB) (by repeat (with_reducible first | exact HS.out | apply sl_drewN | apply sl_drew | apply sl_alloc)) 0 HLm.out.c1 HLm.out.c2 (by omega) (by omega) rfl).mono ?_ | with_reducible refine (Con_eq (s := sC) (by repeat (with_reducible first | exact HS.out | apply sl_drewN | apply sl_drew | apply sl_alloc)) 0 HLm.out.c3 HLm.out.c4 (by omega) (by omega) rfl).mono ?_); rintro e w1 ⟨rfl, hs⟩; (try simp only [World.size_alloc] at hs); replace HS := Aside0.mk hs; clear hs)
      | (go_at_call 14; refine (ex_c (by repeat (with_reducible first | exact HS.out | apply sl_drewN | apply sl_drew | apply sl_alloc))).mono ?_; rintro e w1 ⟨rfl, hs⟩; (try simp only [World.size_alloc] at hs); replace HS := Aside0.mk hs; clear hs))
      try rw [Exit.noGoto_ret]
      go_ret
      exact ⟨rfl, sl_below0 HS.out⟩

end
theorem Limit_law (b : Bool) (r : Int) (w : World) (r0 : 0 ≤ r) (r1 : r < 256) : Calls Try.prog 3 #[.bool b, .int .u8 r] w fun e w' => e = .returned (.bool true) ∧ Below w.heap.size w w' := by
  obtain ⟨n, rfl⟩ := Int.eq_ofNat_of_zero_le r0
  cases b
  · exact Limit_false n w (by omega)
  · exact Limit_true n w (by omega)
end Go.Proofs.Ytegkkomlpgappaa.Q
