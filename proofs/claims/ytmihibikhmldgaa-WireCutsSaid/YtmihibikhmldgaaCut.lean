import Derived.Test.YtmihibikhmldgaaWe
namespace Go.Proofs.Ytmihibikhmldgaa.Q
open Go.RowKit Go.Proofs.YtmihibikhmldgaaW.PrintWords Go.Proofs.YtmihibikhmldgaaW.PrintLast Go.Proofs.YtmihibikhmldgaaW.PrintMore Go.Proofs.Ytmihibikhmldgaa.Sl Go.Proofs.Ytmihibikhmldgaa.Hand 
attribute [local go_sem] max2_int min2_int max_two min_two max_three min_three max_four min_four 
set_option linter.unusedVariables false
set_option linter.unusedSimpArgs false

set_option maxHeartbeats 8000000 in
set_option maxRecDepth 100000 in
theorem Cuts_law (A : Option Addr) (c : Nat) (l : List S25) (cut : Int) (w : World) (hr : Kd.C k25 w A l.length l) (hc : l.length ≤ c) (ok : ∀ x ∈ l, OkI x) (hcut : -9223372036854775808 ≤ cut ∧ cut < 9223372036854775808) :
    Calls Try.prog 7 #[.slice A l.length c, .int .i64 cut] w fun e w' => e = .returned (.bool true) ∧ Below w.heap.size w w' := by
  have HS := Aside0.mk (sl_start w)
  have HR := Aside0.mk hr
  have HC := Aside0.mk hc
  have HO := Aside0.mk ok
  have hm := hr.2.1
  obtain ⟨k0, k1⟩ := hcut
  by_cases li : lightB l = true
  rotate_left
  · have HL := Aside0.mk (show lightB l = false from Bool.eq_false_iff.2 li)
    clear hr hc ok li
    by_cases c1 : cut < 1
    · have d1 : decide (cut < 1) = true := decide_eq_true c1
      clear c1
      go_enter Try.func7, Try.ntmps7
      go_wp2_with (first
    | (go_at_call 10; refine (light_c (by repeat (with_reducible first | exact HS.out | apply sl_drewN | apply sl_drew | apply sl_box | apply sl_alloc)) A c _ l rfl (Kd.C_below HR.out (sl_below0 (by repeat (with_reducible first | exact HS.out | apply sl_drewN | apply sl_drew | apply sl_box | apply sl_alloc)))) HC.out).mono ?_; rw [HL.out]; rintro e w1 ⟨rfl, hs⟩; (try simp only [World.size_alloc] at hs); replace HS := Aside0.mk hs; clear hs)
    | (go_at_call 11; refine (ex_c (by repeat (with_reducible first | exact HS.out | apply sl_drewN | apply sl_drew | apply sl_box | apply sl_alloc))).mono ?_; rintro e w1 ⟨rfl, hs⟩; (try simp only [World.size_alloc] at hs); replace HS := Aside0.mk hs; clear hs))
      go_ret
      exact ⟨rfl, sl_below0 HS.out⟩
    · have d1 : decide (cut < 1) = false := decide_eq_false c1
      have d2 : decide (0 < cut) = true := decide_eq_true (by omega)
      clear c1
      go_enter Try.func7, Try.ntmps7
      go_wp2_with (first
    | (go_at_call 10; refine (light_c (by repeat (with_reducible first | exact HS.out | apply sl_drewN | apply sl_drew | apply sl_box | apply sl_alloc)) A c _ l rfl (Kd.C_below HR.out (sl_below0 (by repeat (with_reducible first | exact HS.out | apply sl_drewN | apply sl_drew | apply sl_box | apply sl_alloc)))) HC.out).mono ?_; rw [HL.out]; rintro e w1 ⟨rfl, hs⟩; (try simp only [World.size_alloc] at hs); replace HS := Aside0.mk hs; clear hs)
    | (go_at_call 11; refine (ex_c (by repeat (with_reducible first | exact HS.out | apply sl_drewN | apply sl_drew | apply sl_box | apply sl_alloc))).mono ?_; rintro e w1 ⟨rfl, hs⟩; (try simp only [World.size_alloc] at hs); replace HS := Aside0.mk hs; clear hs))
      go_ret
      exact ⟨rfl, sl_below0 HS.out⟩
  have HL := Aside0.mk li
  have HLi := Aside0.mk (light_t li)
  have hl12 := (light_t li).1
  have hal : (allI l).length ≤ 1000000 := by have := allI_len l HLi.out.2; omega
  have HAl := Aside0.mk hal
  clear hr hc ok li
  by_cases c1 : cut < 1
  · have d1 : decide (cut < 1) = true := decide_eq_true c1
    clear c1
    go_enter Try.func7, Try.ntmps7
    go_wp2_with (first
    | (go_at_call 10; refine (light_c (by repeat (with_reducible first | exact HS.out | apply sl_drewN | apply sl_drew | apply sl_box | apply sl_alloc)) A c _ l rfl (Kd.C_below HR.out (sl_below0 (by repeat (with_reducible first | exact HS.out | apply sl_drewN | apply sl_drew | apply sl_box | apply sl_alloc)))) HC.out).mono ?_; rw [HL.out]; rintro e w1 ⟨rfl, hs⟩; (try simp only [World.size_alloc] at hs); replace HS := Aside0.mk hs; clear hs)
    | (go_at_call 16; refine (all_c (by repeat (with_reducible first | exact HS.out | apply sl_drewN | apply sl_drew | apply sl_alloc)) _ c l (Kd.C_below HR.out (sl_below0 (by repeat (with_reducible first | exact HS.out | apply sl_drewN | apply sl_drew | apply sl_alloc)))) HO.out HLi.out).mono ?_; rintro e w1 ⟨A3, c3, rfl, hs⟩; (try simp only [World.size_alloc] at hs); replace HS := Aside0.mk hs; clear hs)
    | (go_at_call 11; refine (ex_c (by repeat (with_reducible first | exact HS.out | apply sl_drewN | apply sl_drew | apply sl_box | apply sl_alloc))).mono ?_; rintro e w1 ⟨rfl, hs⟩; (try simp only [World.size_alloc] at hs); replace HS := Aside0.mk hs; clear hs))
    go_ret
    exact ⟨rfl, sl_below0 HS.out⟩
  have d1 : decide (cut < 1) = false := decide_eq_false c1
  by_cases c2 : ((allI l).length : Int) < cut
  · have d2 : decide (((allI l).length : Int) < cut) = true := decide_eq_true c2
    clear c1 c2
    go_enter Try.func7, Try.ntmps7
    go_wp2_with (first
    | (go_at_call 10; refine (light_c (by repeat (with_reducible first | exact HS.out | apply sl_drewN | apply sl_drew | apply sl_box | apply sl_alloc)) A c _ l rfl (Kd.C_below HR.out (sl_below0 (by repeat (with_reducible first | exact HS.out | apply sl_drewN | apply sl_drew | apply sl_box | apply sl_alloc)))) HC.out).mono ?_; rw [HL.out]; rintro e w1 ⟨rfl, hs⟩; (try simp only [World.size_alloc] at hs); replace HS := Aside0.mk hs; clear hs)
    | (go_at_call 16; refine (all_c (by repeat (with_reducible first | exact HS.out | apply sl_drewN | apply sl_drew | apply sl_alloc)) _ c l (Kd.C_below HR.out (sl_below0 (by repeat (with_reducible first | exact HS.out | apply sl_drewN | apply sl_drew | apply sl_alloc)))) HO.out HLi.out).mono ?_; rintro e w1 ⟨A3, c3, rfl, hs⟩; (try simp only [World.size_alloc] at hs); replace HS := Aside0.mk hs; clear hs)
    | (go_at_call 11; refine (ex_c (by repeat (with_reducible first | exact HS.out | apply sl_drewN | apply sl_drew | apply sl_box | apply sl_alloc))).mono ?_; rintro e w1 ⟨rfl, hs⟩; (try simp only [World.size_alloc] at hs); replace HS := Aside0.mk hs; clear hs))
    go_ret
    exact ⟨rfl, sl_below0 HS.out⟩
  have d2 : decide (((allI l).length : Int) < cut) = false := decide_eq_false c2
  obtain ⟨m, hmc⟩ : ∃ m : Nat, ((allI l).length : Int) - cut = (m : Int) := ⟨(((allI l).length : Int) - cut).toNat, by omega⟩
  have hml : m < (allI l).length := by omega
  have HM := Aside0.mk hml
  have HCI := Aside0.mk (CutI.start l hml)
  have q1 : (m : Int) ≤ ((allI l).length : Int) := by omega
  have q0 : (0 : Int) ≤ (m : Int) := by omega
  clear c1 c2
  go_enter Try.func7, Try.ntmps7
  go_wp2_with (first
    | (go_at_call 10; refine (light_c (by repeat (with_reducible first | exact HS.out | apply sl_drewN | apply sl_drew | apply sl_alloc)) A c _ l rfl (Kd.C_below HR.out (sl_below0 (by repeat (with_reducible first | exact HS.out | apply sl_drewN | apply sl_drew | apply sl_alloc)))) HC.out).mono ?_; rw [HL.out]; rintro e w1 ⟨rfl, hs⟩; (try simp only [World.size_alloc] at hs); replace HS := Aside0.mk hs; clear hs)
    | (go_at_call 16; refine (all_c (by repeat (with_reducible first | exact HS.out | apply sl_drewN | apply sl_drew | apply sl_alloc)) _ c l (Kd.C_below HR.out (sl_below0 (by repeat (with_reducible first | exact HS.out | apply sl_drewN | apply sl_drew | apply sl_alloc)))) HO.out HLi.out).mono ?_; rintro e w1 ⟨A3, c3, rfl, hs⟩; (try simp only [World.size_alloc] at hs); replace HS := Aside0.mk hs; clear hs; have q3 : (m : Int) ≤ (c3 : Int) := (by have := (sl_readO HS.out 0 rfl).2.1; omega))
    | (go_at_call 17; refine (From_cut (by repeat (with_reducible first | exact HS.out | apply sl_drewN | apply sl_drew | apply sl_alloc)) A3 c3 m (allI l) (sl_readO (by repeat (with_reducible first | exact HS.out | apply sl_drewN | apply sl_drew | apply sl_alloc)) 0 (by rfl)).2.2 (by have := HM.out; omega) HAl.out).mono ?_; rintro e w1 ⟨g, rfl, hs⟩; (try simp only [World.size_alloc] at hs); replace HS := Aside0.mk hs; clear hs))
  have HSS : Aside0 (SL w _ [rowO (.slice A3 (allI l).length c3) (allI l), rdS g ⟨(allI l).take m, 0⟩]) := ⟨HS.out⟩
  clear q3 q0 q1 hmc hml
  go_loopg [7] l.length (fun kq v7 wr => ∃ (i : Nat) (s : RSt), v7 = .int .i64 (i : Int) ∧ Aside0 (i + kq = l.length) ∧ Aside0 (CutI l i s) ∧ Aside0 (SL w wr [rowO (.slice A3 (allI l).length c3) (allI l), rdS g s]))
  case atStart => exact ⟨0, _, rfl, ⟨by omega⟩, HCI, HSS⟩
  case round =>
    clear HSS HS HCI
    obtain ⟨i, s, rfl, HI, HV, HS⟩ := hrel
    have hi := HI.out
    by_cases hlt : i < l.length
    · have b1 : decide (i < l.length) = true := decide_eq_true hlt
      obtain ⟨kq, rfl⟩ : ∃ m, gk = m + 1 := ⟨gk - 1, by omega⟩
      obtain ⟨ad, A2, c2, rfl, hc2, hx⟩ := atI HR.out i hlt
      have hb3 := HLi.out.2 l[i] (List.getElem_mem hlt)
      have hok := HO.out l[i] (List.getElem_mem hlt)
      obtain ⟨r1, r2⟩ := CutI.rdok HV.out HO.out HLi.out
      have hst := CutI.step HV.out hlt hok hb3
      obtain ⟨u, er⟩ := s
      have HRk := Aside0.mk (And.intro r1 r2)
      obtain ⟨N, hN⟩ : ∃ N, readN ⟨u, er⟩ l[i].f0 = N := ⟨_, rfl⟩
      obtain ⟨B, hB⟩ : ∃ B, readB ⟨u, er⟩ l[i].f0 300 = B := ⟨_, rfl⟩
      obtain ⟨U, E, hU⟩ : ∃ U E, readS ⟨u, er⟩ l[i].f0 300 = ⟨U, E⟩ := ⟨_, _, rfl⟩
      rw [hN, hB, hU] at hst
      generalize l[i] = x at hx hc2 hb3 hst hN hB hU
      have HX := Aside0.mk hx
      have HC2 := Aside0.mk hc2
      have HV2 := Aside0.mk (And.intro hN (And.intro hB hU))
      have HB3 := Aside0.mk (show x.f2.length ≤ 1000000 by omega)
      obtain ⟨x0, x1, x2, _, _⟩ := hx _ (sl_below0 HS.out)
      have p1 : (0 : Int) ≤ (i : Int) := by omega
      have p2 : (i : Int) < (l.length : Int) := by omega
      clear hx hc2 hb3 hlt hi hok r1 r2 hN hB hU
      rcases hst with ⟨h1, h2, h3⟩ | ⟨h1, h2⟩
      · have HCI := Aside0.mk h1
        have e3 : (E == 3) = false := beq_eq_false_iff_ne.2 h3
        by_cases h0 : E = 0
        · have e0 : (E == 0) = true := beq_iff_eq.2 h0
          have e1 : (E != 0) = false := bne_eq_false_iff_eq.2 h0
          clear h1 h2 h3 h0
          go_wp2_with (first
          | (go_at_call 34; refine (read_eq (by repeat (with_reducible first | exact HS.out | apply sl_drewN | apply sl_drew | apply sl_alloc)) 1 x.f0 300 HV2.out.1 HV2.out.2.1 HV2.out.2.2 HRk.out.1 HRk.out.2 (by rfl)).mono ?_; rintro e w1 ⟨A4, c4, rfl, hs⟩; (try simp only [World.size_alloc] at hs); replace HS := Aside0.mk hs; clear hs; obtain ⟨x0, x1, x2, _, _⟩ := HX.out _ (sl_below0 HS.out))
          | (go_at_call 29; refine (Err_sl (by repeat (with_reducible first | exact HS.out | apply sl_drewN | apply sl_drew | apply sl_alloc)) 1 (by rfl)).mono ?_; rintro e w2 ⟨rfl, rfl⟩)
          | (go_at_call 33; refine (readable_c (by repeat (with_reducible first | exact HS.out | apply sl_drewN | apply sl_drew | apply sl_alloc)) x.f0 x.f1 A2 c2 _ x.f2 rfl (HX.out _ (sl_below0 (by repeat (with_reducible first | exact HS.out | apply sl_drewN | apply sl_drew | apply sl_alloc)))).2.2.2.1 HC2.out HB3.out).mono ?_; rw [HRd.out]; rintro e w1 ⟨rfl, hs⟩; (try simp only [World.size_alloc] at hs); replace HS := Aside0.mk hs; clear hs)
          | (go_at_call 11; refine (ex_c (by repeat (with_reducible first | exact HS.out | apply sl_drewN | apply sl_drew | apply sl_alloc))).mono ?_; rintro e w1 ⟨rfl, hs⟩; (try simp only [World.size_alloc] at hs); replace HS := Aside0.mk hs; clear hs))
          go_roundg kq
          case measure => omega
          case rel => exact ⟨i + 1, _, rfl, ⟨by have := HI.out; omega⟩, HCI, ⟨sl_take (sl_alloc HS.out _) 2⟩⟩
        · have e0 : (E == 0) = false := beq_eq_false_iff_ne.2 h0
          have e1 : (E != 0) = true := bne_iff_ne.2 h0
          obtain ⟨rfl, rfl⟩ := h2 h0
          clear h1 h2 h3 h0
          go_wp2_with (first
          | (go_at_call 34; refine (read_eq (by repeat (with_reducible first | exact HS.out | apply sl_drewN | apply sl_drew | apply sl_alloc)) 1 x.f0 300 HV2.out.1 HV2.out.2.1 HV2.out.2.2 HRk.out.1 HRk.out.2 (by rfl)).mono ?_; rintro e w1 ⟨A4, c4, rfl, hs⟩; (try simp only [World.size_alloc] at hs); replace HS := Aside0.mk hs; clear hs; obtain ⟨x0, x1, x2, _, _⟩ := HX.out _ (sl_below0 HS.out))
          | (go_at_call 29; refine (Err_sl (by repeat (with_reducible first | exact HS.out | apply sl_drewN | apply sl_drew | apply sl_alloc)) 1 (by rfl)).mono ?_; rintro e w2 ⟨rfl, rfl⟩)
          | (go_at_call 33; refine (readable_c (by repeat (with_reducible first | exact HS.out | apply sl_drewN | apply sl_drew | apply sl_alloc)) x.f0 x.f1 A2 c2 _ x.f2 rfl (HX.out _ (sl_below0 (by repeat (with_reducible first | exact HS.out | apply sl_drewN | apply sl_drew | apply sl_alloc)))).2.2.2.1 HC2.out HB3.out).mono ?_; rw [HRd.out]; rintro e w1 ⟨rfl, hs⟩; (try simp only [World.size_alloc] at hs); replace HS := Aside0.mk hs; clear hs)
          | (go_at_call 11; refine (ex_c (by repeat (with_reducible first | exact HS.out | apply sl_drewN | apply sl_drew | apply sl_alloc))).mono ?_; rintro e w1 ⟨rfl, hs⟩; (try simp only [World.size_alloc] at hs); replace HS := Aside0.mk hs; clear hs))
          go_roundg kq
          case measure => omega
          case rel => exact ⟨i + 1, _, rfl, ⟨by have := HI.out; omega⟩, HCI, ⟨sl_take (sl_alloc HS.out _) 2⟩⟩
      · have e3 : (E == 3) = true := beq_iff_eq.2 h1
        have HRd := Aside0.mk h2
        clear h1 h2
        go_wp2_with (first
          | (go_at_call 34; refine (read_eq (by repeat (with_reducible first | exact HS.out | apply sl_drewN | apply sl_drew | apply sl_alloc)) 1 x.f0 300 HV2.out.1 HV2.out.2.1 HV2.out.2.2 HRk.out.1 HRk.out.2 (by rfl)).mono ?_; rintro e w1 ⟨A4, c4, rfl, hs⟩; (try simp only [World.size_alloc] at hs); replace HS := Aside0.mk hs; clear hs; obtain ⟨x0, x1, x2, _, _⟩ := HX.out _ (sl_below0 HS.out); obtain ⟨y0, y1, y2, _, _⟩ := HX.out _ (sl_below0 (sl_alloc HS.out (.cells #[.int .i64 x.f0, .int .u32 N, .slice A4 B.length c4] 25))))
          | (go_at_call 29; refine (Err_sl (by repeat (with_reducible first | exact HS.out | apply sl_drewN | apply sl_drew | apply sl_alloc)) 1 (by rfl)).mono ?_; rintro e w2 ⟨rfl, rfl⟩)
          | (go_at_call 33; refine (readable_c (by repeat (with_reducible first | exact HS.out | apply sl_drewN | apply sl_drew | apply sl_alloc)) x.f0 x.f1 A2 c2 _ x.f2 rfl (HX.out _ (sl_below0 (by repeat (with_reducible first | exact HS.out | apply sl_drewN | apply sl_drew | apply sl_alloc)))).2.2.2.1 HC2.out HB3.out).mono ?_; rw [HRd.out]; rintro e w1 ⟨rfl, hs⟩; (try simp only [World.size_alloc] at hs); replace HS := Aside0.mk hs; clear hs)
          | (go_at_call 11; refine (ex_c (by repeat (with_reducible first | exact HS.out | apply sl_drewN | apply sl_drew | apply sl_alloc))).mono ?_; rintro e w1 ⟨rfl, hs⟩; (try simp only [World.size_alloc] at hs); replace HS := Aside0.mk hs; clear hs))
        try rw [Exit.noGoto_ret]
        go_ret
        exact ⟨rfl, sl_below0 HS.out⟩
    · have b1 : decide (i < l.length) = false := decide_eq_false hlt
      have hil : i = l.length := by omega
      subst hil
      obtain rfl := CutI.out HV.out
      clear hlt hi
      go_wp2_with (first
      | (go_at_call 29; refine (Err_sl (u := []) (er := 4) (by repeat (with_reducible first | exact HS.out | apply sl_drewN | apply sl_drew | apply sl_alloc)) 1 (by rfl)).mono ?_; rintro e w2 ⟨rfl, rfl⟩)
      | (go_at_call 31; refine (End_sl (s := ⟨[], 4⟩) (by repeat (with_reducible first | exact HS.out | apply sl_drewN | apply sl_drew | apply sl_alloc)) 1 (by rfl)).mono ?_; rintro e w2 ⟨rfl, rfl⟩)
      | (go_at_call 27; refine (Left_sl (u := []) (er := 4) (by repeat (with_reducible first | exact HS.out | apply sl_drewN | apply sl_drew | apply sl_alloc)) 1 (by rfl)).mono ?_; rintro e w1 ⟨rfl, hs⟩; (try simp only [World.size_alloc] at hs); replace HS := Aside0.mk hs; clear hs)
      | (go_at_call 20; refine (Uint_sl (s := ⟨[], 4⟩) (by repeat (with_reducible first | exact HS.out | apply sl_drewN | apply sl_drew | apply sl_alloc)) 1 (by rfl)).mono ?_; rintro e w1 ⟨rfl, hs⟩; (try simp only [World.size_alloc] at hs); replace HS := Aside0.mk hs; clear hs)
      | (go_at_call 11; refine (ex_c (by repeat (with_reducible first | exact HS.out | apply sl_drewN | apply sl_drew | apply sl_alloc))).mono ?_; rintro e w1 ⟨rfl, hs⟩; (try simp only [World.size_alloc] at hs); replace HS := Aside0.mk hs; clear hs))
      try rw [Exit.noGoto_ret]
      go_ret
      exact ⟨rfl, sl_below0 HS.out⟩
end Go.Proofs.Ytmihibikhmldgaa.Q
