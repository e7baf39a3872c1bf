import Derived.Test.YtipmcklkflgppaaD0
namespace Go.Proofs.Ytipmcklkflgppaa.Q
open Go.RowKit Go.Proofs.YtipmcklkflgppaaW.PrintWords Go.Proofs.YtipmcklkflgppaaW.PrintLast Go.Proofs.YtipmcklkflgppaaW.PrintMore Go.Proofs.Ytipmcklkflgppaa.Sl Go.Proofs.Ytipmcklkflgppaa.Hand Go.Proofs.Ytipmcklkflgppaa.Plain
attribute [local go_sem] max2_int min2_int max_two min_two max_three min_three max_four min_four 
set_option linter.unusedVariables false
set_option linter.unusedSimpArgs false

def lastL (fs : List S25) : Int := ((encs fs.dropLast).length : Nat)
theorem lastL_add (fs : List S25) (f : S25) : lastL (fs ++ [f]) = ((encs fs).length : Nat) := by unfold lastL; rw [List.dropLast_concat]
theorem encs_add (fs : List S25) (f : S25) : encs (fs ++ [f]) = encs fs ++ enc f := by simp [encs]
set_option maxHeartbeats 16000000 in
set_option maxRecDepth 100000 in
theorem RoundTrip_calls (A : Option Addr) (c : Nat) (l : List S25) (w : World) (hr : Kd.C k25 w A l.length l) (hg : ∀ x ∈ l, (0 ≤ x.f0 ∧ x.f0 < 4294967296) ∧ ∀ y ∈ x.f2, 0 ≤ y ∧ y < 256) :
    Calls Try.prog 5 #[.slice A l.length c] w fun e w' => e = .returned (.bool true) ∧ Below w.heap.size w w' := by
  have HR := Aside0.mk hr
  have HG := Aside0.mk hg
  have hm := hr.2.1
  have HS := Aside0.mk (sl_start w)
  clear hr hg
  by_cases hl : 20 < l.length
  · have c1 : decide (20 < (l.length : Int)) = true := decide_eq_true (by omega)
    clear hl
    go_enter Try.func5, Try.ntmps5
    go_wp2_with (first
        | (go_at_call 10; refine (ex_sl (by repeat (with_reducible first | exact HS.out | apply sl_drewN | apply sl_drew | apply sl_alloc))).mono ?_; rintro e w1 ⟨rfl, hs⟩; (try simp only [World.size_alloc] at hs); replace HS := Aside0.mk hs; clear hs))
    go_ret
    exact ⟨rfl, sl_below0 HS.out⟩
  have c1 : decide (20 < (l.length : Int)) = false := decide_eq_false (by omega)
  have HL := Aside0.mk hl
  clear hl
  have HSS : Aside0 (SL w w [row8 (.slice none 0 0) [], rowF w (.slice none 0 0) []]) := ⟨sl_nilN (sl_nil HS.out (Kd.int .u8) enc8 5) k25 25⟩
  go_enter Try.func5, Try.ntmps5
  go_wp2_with (fail)
  go_loopg [3, 4, 5, 19] l.length (fun kq v3 v4 v5 v19 wr => ∃ (i : Nat) (fs : List S25) (Ab : Option Addr) (cb : Nat) (Af : Option Addr) (cf : Nat), v19 = .int .i64 (i : Int) ∧ v3 = .slice Ab (encs fs).length cb ∧ v4 = .slice Af fs.length cf ∧ v5 = .int .i64 (lastL fs) ∧ Aside0 (i + kq = l.length) ∧ Aside0 (∀ f ∈ fs, fitsP f) ∧ Aside0 (fs.length ≤ i ∧ (encs fs).length ≤ 4096 * i) ∧ Aside0 (SL w wr [row8 (.slice Ab (encs fs).length cb) (encs fs), rowF w (.slice Af fs.length cf) fs]))
  case atStart => exact ⟨0, [], none, 0, none, 0, rfl, rfl, rfl, rfl, ⟨by omega⟩, ⟨by simp⟩, ⟨by simp [encs]⟩, HSS⟩
  case round =>
    clear HSS HS
    obtain ⟨i, fs, Ab, cb, Af, cf, rfl, rfl, rfl, rfl, HI, HF, HN, HS⟩ := hrel
    have hi := HI.out
    have hl20 := HL.out
    obtain ⟨n1, n2⟩ := HN.out
    by_cases hlt : i < l.length
    · have b1 : decide (i < l.length) = true := decide_eq_true hlt
      obtain ⟨kq, rfl⟩ : ∃ m, gk = m + 1 := ⟨gk - 1, by omega⟩
      obtain ⟨ad, A2, c2, rfl, hc2, hx⟩ := atF HR.out i hlt
      have hgx := HG.out (rd_T25 l (i : Int)) (by
        unfold rd_T25
        rw [Int.toNat_natCast]
        simp [List.getD_eq_getElem?_getD, hlt])
      generalize rd_T25 l (i : Int) = x at hx hgx hc2
      have HX := Aside0.mk hx
      have HGx := Aside0.mk hgx
      have HC2 := Aside0.mk hc2
      obtain ⟨x0, x1, x2, _, _⟩ := hx _ (sl_below0 HS.out)
      have p1 : (0 : Int) ≤ (i : Int) := by omega
      have p2 : (i : Int) < (l.length : Int) := by omega
      clear hx hgx hc2 hlt hi hl20
      by_cases h5 : 5000 < x.f2.length
      · have b2 : decide (5000 < (x.f2.length : Int)) = true := decide_eq_true (by omega)
        clear h5
        go_wp2_with (first
        | (go_at_call 10; refine (ex_sl (by repeat (with_reducible first | exact HS.out | apply sl_drewN | apply sl_drew | apply sl_alloc))).mono ?_; rintro e w1 ⟨rfl, hs⟩; (try simp only [World.size_alloc] at hs); replace HS := Aside0.mk hs; clear hs))
        try rw [Exit.noGoto_ret]
        go_ret
        exact ⟨rfl, sl_below0 HS.out⟩
      have b2 : decide (5000 < (x.f2.length : Int)) = false := decide_eq_false (by omega)
      have H5 := Aside0.mk h5
      clear h5
      have tm : Int.tmod (x.f2.length : Int) 4 = (x.f2.length : Int) % 4 := Int.tmod_eq_emod_of_nonneg (by omega)
      by_cases h1 : 0 ≤ x.f1
      rotate_left
      · have g1 : decide (0 ≤ x.f1) = false := decide_eq_false h1
        have HNo := Aside0.mk (show ¬ fitsB x from fun h => h1 h.1)
        clear h1 tm
        go_wp2_with (first
        | (go_at_call 11; refine (Put_no (by repeat (with_reducible first | exact HS.out | apply sl_drewN | apply sl_drew | apply sl_alloc)) x A2 c2 HNo.out (by have := H5.out; omega) (HX.out _ (sl_below0 (by repeat (with_reducible first | exact HS.out | apply sl_drewN | apply sl_drew | apply sl_alloc)))).2.2.2.1 HC2.out).mono ?_; rintro e w1 ⟨A3, c3, er, rfl, her, hs⟩; (try simp only [World.size_alloc] at hs); replace HS := Aside0.mk hs; clear hs; obtain ⟨x0, x1, x2, _, _⟩ := HX.out _ (sl_below0 HS.out)))
        go_roundg kq
        case measure => omega
        case rel => exact ⟨i + 1, fs, Ab, cb, Af, cf, rfl, rfl, rfl, rfl, ⟨by have := HI.out; omega⟩, HF, ⟨by omega⟩, HS⟩
      have g1 : decide (0 ≤ x.f1) = true := decide_eq_true h1
      by_cases h2 : x.f1 ≤ 65535
      rotate_left
      · have g2 : decide (x.f1 ≤ 65535) = false := decide_eq_false h2
        have HNo := Aside0.mk (show ¬ fitsB x from fun h => h2 h.2.1)
        clear h1 h2 tm
        go_wp2_with (first
        | (go_at_call 11; refine (Put_no (by repeat (with_reducible first | exact HS.out | apply sl_drewN | apply sl_drew | apply sl_alloc)) x A2 c2 HNo.out (by have := H5.out; omega) (HX.out _ (sl_below0 (by repeat (with_reducible first | exact HS.out | apply sl_drewN | apply sl_drew | apply sl_alloc)))).2.2.2.1 HC2.out).mono ?_; rintro e w1 ⟨A3, c3, er, rfl, her, hs⟩; (try simp only [World.size_alloc] at hs); replace HS := Aside0.mk hs; clear hs; obtain ⟨x0, x1, x2, _, _⟩ := HX.out _ (sl_below0 HS.out)))
        go_roundg kq
        case measure => omega
        case rel => exact ⟨i + 1, fs, Ab, cb, Af, cf, rfl, rfl, rfl, rfl, ⟨by have := HI.out; omega⟩, HF, ⟨by omega⟩, HS⟩
      have g2 : decide (x.f1 ≤ 65535) = true := decide_eq_true h2
      by_cases h3 : (x.f2.length : Int) % 4 = 0
      rotate_left
      · have g3 : ((x.f2.length : Int) % 4 = 0) = False := eq_false h3
        have HNo := Aside0.mk (show ¬ fitsB x from fun h => h3 h.2.2.1)
        clear h1 h2 h3 tm
        go_wp2_with (first
        | (go_at_call 11; refine (Put_no (by repeat (with_reducible first | exact HS.out | apply sl_drewN | apply sl_drew | apply sl_alloc)) x A2 c2 HNo.out (by have := H5.out; omega) (HX.out _ (sl_below0 (by repeat (with_reducible first | exact HS.out | apply sl_drewN | apply sl_drew | apply sl_alloc)))).2.2.2.1 HC2.out).mono ?_; rintro e w1 ⟨A3, c3, er, rfl, her, hs⟩; (try simp only [World.size_alloc] at hs); replace HS := Aside0.mk hs; clear hs; obtain ⟨x0, x1, x2, _, _⟩ := HX.out _ (sl_below0 HS.out)))
        go_roundg kq
        case measure => omega
        case rel => exact ⟨i + 1, fs, Ab, cb, Af, cf, rfl, rfl, rfl, rfl, ⟨by have := HI.out; omega⟩, HF, ⟨by omega⟩, HS⟩
      have g3 : ((x.f2.length : Int) % 4 = 0) = True := eq_true h3
      have g3b : ((x.f2.length : Int) % 4 == 0) = true := beq_iff_eq.2 h3
      by_cases h4 : x.f2.length ≤ 4088
      rotate_left
      · have g4 : decide ((x.f2.length : Int) ≤ 4088) = false := decide_eq_false (by omega)
        have HNo := Aside0.mk (show ¬ fitsB x from fun h => h4 h.2.2.2)
        clear h1 h2 h3 h4 tm
        go_wp2_with (first
        | (go_at_call 11; refine (Put_no (by repeat (with_reducible first | exact HS.out | apply sl_drewN | apply sl_drew | apply sl_alloc)) x A2 c2 HNo.out (by have := H5.out; omega) (HX.out _ (sl_below0 (by repeat (with_reducible first | exact HS.out | apply sl_drewN | apply sl_drew | apply sl_alloc)))).2.2.2.1 HC2.out).mono ?_; rintro e w1 ⟨A3, c3, er, rfl, her, hs⟩; (try simp only [World.size_alloc] at hs); replace HS := Aside0.mk hs; clear hs; obtain ⟨x0, x1, x2, _, _⟩ := HX.out _ (sl_below0 HS.out)))
        go_roundg kq
        case measure => omega
        case rel => exact ⟨i + 1, fs, Ab, cb, Af, cf, rfl, rfl, rfl, rfl, ⟨by have := HI.out; omega⟩, HF, ⟨by omega⟩, HS⟩
      have g4 : decide ((x.f2.length : Int) ≤ 4088) = true := decide_eq_true (by omega)
      have HYes := Aside0.mk (show fitsB x from ⟨h1, h2, h3, h4⟩)
      have HFx := Aside0.mk (show fitsP x from ⟨HGx.out.1.1, HGx.out.1.2, h1, h2, h3, h4, HGx.out.2⟩)
      have hen := enc_len x
      have hq : (encs fs).length + (enc x).length ≤ 100000 := by have := HI.out; have := HL.out; omega
      have hq2 : fs.length ≤ 100 := by have := HI.out; have := HL.out; omega
      have HEN := Aside0.mk hen
      clear h1 h2 h3 tm hen
      go_wp2_with (first
        | (go_at_call 11; refine (Put_yes (by repeat (with_reducible first | exact HS.out | apply sl_drewN | apply sl_drew | apply sl_alloc)) x A2 c2 HYes.out (HX.out _ (sl_below0 (by repeat (with_reducible first | exact HS.out | apply sl_drewN | apply sl_drew | apply sl_alloc)))).2.2.2.1 HC2.out).mono ?_; rintro e w1 ⟨A9, c9, rfl, hs⟩; (try simp only [World.size_alloc] at hs); replace HS := Aside0.mk hs; clear hs; obtain ⟨x0, x1, x2, _, _⟩ := HX.out _ (sl_below0 HS.out))
        | (at_builtin; refine app8 (by repeat (with_reducible first | exact HS.out | apply sl_drewN | apply sl_drew | apply sl_alloc)) 0 (.slice Ab (encs fs).length cb) (encs fs) (enc x) rfl (.tmp 87) (.tmp 88) rfl rfl rfl (by rfl) (sl_readsN' (by repeat (with_reducible first | exact HS.out | apply sl_drewN | apply sl_drew | apply sl_alloc)) 2 (by rfl)).2.2 (by omega) ?_; intro A3 c3 w2 hs; (try simp only [World.size_alloc] at hs); replace HS := Aside0.mk hs; clear hs; obtain ⟨x0, x1, x2, _, _⟩ := HX.out _ (sl_below0 HS.out))
        | (at_builtin; refine appF (by repeat (with_reducible first | exact HS.out | apply sl_drewN | apply sl_drew | apply sl_alloc)) 1 (.slice Af fs.length cf) fs x A2 c2 rfl (.tmp 90) (.tmp 95) rfl (HX.out _ (sl_below0 (by repeat (with_reducible first | exact HS.out | apply sl_drewN | apply sl_drew | apply sl_alloc)))).2.2.2.2 rfl rfl (by rfl) (by omega) ?_; intro A4 c4 w3 hs; (try simp only [World.size_alloc] at hs); replace HS := Aside0.mk hs; clear hs))
      go_roundg kq
      case measure => omega
      case rel =>
        have e1 := encs_add fs x
        have e2 : (encs fs ++ enc x).length = (encs fs).length + (enc x).length := List.length_append
        refine ⟨i + 1, fs ++ [x], A3, c3, A4, c4, rfl, by rw [e1, e2], by rw [List.length_append, List.length_singleton], by rw [lastL_add], ⟨by have := HI.out; omega⟩, ⟨fun f hf => ?_⟩, ⟨by rw [List.length_append, List.length_singleton, e1, e2]; have := HEN.out; omega⟩, ⟨?_⟩⟩
        · rcases List.mem_append.1 hf with hf | hf
          · exact HF.out f hf
          · rw [List.mem_singleton.1 hf]; exact HFx.out
        · rw [e1, e2, List.length_append, List.length_singleton]
          exact sl_take HS.out 2
    · have b1 : decide (i < l.length) = false := decide_eq_false hlt
      clear hlt hi hl20
      have hbyte := HF.out
      have HB := Aside0.mk (encs_byte HF.out)
      have HA := Aside0.mk (sp_all fs HF.out)
      clear hbyte
      have hq : (encs fs).length ≤ 1000000 := by have := HI.out; have := HL.out; omega
      have hq2 : fs.length ≤ 1000000 := by have := HI.out; have := HL.out; omega
      clear n1 n2
      by_cases h0 : fs = []
      · have b2 : (0 < fs.length) = False := eq_false (by rw [h0]; simp)
        clear h0
        go_wp2_with (first
          | (go_at_call 13; refine (Split_sl (by repeat (with_reducible first | exact HS.out | apply sl_drewN | apply sl_drew | apply sl_alloc)) Ab cb (encs fs) (by omega) HB.out (sl_reads' flat8 (by repeat (with_reducible first | exact HS.out | apply sl_drewN | apply sl_drew | apply sl_alloc)) 0 (by rfl)) (sl_cap flat8 (by repeat (with_reducible first | exact HS.out | apply sl_drewN | apply sl_drew | apply sl_alloc)) 0 (by rfl)) HA.out).mono ?_; rintro e w1 ⟨A5, c5, rfl, hs⟩; (try simp only [World.size_alloc] at hs); replace HS := Aside0.mk hs; clear hs)
          | (go_at_call 15; refine (same_yes fs (by omega) (sl_readsN' (by repeat (with_reducible first | exact HS.out | apply sl_drewN | apply sl_drew | apply sl_alloc)) 2 (by rfl)).2.2 (sl_readsN' (by repeat (with_reducible first | exact HS.out | apply sl_drewN | apply sl_drew | apply sl_alloc)) 2 (by rfl)).2.1 (sl_readsN' (by repeat (with_reducible first | exact HS.out | apply sl_drewN | apply sl_drew | apply sl_alloc)) 1 (by rfl)).2.2 (sl_readsN' (by repeat (with_reducible first | exact HS.out | apply sl_drewN | apply sl_drew | apply sl_alloc)) 1 (by rfl)).2.1).mono ?_; rintro e w1 ⟨rfl, ⟨nd, rfl⟩⟩)
          | (go_at_call 10; refine (ex_sl (by repeat (with_reducible first | exact HS.out | apply sl_drewN | apply sl_drew | apply sl_alloc))).mono ?_; rintro e w1 ⟨rfl, hs⟩; (try simp only [World.size_alloc] at hs); replace HS := Aside0.mk hs; clear hs))
        go_ret
        exact ⟨rfl, sl_below0 HS.out⟩
      · have b2 : (0 < fs.length) = True := eq_true (List.length_pos_iff.2 h0)
        obtain ⟨gs, f, hgf⟩ : ∃ gs f, fs = gs ++ [f] := ⟨fs.dropLast, fs.getLast h0, (List.dropLast_concat_getLast h0).symm⟩
        have hgl : fs.length = gs.length + 1 := by rw [hgf]; simp
        have hel : (encs fs).length = (encs gs).length + (enc f).length := by rw [hgf, encs_add, List.length_append]
        have hen := enc_len f
        have HLast := Aside0.mk (show sp ((encs fs).take ((encs fs).length - 1)) = (gs, (((encs gs).length : Nat) : Int), 0) by
          have h2 := HF.out
          rw [hgf] at h2 ⊢
          exact sp_last gs f (fun g hg => h2 g (by simp [hg])) (h2 f (by simp)))
        have hll : lastL fs = (((encs gs).length : Nat) : Int) := by rw [hgf]; exact lastL_add gs f
        have HGF := Aside0.mk hgf
        have k1 := sl_cap flat8 HS.out 0 (by rfl)
        have k2 := (sl_readsN' HS.out 1 (by rfl)).2.1
        have p3 : (1 : Int) ≤ ((encs fs).length : Int) := by omega
        have p4 : ((encs fs).length : Int) - 1 ≤ (cb : Int) := by omega
        have p5 : (1 : Int) ≤ (fs.length : Int) := by omega
        have p6 : (fs.length : Int) - 1 ≤ (cf : Int) := by omega
        clear h0 hgf k1 k2 hgl hel hen
        go_upto_region 24 with (first
          | (go_at_call 13; refine (Split_sl (by repeat (with_reducible first | exact HS.out | apply sl_drewN | apply sl_drew | apply sl_alloc)) Ab cb (encs fs) (by omega) HB.out (sl_reads' flat8 (by repeat (with_reducible first | exact HS.out | apply sl_drewN | apply sl_drew | apply sl_alloc)) 0 (by rfl)) (sl_cap flat8 (by repeat (with_reducible first | exact HS.out | apply sl_drewN | apply sl_drew | apply sl_alloc)) 0 (by rfl)) HA.out).mono ?_; rintro e w1 ⟨A5, c5, rfl, hs⟩; (try simp only [World.size_alloc] at hs); replace HS := Aside0.mk hs; clear hs)
          | (go_at_call 15; refine (same_yes fs (by omega) (sl_readsN' (by repeat (with_reducible first | exact HS.out | apply sl_drewN | apply sl_drew | apply sl_alloc)) 2 (by rfl)).2.2 (sl_readsN' (by repeat (with_reducible first | exact HS.out | apply sl_drewN | apply sl_drew | apply sl_alloc)) 2 (by rfl)).2.1 (sl_readsN' (by repeat (with_reducible first | exact HS.out | apply sl_drewN | apply sl_drew | apply sl_alloc)) 1 (by rfl)).2.2 (sl_readsN' (by repeat (with_reducible first | exact HS.out | apply sl_drewN | apply sl_drew | apply sl_alloc)) 1 (by rfl)).2.1).mono ?_; rintro e w1 ⟨rfl, ⟨nd, rfl⟩⟩)
          | (go_at_call 10; refine (ex_sl (by repeat (with_reducible first | exact HS.out | apply sl_drewN | apply sl_drew | apply sl_alloc))).mono ?_; rintro e w1 ⟨rfl, hs⟩; (try simp only [World.size_alloc] at hs); replace HS := Aside0.mk hs; clear hs))
        go_wp2_with (first
          | (go_at_call 13; refine (Split_cut (by repeat (with_reducible first | exact HS.out | apply sl_drewN | apply sl_drew | apply sl_alloc)) Ab cb (encs fs) (by omega) HB.out (sl_reads' flat8 (by repeat (with_reducible first | exact HS.out | apply sl_drewN | apply sl_drew | apply sl_alloc)) 0 (by rfl)) (sl_cap flat8 (by repeat (with_reducible first | exact HS.out | apply sl_drewN | apply sl_drew | apply sl_alloc)) 0 (by rfl)) HLast.out).mono ?_; rintro e w1 ⟨A6, c6, rfl, hs⟩; (try simp only [World.size_alloc] at hs); replace HS := Aside0.mk hs; clear hs)
          | (go_at_call 15; refine (same_cut fs gs f HGF.out (by omega) (sl_readsN' (by repeat (with_reducible first | exact HS.out | apply sl_drewN | apply sl_drew | apply sl_alloc)) 3 (by rfl)).2.2 (sl_readsN' (by repeat (with_reducible first | exact HS.out | apply sl_drewN | apply sl_drew | apply sl_alloc)) 3 (by rfl)).2.1 (sl_readsN' (by repeat (with_reducible first | exact HS.out | apply sl_drewN | apply sl_drew | apply sl_alloc)) 1 (by rfl)).2.2 (sl_readsN' (by repeat (with_reducible first | exact HS.out | apply sl_drewN | apply sl_drew | apply sl_alloc)) 1 (by rfl)).2.1).mono ?_; rintro e w1 ⟨rfl, ⟨nd, rfl⟩⟩)
          | (go_at_call 10; refine (ex_sl (by repeat (with_reducible first | exact HS.out | apply sl_drewN | apply sl_drew | apply sl_alloc))).mono ?_; rintro e w1 ⟨rfl, hs⟩; (try simp only [World.size_alloc] at hs); replace HS := Aside0.mk hs; clear hs))
        go_ret
        exact ⟨rfl, sl_below0 HS.out⟩
end Go.Proofs.Ytipmcklkflgppaa.Q
