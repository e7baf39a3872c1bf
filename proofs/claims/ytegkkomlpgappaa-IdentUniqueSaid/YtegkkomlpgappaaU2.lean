import Derived.Test.YtegkkomlpgappaaU1
namespace Go.Proofs.Ytegkkomlpgappaa.Q
open Go.RowKit Go.Proofs.YtegkkomlpgappaaW.PrintWords Go.Proofs.YtegkkomlpgappaaW.PrintLast Go.Proofs.YtegkkomlpgappaaW.PrintMore Go.Proofs.Ytegkkomlpgappaa.Sl Go.Proofs.Ytegkkomlpgappaa.Hand 
attribute [local go_sem] max2_int min2_int max_two min_two max_three min_three max_four min_four 
set_option linter.unusedVariables false
set_option linter.unusedSimpArgs false

theorem has_r {w0 w : World} {L : List Res} (h : SL w0 w L) (i : Nat) {A : Option Addr} {c n : Nat} {l : List Int} (x : Int) (hi : L[i]? = some (row32 (.slice A n c) l)) (hl : l.length ≤ 1000000) :
    Calls Try.prog 21 #[.slice A n c, .int .u32 x] w fun e w' => e = .returned (.bool (decide (x ∈ l))) ∧ SL w0 w' L := by
  obtain ⟨h1, h2, h3⟩ := sl_read32 h i hi
  exact has_c h A c n l x h1 h3 (by omega) hl
set_option maxHeartbeats 16000000 in
set_option maxRecDepth 100000 in
theorem Unique_law (b : Bool) (A : Option Addr) (c : Nat) (l : List S39) (w : World) (hr : Kd.C k39 w A l.length l) (hc : l.length ≤ c) (hid : Ids l) :
    Calls Try.prog 5 #[.bool b, .slice A l.length c] w fun e w' => e = .returned (.bool true) ∧ Below w.heap.size w w' := by
  have HS := Aside0.mk (sl_start w)
  have HR := Aside0.mk hr
  have HId := Aside0.mk hid
  have hm := hr.2.1
  clear hr hc hid
  by_cases hl : 400 < l.length
  · have d1 : decide (400 < (l.length : Int)) = true := decide_eq_true (by omega)
    clear hl
    go_enter Try.func5, Try.ntmps5
    go_wp2_with (first
    | (go_at_call 14; refine (ex_c (by repeat (with_reducible first | exact HS.out | apply sl_drewN | apply sl_drew | apply sl_alloc))).mono ?_; rintro e w1 ⟨rfl, hs⟩; (try simp only [World.size_alloc] at hs); replace HS := Aside0.mk hs; clear hs))
    go_ret
    exact ⟨rfl, sl_below0 HS.out⟩
  have d1 : decide (400 < (l.length : Int)) = false := decide_eq_false (by omega)
  have hl3 : l.length ≤ 400 := by omega
  obtain ⟨f0, hf0⟩ : ∃ f0, fstI b - 1 = f0 := ⟨_, rfl⟩
  have HN := Aside0.mk (show ∀ {w' : World} {L : List Res}, SL w w' L → Calls Try.prog 8 #[.bool b] w' fun e w'' => ∃ g : Nat, e = .returned (.pointer (some ⟨g, 0, none⟩)) ∧ SL w w'' (L ++ [tabR g ⟨b, [], [], f0⟩]) from fun h => hf0 ▸ New_sl h b)
  have HG0 := Aside0.mk (show UI ⟨b, [], [], f0⟩ 0 from hf0 ▸ UI.start b)
  clear hl hf0
  go_enter Try.func5, Try.ntmps5
  go_wp2_with (first
    | (go_at_call 8; refine (HN.out (by repeat (with_reducible first | exact HS.out | apply sl_drewN | apply sl_drew | apply sl_alloc))).mono ?_; rintro e w1 ⟨g, rfl, hs⟩; (try simp only [World.size_alloc] at hs); replace HS := Aside0.mk hs; clear hs))
  have HSS : Aside0 (SL w _ [tabR g ⟨b, [], [], f0⟩, row32 (.slice none 0 0) [], row32 (.slice none 0 0) []]) := ⟨sl_nil32 (sl_nil32 HS.out)⟩
  go_loopg [6, 7, 20] l.length (fun kq v6 v7 v20 wr => ∃ (i : Nat) (s : TSt) (Al Ar : Option Addr) (cl cr : Nat), v20 = .int .i64 (i : Int) ∧ v6 = .slice Al s.live.length cl ∧ v7 = .slice Ar s.rel.length cr ∧ Aside0 (i + kq = l.length) ∧ Aside0 (UI s i ∧ s.srv = b) ∧ Aside0 (SL w wr [tabR g s, row32 (.slice Al s.live.length cl) s.live, row32 (.slice Ar s.rel.length cr) s.rel]))
  case atStart => exact ⟨0, ⟨b, [], [], f0⟩, none, none, 0, 0, rfl, rfl, rfl, ⟨by omega⟩, ⟨⟨HG0.out, rfl⟩⟩, HSS⟩
  case round =>
    clear HSS HS HG0
    obtain ⟨i, s, Al, Ar, cl, cr, rfl, rfl, rfl, HI, HV, HS⟩ := hrel
    have hi := HI.out
    have hgi := HV.out.1
    have hll := hgi.ll
    have hrl := hgi.rl
    by_cases hlt : i < l.length
    · have b1 : decide (i < l.length) = true := decide_eq_true hlt
      obtain ⟨kq, rfl⟩ : ∃ m, gk = m + 1 := ⟨gk - 1, by omega⟩
      obtain ⟨ad, rfl, hx⟩ := atO HR.out i hlt
      obtain ⟨u0, u1⟩ := HId.out l[i] (List.getElem_mem hlt)
      obtain ⟨t1, t2, t5, t3, t4⟩ := hgi.step (by omega) l[i].f0 l[i].f1 u0 u1
      have HOk := Aside0.mk (hgi.ok (by omega))
      obtain ⟨V, hV⟩ : ∃ V, doV s l[i].f0 l[i].f1 = V := ⟨_, rfl⟩
      obtain ⟨E, hE⟩ : ∃ E, doE s l[i].f0 l[i].f1 = E := ⟨_, rfl⟩
      obtain ⟨S, hS⟩ : ∃ S, doS s l[i].f0 l[i].f1 = S := ⟨_, rfl⟩
      rw [hE, hV, hS] at t3
      rw [hE, hS] at t4
      rw [hS] at t1 t2
      rw [hV] at t5
      generalize l[i] = x at hx u0 u1 t3 t4 hV hE hS
      have HD := Aside0.mk (And.intro hV (And.intro hE hS))
      have HU := Aside0.mk (And.intro u0 u1)
      have HG := Aside0.mk (And.intro t1 (t2.trans HV.out.2))
      obtain ⟨v0, v1⟩ := t5
      have p1 : (0 : Int) ≤ (i : Int) := by omega
      have p2 : (i : Int) < (l.length : Int) := by omega
      obtain ⟨k, hk⟩ : ∃ k, x.f0 = k := ⟨_, rfl⟩
      rw [hk] at t3 hx HD
      have HX := Aside0.mk hx
      obtain ⟨x0, x1⟩ := hx _ (sl_below0 HS.out)
      have hbs := HV.out.2
      have q3 : s.live.length ≤ 100000 := by omega
      have q4 : s.rel.length ≤ 100000 := by omega
      clear hx u0 u1 hlt hi hV hE hS t1 t2 hgi hk hrl
      by_cases c1 : E = 0
      rotate_left
      · have z : (E == 0) = false := beq_eq_false_iff_ne.2 c1
        have z' : (E != 0) = true := bne_iff_ne.2 c1
        obtain rfl := t4 c1
        clear t3 t4 c1 hbs
        go_wp2_with (first
          | (go_at_call 16; refine (do_eq (by repeat (with_reducible first | exact HS.out | apply sl_drewN | apply sl_drew | apply sl_alloc)) 0 HD.out.1 HD.out.2.1 HD.out.2.2 HOk.out HU.out.1 HU.out.2 (by rfl)).mono ?_; rintro e w1 ⟨rfl, hs⟩; (try simp only [World.size_alloc] at hs); replace HS := Aside0.mk hs; clear hs; obtain ⟨x0, x1⟩ := HX.out _ (sl_below0 HS.out)))
        go_roundg kq
        case measure => omega
        case rel => exact ⟨i + 1, S, Al, Ar, cl, cr, rfl, rfl, rfl, ⟨by have := HI.out; omega⟩, ⟨HG.out⟩, ⟨HS.out⟩⟩
      have z : (E == 0) = true := beq_iff_eq.2 c1
      have z' : (E != 0) = false := bne_eq_false_iff_eq.2 c1
      have hd := t3 c1
      clear t3 t4 c1
      by_cases k01 : k = 0 ∨ k = 1
      · obtain ⟨n1, n2, n3, n4, n5, n6⟩ := hd.a k01
        have b2 : decide (V ∈ s.live) = false := decide_eq_false n1
        have b3 : decide (V ∈ s.rel) = false := decide_eq_false n2
        have b4 : (V == 0) = false := beq_eq_false_iff_ne.2 fun h => n3.1 (.inl h)
        obtain ⟨q, hq⟩ : ∃ q, decide (4278190080 ≤ V) = q := ⟨_, rfl⟩
        have hbq : b = q := Decidable.byContradiction fun h => n3.1 (.inr (by rw [hbs, hq]; exact h))
        subst hbq
        have b5 : decide (256 ≤ (s.live.length : Int)) = false := decide_eq_false (by omega)
        have b6 : decide (V ∈ s.live ++ [V]) = true := decide_eq_true (by simp)
        have HLr := Aside0.mk (And.intro n5 n6)
        clear hd n1 n2 n3 n4 hbs hll n5 n6
        rcases k01 with rfl | rfl
        · go_wp2_with (first
            | (go_at_call 16; refine (do_eq (by repeat (with_reducible first | exact HS.out | apply sl_drewN | apply sl_drew | apply sl_alloc)) 0 HD.out.1 HD.out.2.1 HD.out.2.2 HOk.out HU.out.1 HU.out.2 (by rfl)).mono ?_; rintro e w1 ⟨rfl, hs⟩; (try simp only [World.size_alloc] at hs); replace HS := Aside0.mk hs; clear hs; obtain ⟨x0, x1⟩ := HX.out _ (sl_below0 HS.out))
            | (go_at_call 21; with_reducible refine (has_r (by repeat (with_reducible first | exact HS.out | apply sl_drewN | apply sl_drew | apply sl_alloc)) 1 (l := s.live) V rfl (by omega)).mono ?_; rw [b2]; rintro e w1 ⟨rfl, hs⟩; (try simp only [World.size_alloc] at hs); replace HS := Aside0.mk hs; clear hs; try obtain ⟨x0, x1⟩ := HX.out _ (sl_below0 HS.out))
            | (go_at_call 21; with_reducible refine (has_r (by repeat (with_reducible first | exact HS.out | apply sl_drewN | apply sl_drew | apply sl_alloc)) 2 (l := s.rel) V rfl (by omega)).mono ?_; rw [b3]; rintro e w1 ⟨rfl, hs⟩; (try simp only [World.size_alloc] at hs); replace HS := Aside0.mk hs; clear hs; try obtain ⟨x0, x1⟩ := HX.out _ (sl_below0 HS.out))
            | (at_builtin; refine app32 (by repeat (with_reducible first | exact HS.out | apply sl_drewN | apply sl_drew | apply sl_alloc)) 1 (.slice Al s.live.length cl) s.live V rfl (.tmp 72) (.tmp 74) rfl rfl rfl (by rfl) (by omega) ?_; intro A3 c3 w3 hs; (try simp only [World.size_alloc] at hs); replace HS := Aside0.mk hs; clear hs; obtain ⟨x0, x1⟩ := HX.out _ (sl_below0 HS.out))
            | (go_at_call 11; refine (Count_sl (by repeat (with_reducible first | exact HS.out | apply sl_drewN | apply sl_drew | apply sl_alloc)) 0 (by rfl)).mono ?_; rw [HLr.out.1]; (try rw [List.length_append, List.length_singleton]); rintro e w1 ⟨rfl, hs⟩; (try simp only [World.size_alloc] at hs); replace HS := Aside0.mk hs; clear hs)
            | (go_at_call 19; refine (Live_sl (by repeat (with_reducible first | exact HS.out | apply sl_drewN | apply sl_drew | apply sl_alloc)) 0 _ (by rfl) v0 v1).mono ?_; rw [HLr.out.1, b6]; rintro e w1 ⟨rfl, hs⟩; (try simp only [World.size_alloc] at hs); replace HS := Aside0.mk hs; clear hs)
            | (go_at_call 21; with_reducible refine (has_r (by repeat (with_reducible first | exact HS.out | apply sl_drewN | apply sl_drew | apply sl_alloc)) 1 (l := s.live ++ [V]) V rfl (by rw [List.length_append, List.length_singleton]; omega)).mono ?_; rw [b6]; rintro e w1 ⟨rfl, hs⟩; (try simp only [World.size_alloc] at hs); replace HS := Aside0.mk hs; clear hs))
          go_roundg kq
          case measure => omega
          case rel =>
            refine ⟨i + 1, S, A3, Ar, c3, cr, rfl, by rw [HLr.out.1, List.length_append, List.length_singleton], by rw [HLr.out.2], ⟨by have := HI.out; omega⟩, ⟨HG.out⟩, ⟨?_⟩⟩
            rw [HLr.out.1, HLr.out.2, List.length_append, List.length_singleton]
            exact HS.out
        · go_wp2_with (first
            | (go_at_call 16; refine (do_eq (by repeat (with_reducible first | exact HS.out | apply sl_drewN | apply sl_drew | apply sl_alloc)) 0 HD.out.1 HD.out.2.1 HD.out.2.2 HOk.out HU.out.1 HU.out.2 (by rfl)).mono ?_; rintro e w1 ⟨rfl, hs⟩; (try simp only [World.size_alloc] at hs); replace HS := Aside0.mk hs; clear hs; obtain ⟨x0, x1⟩ := HX.out _ (sl_below0 HS.out))
            | (go_at_call 21; with_reducible refine (has_r (by repeat (with_reducible first | exact HS.out | apply sl_drewN | apply sl_drew | apply sl_alloc)) 1 (l := s.live) V rfl (by omega)).mono ?_; rw [b2]; rintro e w1 ⟨rfl, hs⟩; (try simp only [World.size_alloc] at hs); replace HS := Aside0.mk hs; clear hs; try obtain ⟨x0, x1⟩ := HX.out _ (sl_below0 HS.out))
            | (go_at_call 21; with_reducible refine (has_r (by repeat (with_reducible first | exact HS.out | apply sl_drewN | apply sl_drew | apply sl_alloc)) 2 (l := s.rel) V rfl (by omega)).mono ?_; rw [b3]; rintro e w1 ⟨rfl, hs⟩; (try simp only [World.size_alloc] at hs); replace HS := Aside0.mk hs; clear hs; try obtain ⟨x0, x1⟩ := HX.out _ (sl_below0 HS.out))
            | (at_builtin; refine app32 (by repeat (with_reducible first | exact HS.out | apply sl_drewN | apply sl_drew | apply sl_alloc)) 1 (.slice Al s.live.length cl) s.live V rfl (.tmp 72) (.tmp 74) rfl rfl rfl (by rfl) (by omega) ?_; intro A3 c3 w3 hs; (try simp only [World.size_alloc] at hs); replace HS := Aside0.mk hs; clear hs; obtain ⟨x0, x1⟩ := HX.out _ (sl_below0 HS.out))
            | (go_at_call 11; refine (Count_sl (by repeat (with_reducible first | exact HS.out | apply sl_drewN | apply sl_drew | apply sl_alloc)) 0 (by rfl)).mono ?_; rw [HLr.out.1]; (try rw [List.length_append, List.length_singleton]); rintro e w1 ⟨rfl, hs⟩; (try simp only [World.size_alloc] at hs); replace HS := Aside0.mk hs; clear hs)
            | (go_at_call 19; refine (Live_sl (by repeat (with_reducible first | exact HS.out | apply sl_drewN | apply sl_drew | apply sl_alloc)) 0 _ (by rfl) v0 v1).mono ?_; rw [HLr.out.1, b6]; rintro e w1 ⟨rfl, hs⟩; (try simp only [World.size_alloc] at hs); replace HS := Aside0.mk hs; clear hs)
            | (go_at_call 21; with_reducible refine (has_r (by repeat (with_reducible first | exact HS.out | apply sl_drewN | apply sl_drew | apply sl_alloc)) 1 (l := s.live ++ [V]) V rfl (by rw [List.length_append, List.length_singleton]; omega)).mono ?_; rw [b6]; rintro e w1 ⟨rfl, hs⟩; (try simp only [World.size_alloc] at hs); replace HS := Aside0.mk hs; clear hs))
          go_roundg kq
          case measure => omega
          case rel =>
            refine ⟨i + 1, S, A3, Ar, c3, cr, rfl, by rw [HLr.out.1, List.length_append, List.length_singleton], by rw [HLr.out.2], ⟨by have := HI.out; omega⟩, ⟨HG.out⟩, ⟨?_⟩⟩
            rw [HLr.out.1, HLr.out.2, List.length_append, List.length_singleton]
            exact HS.out
      by_cases k2 : k = 2
      · obtain ⟨n1, n5, n6⟩ := hd.r k2
        have b2 : decide (V ∈ s.live) = true := decide_eq_true n1
        have b6 : decide (V ∈ delS s.live V) = false := decide_eq_false fun h => (mem_delS.1 h).2 rfl
        have q5 : (delS s.live V).length ≤ 100000 := Nat.le_trans (List.length_filter_le _ _) q3
        have HLr := Aside0.mk (And.intro n5 n6)
        clear hd n1 hbs hll n5 n6 k01
        subst k2
        go_wp2_with (first
        | (go_at_call 16; refine (do_eq (by repeat (with_reducible first | exact HS.out | apply sl_drewN | apply sl_drew | apply sl_alloc)) 0 HD.out.1 HD.out.2.1 HD.out.2.2 HOk.out HU.out.1 HU.out.2 (by rfl)).mono ?_; rintro e w1 ⟨rfl, hs⟩; (try simp only [World.size_alloc] at hs); replace HS := Aside0.mk hs; clear hs; obtain ⟨x0, x1⟩ := HX.out _ (sl_below0 HS.out))
        | (go_at_call 21; with_reducible refine (has_r (by repeat (with_reducible first | exact HS.out | apply sl_drewN | apply sl_drew | apply sl_alloc)) 1 (l := s.live) V rfl (by omega)).mono ?_; rw [b2]; rintro e w1 ⟨rfl, hs⟩; (try simp only [World.size_alloc] at hs); replace HS := Aside0.mk hs; clear hs; try obtain ⟨x0, x1⟩ := HX.out _ (sl_below0 HS.out))
        | (go_at_call 22; refine (without_c (by repeat (with_reducible first | exact HS.out | apply sl_drewN | apply sl_drew | apply sl_alloc)) _ _ _ s.live V rfl (sl_read32 (by repeat (with_reducible first | exact HS.out | apply sl_drewN | apply sl_drew | apply sl_alloc)) 1 (by rfl)).2.2 (sl_read32 (by repeat (with_reducible first | exact HS.out | apply sl_drewN | apply sl_drew | apply sl_alloc)) 1 (by rfl)).2.1 (by omega)).mono ?_; rintro e w1 ⟨A3, c3, rfl, hs⟩; (try simp only [World.size_alloc] at hs); replace HS := Aside0.mk hs; clear hs; obtain ⟨x0, x1⟩ := HX.out _ (sl_below0 HS.out))
        | (at_builtin; refine app32 (by repeat (with_reducible first | exact HS.out | apply sl_drewN | apply sl_drew | apply sl_alloc)) 2 (.slice Ar s.rel.length cr) s.rel V rfl (.tmp 85) (.tmp 87) rfl rfl rfl (by rfl) (by omega) ?_; intro A4 c4 w3 hs; (try simp only [World.size_alloc] at hs); replace HS := Aside0.mk hs; clear hs; obtain ⟨x0, x1⟩ := HX.out _ (sl_below0 HS.out))
        | (go_at_call 11; refine (Count_sl (by repeat (with_reducible first | exact HS.out | apply sl_drewN | apply sl_drew | apply sl_alloc)) 0 (by rfl)).mono ?_; rw [HLr.out.1]; rintro e w1 ⟨rfl, hs⟩; (try simp only [World.size_alloc] at hs); replace HS := Aside0.mk hs; clear hs)
        | (go_at_call 19; refine (Live_sl (by repeat (with_reducible first | exact HS.out | apply sl_drewN | apply sl_drew | apply sl_alloc)) 0 _ (by rfl) v0 v1).mono ?_; rw [HLr.out.1, b6]; rintro e w1 ⟨rfl, hs⟩; (try simp only [World.size_alloc] at hs); replace HS := Aside0.mk hs; clear hs)
        | (go_at_call 21; with_reducible refine (has_r (by repeat (with_reducible first | exact HS.out | apply sl_drewN | apply sl_drew | apply sl_alloc)) 3 (l := delS s.live V) V rfl (by omega)).mono ?_; rw [b6]; rintro e w1 ⟨rfl, hs⟩; (try simp only [World.size_alloc] at hs); replace HS := Aside0.mk hs; clear hs))
        go_roundg kq
        case measure => omega
        case rel =>
          refine ⟨i + 1, S, A3, A4, c3, c4, rfl, by rw [HLr.out.1], by rw [HLr.out.2, List.length_append, List.length_singleton], ⟨by have := HI.out; omega⟩, ⟨HG.out⟩, ⟨?_⟩⟩
          rw [HLr.out.1, HLr.out.2, List.length_append, List.length_singleton]
          exact sl_pick HS.out [0, 3, 2] (by decide) rfl
      · obtain ⟨n1, n5, n6⟩ := hd.c k01 k2
        have k0 : (k == 0) = false := beq_eq_false_iff_ne.2 fun h => k01 (.inl h)
        have k1 : (k == 1) = false := beq_eq_false_iff_ne.2 fun h => k01 (.inr h)
        have k3 : (k == 2) = false := beq_eq_false_iff_ne.2 k2
        have b2 : decide (V ∈ s.rel) = true := decide_eq_true n1
        obtain ⟨q, hq⟩ : ∃ q, decide (V ∈ s.live) = q := ⟨_, rfl⟩
        have HLr := Aside0.mk (And.intro n5 n6)
        clear hd n1 hbs hll n5 n6 k01 k2
        go_wp2_with (first
        | (go_at_call 16; refine (do_eq (by repeat (with_reducible first | exact HS.out | apply sl_drewN | apply sl_drew | apply sl_alloc)) 0 HD.out.1 HD.out.2.1 HD.out.2.2 HOk.out HU.out.1 HU.out.2 (by rfl)).mono ?_; rintro e w1 ⟨rfl, hs⟩; (try simp only [World.size_alloc] at hs); replace HS := Aside0.mk hs; clear hs; obtain ⟨x0, x1⟩ := HX.out _ (sl_below0 HS.out))
        | (go_at_call 21; with_reducible refine (has_r (by repeat (with_reducible first | exact HS.out | apply sl_drewN | apply sl_drew | apply sl_alloc)) 2 (l := s.rel) V rfl (by omega)).mono ?_; rw [b2]; rintro e w1 ⟨rfl, hs⟩; (try simp only [World.size_alloc] at hs); replace HS := Aside0.mk hs; clear hs; try obtain ⟨x0, x1⟩ := HX.out _ (sl_below0 HS.out))
        | (go_at_call 22; refine (without_c (by repeat (with_reducible first | exact HS.out | apply sl_drewN | apply sl_drew | apply sl_alloc)) _ _ _ s.rel V rfl (sl_read32 (by repeat (with_reducible first | exact HS.out | apply sl_drewN | apply sl_drew | apply sl_alloc)) 2 (by rfl)).2.2 (sl_read32 (by repeat (with_reducible first | exact HS.out | apply sl_drewN | apply sl_drew | apply sl_alloc)) 2 (by rfl)).2.1 (by omega)).mono ?_; rintro e w1 ⟨A3, c3, rfl, hs⟩; (try simp only [World.size_alloc] at hs); replace HS := Aside0.mk hs; clear hs; obtain ⟨x0, x1⟩ := HX.out _ (sl_below0 HS.out))
        | (go_at_call 11; refine (Count_sl (by repeat (with_reducible first | exact HS.out | apply sl_drewN | apply sl_drew | apply sl_alloc)) 0 (by rfl)).mono ?_; rw [HLr.out.1]; rintro e w1 ⟨rfl, hs⟩; (try simp only [World.size_alloc] at hs); replace HS := Aside0.mk hs; clear hs)
        | (go_at_call 19; refine (Live_sl (by repeat (with_reducible first | exact HS.out | apply sl_drewN | apply sl_drew | apply sl_alloc)) 0 _ (by rfl) v0 v1).mono ?_; rw [HLr.out.1, hq]; rintro e w1 ⟨rfl, hs⟩; (try simp only [World.size_alloc] at hs); replace HS := Aside0.mk hs; clear hs)
        | (go_at_call 21; with_reducible refine (has_r (by repeat (with_reducible first | exact HS.out | apply sl_drewN | apply sl_drew | apply sl_alloc)) 1 (l := s.live) V rfl (by omega)).mono ?_; rw [hq]; rintro e w1 ⟨rfl, hs⟩; (try simp only [World.size_alloc] at hs); replace HS := Aside0.mk hs; clear hs; try obtain ⟨x0, x1⟩ := HX.out _ (sl_below0 HS.out)))
        go_roundg kq
        case measure => omega
        case rel =>
          refine ⟨i + 1, S, Al, A3, cl, c3, rfl, by rw [HLr.out.1], by rw [HLr.out.2], ⟨by have := HI.out; omega⟩, ⟨HG.out⟩, ⟨?_⟩⟩
          rw [HLr.out.1, HLr.out.2]
          exact sl_pick HS.out [0, 1, 3] (by decide) rfl
    · have b1 : decide (i < l.length) = false := decide_eq_false hlt
      have hrl2 : s.rel.length ≤ 400 := by omega
      have HUi := Aside0.mk hgi
      have HOk := Aside0.mk (hgi.ok (by omega))
      clear hlt hi
      clear hll hrl hgi
      go_wp2_with (fail)
      have HSS : Aside0 (SL w _ [tabR g s, row32 (.slice Al s.live.length cl) s.live, row32 (.slice Ar s.rel.length cr) s.rel]) := ⟨HS.out⟩
      go_loopg [106] s.rel.length (fun kq v106 wr => ∃ j : Nat, v106 = .int .i64 (j : Int) ∧ Aside0 (j + kq = s.rel.length) ∧ Aside0 (SL w wr [tabR g s, row32 (.slice Al s.live.length cl) s.live, row32 (.slice Ar s.rel.length cr) s.rel]))
      case atStart => exact ⟨0, rfl, ⟨by omega⟩, HSS⟩
      case round =>
        clear HSS HS
        obtain ⟨j, rfl, HJ, HS⟩ := hrel
        have hj := HJ.out
        by_cases hlt : j < s.rel.length
        · have b2 : decide (j < s.rel.length) = true := decide_eq_true hlt
          obtain ⟨kq, rfl⟩ : ∃ m, gk = m + 1 := ⟨gk - 1, by omega⟩
          have hmem := List.getElem_mem hlt
          obtain ⟨h1, h2, h3⟩ := HUi.out.last hmem
          have hse := HUi.out.er _ hmem
          have s0 := hse.2.1
          have s1 := hse.2.2
          clear hse
          have hrd := rd_get hlt
          generalize s.rel[j] = y at h1 h2 h3 s0 s1 hrd hmem
          have HRd := Aside0.mk hrd
          have HT2 := Aside0.mk (And.intro h2 h3)
          have hat := Kd.at_int (sl_read32 HS.out 2 rfl).2.2 (j : Int) (by omega) (by omega)
          obtain ⟨ar, rfl, y0⟩ := hat
          rw [hrd, Int.toNat_natCast] at y0
          have p1 : (0 : Int) ≤ (j : Int) := by omega
          have p2 : (j : Int) < (s.rel.length : Int) := by omega
          clear hlt hj h2 h3 hrd hmem
          go_wp2_with (first
          | (go_at_call 19; refine (Live_sl (by repeat (with_reducible first | exact HS.out | apply sl_drewN | apply sl_drew | apply sl_alloc)) 0 y (by rfl) s0 s1).mono ?_; rw [h1]; rintro e w1 ⟨rfl, hs⟩; (try simp only [World.size_alloc] at hs); replace HS := Aside0.mk hs; clear hs; obtain ⟨_, e_, y0⟩ := Kd.at_int (sl_read32 HS.out 2 rfl).2.2 (j : Int) (by omega) (by omega); cases e_; rw [HRd.out, Int.toNat_natCast] at y0)
          | (go_at_call 10; refine (Take_eq (s := s) (by repeat (with_reducible first | exact HS.out | apply sl_drewN | apply sl_drew | apply sl_alloc)) 0 HT2.out.1 HT2.out.2 HOk.out s0 s1 (by rfl)).mono ?_; rintro e w1 ⟨rfl, hs⟩; (try simp only [World.size_alloc] at hs); replace HS := Aside0.mk hs; clear hs))
          go_roundg kq
          case measure => omega
          case rel => exact ⟨j + 1, rfl, ⟨by have := HJ.out; omega⟩, ⟨HS.out⟩⟩
        · have b2 : decide (j < s.rel.length) = false := decide_eq_false hlt
          clear hlt hj
          go_wp2_with (first
    | (go_at_call 14; refine (ex_c (by repeat (with_reducible first | exact HS.out | apply sl_drewN | apply sl_drew | apply sl_alloc))).mono ?_; rintro e w1 ⟨rfl, hs⟩; (try simp only [World.size_alloc] at hs); replace HS := Aside0.mk hs; clear hs))
          try rw [Exit.noGoto_ret]
          go_ret
          exact ⟨rfl, sl_below0 HS.out⟩
end Go.Proofs.Ytegkkomlpgappaa.Q
