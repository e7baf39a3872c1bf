import Derived.Test.YtegkkomlpgappaaG1
namespace Go.Proofs.Ytegkkomlpgappaa.Q
open Go.RowKit Go.Proofs.YtegkkomlpgappaaW.PrintWords Go.Proofs.YtegkkomlpgappaaW.PrintLast Go.Proofs.YtegkkomlpgappaaW.PrintMore Go.Proofs.Ytegkkomlpgappaa.Sl Go.Proofs.Ytegkkomlpgappaa.Hand 
attribute [local go_sem] max2_int min2_int max_two min_two max_three min_three max_four min_four 
set_option linter.unusedVariables false
set_option linter.unusedSimpArgs false

theorem rd39 {l : List S39} {i : Nat} (h : i < l.length) : rd_T39 l (i : Int) = l[i] := by
  unfold rd_T39
  rw [Int.toNat_natCast, List.getD_eq_getElem?_getD, List.getElem?_eq_getElem h]
  rfl
theorem atO {w : World} {A : Option Addr} {l : List S39} (hr : Kd.C k39 w A l.length l) (i : Nat) (hi : i < l.length) : ∃ ad, A = some ad ∧ ∀ w', Below w.heap.size w w' → w'.cell? (ad.add (i * 2)) = some (.int .i64 (l[i]).f0) ∧ w'.cell? ⟨(ad.add (i * 2)).block, (ad.add (i * 2)).off + 1, none⟩ = some (.int .u32 (l[i]).f1) := by
  obtain ⟨ad, e, h⟩ := atB_T39 hr (i : Int) (by omega) (by omega)
  refine ⟨ad, e, fun w' hb => ?_⟩
  have := h w' hb
  rw [rd39 hi, Int.toNat_natCast] at this
  exact this
theorem do_eq {w0 w : World} {L : List Res} (h : SL w0 w L) (i : Nat) {g : Nat} {s s2 : TSt} {k id v e_ : Int} (hv : doV s k id = v) (he : doE s k id = e_) (hs : doS s k id = s2) (ho : TOk s) (h0 : 0 ≤ id) (h1 : id < 4294967296) (hi : L[i]? = some (tabR g s)) :
    Calls Try.prog 16 #[.pointer (some ⟨g, 0, none⟩), .agg #[.int .i64 k, .int .u32 id]] w fun e w' => e = .returned (.tuple #[.int .u32 v, .int .i64 e_]) ∧ SL w0 w' (L.set i (tabR g s2)) := by
  subst hv; subst he; subst hs
  exact do_sl h i k id hi ho h0 h1
def Ids (l : List S39) : Prop := ∀ x ∈ l, 0 ≤ x.f1 ∧ x.f1 < 4294967296
set_option maxHeartbeats 8000000 in
set_option maxRecDepth 100000 in
theorem Gaps_law (b : Bool) (A : Option Addr) (c : Nat) (l : List S39) (more : Int) (w : World) (hr : Kd.C k39 w A l.length l) (hc : l.length ≤ c) (hid : Ids l) (q0 : 0 ≤ more) (q1 : more < 4294967296) :
    Calls Try.prog 6 #[.bool b, .slice A l.length c, .int .u32 more] w fun e w' => e = .returned (.bool true) ∧ Below w.heap.size w w' := by
  have HS := Aside0.mk (sl_start w)
  have HR := Aside0.mk hr
  have HId := Aside0.mk hid
  have hm := hr.2.1
  clear hr hc hid
  by_cases hl : 300 < l.length
  · have d1 : decide (300 < (l.length : Int)) = true := decide_eq_true (by omega)
    clear hl
    go_enter Try.func6, Try.ntmps6
    go_wp2_with (first
    | (go_at_call 14; refine (ex_c (by repeat (with_reducible first | exact HS.out | apply sl_drewN | apply sl_drew | apply sl_alloc))).mono ?_; rintro e w1 ⟨rfl, hs⟩; (try simp only [World.size_alloc] at hs); replace HS := Aside0.mk hs; clear hs))
    go_ret
    exact ⟨rfl, sl_below0 HS.out⟩
  have d1 : decide (300 < (l.length : Int)) = false := decide_eq_false (by omega)
  have hl3 : l.length ≤ 300 := by omega
  obtain ⟨f0, hf0⟩ : ∃ f0, fstI b - 1 = f0 := ⟨_, rfl⟩
  have HN := Aside0.mk (show ∀ {w' : World} {L : List Res}, SL w w' L → Calls Try.prog 8 #[.bool b] w' fun e w'' => ∃ g : Nat, e = .returned (.pointer (some ⟨g, 0, none⟩)) ∧ SL w w'' (L ++ [tabR g ⟨b, [], [], f0⟩]) from fun h => hf0 ▸ New_sl h b)
  have HG0 := Aside0.mk (show GI ⟨b, [], [], f0⟩ 0 from hf0 ▸ GI.start b)
  clear hl
  have hcase : (b = false ∧ f0 = 0) ∨ (b = true ∧ f0 = 4278190079) := by
    cases b
    · exact .inl ⟨rfl, hf0.symm⟩
    · exact .inr ⟨rfl, hf0.symm⟩
  clear hf0
  rcases hcase with ⟨rfl, rfl⟩ | ⟨rfl, rfl⟩
  · go_enter Try.func6, Try.ntmps6
    go_wp2_with (first
    | (go_at_call 8; refine (HN.out (by repeat (with_reducible first | exact HS.out | apply sl_drewN | apply sl_drew | apply sl_alloc))).mono ?_; rintro e w1 ⟨g, rfl, hs⟩; (try simp only [World.size_alloc] at hs); replace HS := Aside0.mk hs; clear hs))
    have HSS : Aside0 (SL w _ [tabR g ⟨false, [], [], 0⟩]) := ⟨HS.out⟩
    go_loopg [8, 23] l.length (fun kq v8 v23 wr => ∃ (i : Nat) (s : TSt), v23 = .int .i64 (i : Int) ∧ v8 = .int .u32 s.lar ∧ Aside0 (i + kq = l.length) ∧ Aside0 (GI s i ∧ s.srv = false) ∧ Aside0 (SL w wr [tabR g s]))
    case atStart => exact ⟨0, ⟨false, [], [], 0⟩, rfl, rfl, ⟨by omega⟩, ⟨⟨HG0.out, rfl⟩⟩, HSS⟩
    case round =>
      clear HSS HS HG0
      obtain ⟨i, s, rfl, rfl, HI, HV, HS⟩ := hrel
      have hi := HI.out
      have hgi := HV.out.1
      have hlo := hgi.lo
      have hhi := hgi.hi
      have hff := fst_range s.srv
      by_cases hlt : i < l.length
      · have b1 : decide (i < l.length) = true := decide_eq_true hlt
        obtain ⟨kq, rfl⟩ : ∃ m, gk = m + 1 := ⟨gk - 1, by omega⟩
        obtain ⟨ad, rfl, hx⟩ := atO HR.out i hlt
        obtain ⟨u0, u1⟩ := HId.out l[i] (List.getElem_mem hlt)
        obtain ⟨t1, t2, t3, t4⟩ := hgi.step l[i].f0 l[i].f1 u0
        have HOk := Aside0.mk (hgi.ok (by omega))
        obtain ⟨V, hV⟩ : ∃ V, doV s l[i].f0 l[i].f1 = V := ⟨_, rfl⟩
        obtain ⟨E, hE⟩ : ∃ E, doE s l[i].f0 l[i].f1 = E := ⟨_, rfl⟩
        obtain ⟨S, hS⟩ : ∃ S, doS s l[i].f0 l[i].f1 = S := ⟨_, rfl⟩
        rw [hE, hV, hS] at t3
        rw [hE, hV] at t4
        rw [hS] at t1 t2
        generalize l[i] = x at hx u0 u1 t3 t4 hV hE hS
        have HD := Aside0.mk (And.intro hV (And.intro hE hS))
        have HU := Aside0.mk (And.intro u0 u1)
        have HX := Aside0.mk hx
        have HG := Aside0.mk (And.intro t1 (t2.trans HV.out.2))
        obtain ⟨x0, x1⟩ := hx _ (sl_below0 HS.out)
        have p1 : (0 : Int) ≤ (i : Int) := by omega
        have p2 : (i : Int) < (l.length : Int) := by omega
        have p3 : 0 ≤ s.lar := by omega
        have p4 : s.lar < 4294967000 := by omega
        obtain ⟨k, hk⟩ : ∃ k, x.f0 = k := ⟨_, rfl⟩
        rw [hk] at x0 t3 t4 HX HD
        clear hx u0 u1 hlt hi hV hE hS t1 t2 hgi hlo hhi hff hk
        by_cases c1 : E = 0
        rotate_left
        · have z : (E == 0) = false := beq_eq_false_iff_ne.2 c1
          have HLa := Aside0.mk (show S.lar = s.lar by rw [t3, if_neg (fun h => c1 h.1)])
          clear t3 t4 c1
          go_wp2_with (first
            | (go_at_call 16; refine (do_eq (by repeat (with_reducible first | exact HS.out | apply sl_drewN | apply sl_drew | apply sl_alloc)) 0 HD.out.1 HD.out.2.1 HD.out.2.2 HOk.out HU.out.1 HU.out.2 (by rfl)).mono ?_; rintro e w1 ⟨rfl, hs⟩; (try simp only [World.size_alloc] at hs); replace HS := Aside0.mk hs; clear hs; obtain ⟨x0, x1⟩ := HX.out _ (sl_below0 HS.out)))
          go_roundg kq
          case measure => omega
          case rel => exact ⟨i + 1, S, rfl, by rw [HLa.out], ⟨by have := HI.out; omega⟩, ⟨HG.out⟩, ⟨HS.out⟩⟩
        have z : (E == 0) = true := beq_iff_eq.2 c1
        by_cases c2 : k ≤ 1
        rotate_left
        · have z2 : decide (k ≤ 1) = false := decide_eq_false c2
          have HLa := Aside0.mk (show S.lar = s.lar by rw [t3, if_neg (fun h => c2 h.2.1)])
          clear t3 t4 c1 c2
          go_wp2_with (first
            | (go_at_call 16; refine (do_eq (by repeat (with_reducible first | exact HS.out | apply sl_drewN | apply sl_drew | apply sl_alloc)) 0 HD.out.1 HD.out.2.1 HD.out.2.2 HOk.out HU.out.1 HU.out.2 (by rfl)).mono ?_; rintro e w1 ⟨rfl, hs⟩; (try simp only [World.size_alloc] at hs); replace HS := Aside0.mk hs; clear hs; obtain ⟨x0, x1⟩ := HX.out _ (sl_below0 HS.out)))
          go_roundg kq
          case measure => omega
          case rel => exact ⟨i + 1, S, rfl, by rw [HLa.out], ⟨by have := HI.out; omega⟩, ⟨HG.out⟩, ⟨HS.out⟩⟩
        have z2 : decide (k ≤ 1) = true := decide_eq_true c2
        by_cases c3 : 0 ≤ k
        rotate_left
        · have z3 : decide (0 ≤ k) = false := decide_eq_false c3
          have HLa := Aside0.mk (show S.lar = s.lar by rw [t3, if_neg (fun h => c3 h.2.2.1)])
          clear t3 t4 c1 c2 c3
          go_wp2_with (first
            | (go_at_call 16; refine (do_eq (by repeat (with_reducible first | exact HS.out | apply sl_drewN | apply sl_drew | apply sl_alloc)) 0 HD.out.1 HD.out.2.1 HD.out.2.2 HOk.out HU.out.1 HU.out.2 (by rfl)).mono ?_; rintro e w1 ⟨rfl, hs⟩; (try simp only [World.size_alloc] at hs); replace HS := Aside0.mk hs; clear hs; obtain ⟨x0, x1⟩ := HX.out _ (sl_below0 HS.out)))
          go_roundg kq
          case measure => omega
          case rel => exact ⟨i + 1, S, rfl, by rw [HLa.out], ⟨by have := HI.out; omega⟩, ⟨HG.out⟩, ⟨HS.out⟩⟩
        have z3 : decide (0 ≤ k) = true := decide_eq_true c3
        by_cases c4 : s.lar < V
        rotate_left
        · have z4 : decide (s.lar < V) = false := decide_eq_false c4
          have HLa := Aside0.mk (show S.lar = s.lar by rw [t3, if_neg (fun h => c4 h.2.2.2)])
          clear t3 t4 c1 c2 c3 c4
          go_wp2_with (first
            | (go_at_call 16; refine (do_eq (by repeat (with_reducible first | exact HS.out | apply sl_drewN | apply sl_drew | apply sl_alloc)) 0 HD.out.1 HD.out.2.1 HD.out.2.2 HOk.out HU.out.1 HU.out.2 (by rfl)).mono ?_; rintro e w1 ⟨rfl, hs⟩; (try simp only [World.size_alloc] at hs); replace HS := Aside0.mk hs; clear hs; obtain ⟨x0, x1⟩ := HX.out _ (sl_below0 HS.out)))
          go_roundg kq
          case measure => omega
          case rel => exact ⟨i + 1, S, rfl, by rw [HLa.out], ⟨by have := HI.out; omega⟩, ⟨HG.out⟩, ⟨HS.out⟩⟩
        have e5 := t4 c1 c2 c3 c4
        rw [if_pos ⟨c1, c2, c3, c4⟩] at t3
        subst e5
        have z4 : decide (s.lar < s.lar + 1) = true := decide_eq_true (by omega)
        have HLa := Aside0.mk t3
        clear t3 t4 c1 c2 c3 c4
        go_wp2_with (first
        | (go_at_call 16; refine (do_eq (by repeat (with_reducible first | exact HS.out | apply sl_drewN | apply sl_drew | apply sl_alloc)) 0 HD.out.1 HD.out.2.1 HD.out.2.2 HOk.out HU.out.1 HU.out.2 (by rfl)).mono ?_; rintro e w1 ⟨rfl, hs⟩; (try simp only [World.size_alloc] at hs); replace HS := Aside0.mk hs; clear hs; obtain ⟨x0, x1⟩ := HX.out _ (sl_below0 HS.out)))
        go_roundg kq
        case measure => omega
        case rel => exact ⟨i + 1, S, rfl, by rw [HLa.out], ⟨by have := HI.out; omega⟩, ⟨HG.out⟩, ⟨HS.out⟩⟩
      · have b1 : decide (i < l.length) = false := decide_eq_false hlt
        have m0 : 0 ≤ more % 1000 := by omega
        have m1 : more % 1000 < 1000 := by omega
        have m2 : Int.tmod more 1000 = more % 1000 := Int.tmod_eq_emod_of_nonneg q0
        obtain ⟨h1, h2, h3⟩ := hgi.last (by omega) m0 m1
        generalize more % 1000 = m at m0 m1 m2 h1 h2 h3
        have HOk := Aside0.mk (hgi.ok (by omega))
        have HT2 := Aside0.mk h2
        have p3 : 0 ≤ s.lar := by omega
        have p4 : s.lar < 4294967000 - 1000 := by have := fst_range s.srv; omega
        clear hlt hi hgi hlo hhi hff h2
        rcases h1 with ⟨h1, hcnt⟩ | h1
        · have HTe := Aside0.mk h1
          have HCn := Aside0.mk hcnt
          clear h1 hcnt
          go_wp2_with (first
          | (go_at_call 10; refine (Take_eq (s := s) (by repeat (with_reducible first | exact HS.out | apply sl_drewN | apply sl_drew | apply sl_alloc)) 0 HTe.out HT2.out HOk.out (by omega) (by omega) (by rfl)).mono ?_; rintro e w1 ⟨rfl, hs⟩; (try simp only [World.size_alloc] at hs); replace HS := Aside0.mk hs; clear hs)
          | (go_at_call 11; refine (Count_sl (by repeat (with_reducible first | exact HS.out | apply sl_drewN | apply sl_drew | apply sl_alloc)) 0 (by rfl)).mono ?_; rw [HCn.out]; rintro e w1 ⟨rfl, hs⟩; (try simp only [World.size_alloc] at hs); replace HS := Aside0.mk hs; clear hs)
          | (go_at_call 19; refine (Live_sl (by repeat (with_reducible first | exact HS.out | apply sl_drewN | apply sl_drew | apply sl_alloc)) 0 _ (by rfl) (by omega) (by omega)).mono ?_; rw [h3]; rintro e w1 ⟨rfl, hs⟩; (try simp only [World.size_alloc] at hs); replace HS := Aside0.mk hs; clear hs)
          | (go_at_call 14; refine (ex_c (by repeat (with_reducible first | exact HS.out | apply sl_drewN | apply sl_drew | apply sl_alloc))).mono ?_; rintro e w1 ⟨rfl, hs⟩; (try simp only [World.size_alloc] at hs); replace HS := Aside0.mk hs; clear hs))
          try rw [Exit.noGoto_ret]
          go_ret
          exact ⟨rfl, sl_below0 HS.out⟩
        · have HTe := Aside0.mk h1
          clear h1
          go_wp2_with (first
          | (go_at_call 10; refine (Take_eq (s := s) (by repeat (with_reducible first | exact HS.out | apply sl_drewN | apply sl_drew | apply sl_alloc)) 0 HTe.out HT2.out HOk.out (by omega) (by omega) (by rfl)).mono ?_; rintro e w1 ⟨rfl, hs⟩; (try simp only [World.size_alloc] at hs); replace HS := Aside0.mk hs; clear hs)
          | (go_at_call 19; refine (Live_sl (by repeat (with_reducible first | exact HS.out | apply sl_drewN | apply sl_drew | apply sl_alloc)) 0 _ (by rfl) (by omega) (by omega)).mono ?_; rw [h3]; rintro e w1 ⟨rfl, hs⟩; (try simp only [World.size_alloc] at hs); replace HS := Aside0.mk hs; clear hs)
          | (go_at_call 14; refine (ex_c (by repeat (with_reducible first | exact HS.out | apply sl_drewN | apply sl_drew | apply sl_alloc))).mono ?_; rintro e w1 ⟨rfl, hs⟩; (try simp only [World.size_alloc] at hs); replace HS := Aside0.mk hs; clear hs))
          try rw [Exit.noGoto_ret]
          go_ret
          exact ⟨rfl, sl_below0 HS.out⟩
  · go_enter Try.func6, Try.ntmps6
    go_wp2_with (first
    | (go_at_call 8; refine (HN.out (by repeat (with_reducible first | exact HS.out | apply sl_drewN | apply sl_drew | apply sl_alloc))).mono ?_; rintro e w1 ⟨g, rfl, hs⟩; (try simp only [World.size_alloc] at hs); replace HS := Aside0.mk hs; clear hs))
    have HSS : Aside0 (SL w _ [tabR g ⟨true, [], [], 4278190079⟩]) := ⟨HS.out⟩
    go_loopg [8, 23] l.length (fun kq v8 v23 wr => ∃ (i : Nat) (s : TSt), v23 = .int .i64 (i : Int) ∧ v8 = .int .u32 s.lar ∧ Aside0 (i + kq = l.length) ∧ Aside0 (GI s i ∧ s.srv = true) ∧ Aside0 (SL w wr [tabR g s]))
    case atStart => exact ⟨0, ⟨true, [], [], 4278190079⟩, rfl, rfl, ⟨by omega⟩, ⟨⟨HG0.out, rfl⟩⟩, HSS⟩
    case round =>
      clear HSS HS HG0
      obtain ⟨i, s, rfl, rfl, HI, HV, HS⟩ := hrel
      have hi := HI.out
      have hgi := HV.out.1
      have hlo := hgi.lo
      have hhi := hgi.hi
      have hff := fst_range s.srv
      by_cases hlt : i < l.length
      · have b1 : decide (i < l.length) = true := decide_eq_true hlt
        obtain ⟨kq, rfl⟩ : ∃ m, gk = m + 1 := ⟨gk - 1, by omega⟩
        obtain ⟨ad, rfl, hx⟩ := atO HR.out i hlt
        obtain ⟨u0, u1⟩ := HId.out l[i] (List.getElem_mem hlt)
        obtain ⟨t1, t2, t3, t4⟩ := hgi.step l[i].f0 l[i].f1 u0
        have HOk := Aside0.mk (hgi.ok (by omega))
        obtain ⟨V, hV⟩ : ∃ V, doV s l[i].f0 l[i].f1 = V := ⟨_, rfl⟩
        obtain ⟨E, hE⟩ : ∃ E, doE s l[i].f0 l[i].f1 = E := ⟨_, rfl⟩
        obtain ⟨S, hS⟩ : ∃ S, doS s l[i].f0 l[i].f1 = S := ⟨_, rfl⟩
        rw [hE, hV, hS] at t3
        rw [hE, hV] at t4
        rw [hS] at t1 t2
        generalize l[i] = x at hx u0 u1 t3 t4 hV hE hS
        have HD := Aside0.mk (And.intro hV (And.intro hE hS))
        have HU := Aside0.mk (And.intro u0 u1)
        have HX := Aside0.mk hx
        have HG := Aside0.mk (And.intro t1 (t2.trans HV.out.2))
        obtain ⟨x0, x1⟩ := hx _ (sl_below0 HS.out)
        have p1 : (0 : Int) ≤ (i : Int) := by omega
        have p2 : (i : Int) < (l.length : Int) := by omega
        have p3 : 0 ≤ s.lar := by omega
        have p4 : s.lar < 4294967000 := by omega
        obtain ⟨k, hk⟩ : ∃ k, x.f0 = k := ⟨_, rfl⟩
        rw [hk] at x0 t3 t4 HX HD
        clear hx u0 u1 hlt hi hV hE hS t1 t2 hgi hlo hhi hff hk
        by_cases c1 : E = 0
        rotate_left
        · have z : (E == 0) = false := beq_eq_false_iff_ne.2 c1
          have HLa := Aside0.mk (show S.lar = s.lar by rw [t3, if_neg (fun h => c1 h.1)])
          clear t3 t4 c1
          go_wp2_with (first
            | (go_at_call 16; refine (do_eq (by repeat (with_reducible first | exact HS.out | apply sl_drewN | apply sl_drew | apply sl_alloc)) 0 HD.out.1 HD.out.2.1 HD.out.2.2 HOk.out HU.out.1 HU.out.2 (by rfl)).mono ?_; rintro e w1 ⟨rfl, hs⟩; (try simp only [World.size_alloc] at hs); replace HS := Aside0.mk hs; clear hs; obtain ⟨x0, x1⟩ := HX.out _ (sl_below0 HS.out)))
          go_roundg kq
          case measure => omega
          case rel => exact ⟨i + 1, S, rfl, by rw [HLa.out], ⟨by have := HI.out; omega⟩, ⟨HG.out⟩, ⟨HS.out⟩⟩
        have z : (E == 0) = true := beq_iff_eq.2 c1
        by_cases c2 : k ≤ 1
        rotate_left
        · have z2 : decide (k ≤ 1) = false := decide_eq_false c2
          have HLa := Aside0.mk (show S.lar = s.lar by rw [t3, if_neg (fun h => c2 h.2.1)])
          clear t3 t4 c1 c2
          go_wp2_with (first
            | (go_at_call 16; refine (do_eq (by repeat (with_reducible first | exact HS.out | apply sl_drewN | apply sl_drew | apply sl_alloc)) 0 HD.out.1 HD.out.2.1 HD.out.2.2 HOk.out HU.out.1 HU.out.2 (by rfl)).mono ?_; rintro e w1 ⟨rfl, hs⟩; (try simp only [World.size_alloc] at hs); replace HS := Aside0.mk hs; clear hs; obtain ⟨x0, x1⟩ := HX.out _ (sl_below0 HS.out)))
          go_roundg kq
          case measure => omega
          case rel => exact ⟨i + 1, S, rfl, by rw [HLa.out], ⟨by have := HI.out; omega⟩, ⟨HG.out⟩, ⟨HS.out⟩⟩
        have z2 : decide (k ≤ 1) = true := decide_eq_true c2
        by_cases c3 : 0 ≤ k
        rotate_left
        · have z3 : decide (0 ≤ k) = false := decide_eq_false c3
          have HLa := Aside0.mk (show S.lar = s.lar by rw [t3, if_neg (fun h => c3 h.2.2.1)])
          clear t3 t4 c1 c2 c3
          go_wp2_with (first
            | (go_at_call 16; refine (do_eq (by repeat (with_reducible first | exact HS.out | apply sl_drewN | apply sl_drew | apply sl_alloc)) 0 HD.out.1 HD.out.2.1 HD.out.2.2 HOk.out HU.out.1 HU.out.2 (by rfl)).mono ?_; rintro e w1 ⟨rfl, hs⟩; (try simp only [World.size_alloc] at hs); replace HS := Aside0.mk hs; clear hs; obtain ⟨x0, x1⟩ := HX.out _ (sl_below0 HS.out)))
          go_roundg kq
          case measure => omega
          case rel => exact ⟨i + 1, S, rfl, by rw [HLa.out], ⟨by have := HI.out; omega⟩, ⟨HG.out⟩, ⟨HS.out⟩⟩
        have z3 : decide (0 ≤ k) = true := decide_eq_true c3
        by_cases c4 : s.lar < V
        rotate_left
        · have z4 : decide (s.lar < V) = false := decide_eq_false c4
          have HLa := Aside0.mk (show S.lar = s.lar by rw [t3, if_neg (fun h => c4 h.2.2.2)])
          clear t3 t4 c1 c2 c3 c4
          go_wp2_with (first
            | (go_at_call 16; refine (do_eq (by repeat (with_reducible first | exact HS.out | apply sl_drewN | apply sl_drew | apply sl_alloc)) 0 HD.out.1 HD.out.2.1 HD.out.2.2 HOk.out HU.out.1 HU.out.2 (by rfl)).mono ?_; rintro e w1 ⟨rfl, hs⟩; (try simp only [World.size_alloc] at hs); replace HS := Aside0.mk hs; clear hs; obtain ⟨x0, x1⟩ := HX.out _ (sl_below0 HS.out)))
          go_roundg kq
          case measure => omega
          case rel => exact ⟨i + 1, S, rfl, by rw [HLa.out], ⟨by have := HI.out; omega⟩, ⟨HG.out⟩, ⟨HS.out⟩⟩
        have e5 := t4 c1 c2 c3 c4
        rw [if_pos ⟨c1, c2, c3, c4⟩] at t3
        subst e5
        have z4 : decide (s.lar < s.lar + 1) = true := decide_eq_true (by omega)
        have HLa := Aside0.mk t3
        clear t3 t4 c1 c2 c3 c4
        go_wp2_with (first
        | (go_at_call 16; refine (do_eq (by repeat (with_reducible first | exact HS.out | apply sl_drewN | apply sl_drew | apply sl_alloc)) 0 HD.out.1 HD.out.2.1 HD.out.2.2 HOk.out HU.out.1 HU.out.2 (by rfl)).mono ?_; rintro e w1 ⟨rfl, hs⟩; (try simp only [World.size_alloc] at hs); replace HS := Aside0.mk hs; clear hs; obtain ⟨x0, x1⟩ := HX.out _ (sl_below0 HS.out)))
        go_roundg kq
        case measure => omega
        case rel => exact ⟨i + 1, S, rfl, by rw [HLa.out], ⟨by have := HI.out; omega⟩, ⟨HG.out⟩, ⟨HS.out⟩⟩
      · have b1 : decide (i < l.length) = false := decide_eq_false hlt
        have m0 : 0 ≤ more % 1000 := by omega
        have m1 : more % 1000 < 1000 := by omega
        have m2 : Int.tmod more 1000 = more % 1000 := Int.tmod_eq_emod_of_nonneg q0
        obtain ⟨h1, h2, h3⟩ := hgi.last (by omega) m0 m1
        generalize more % 1000 = m at m0 m1 m2 h1 h2 h3
        have HOk := Aside0.mk (hgi.ok (by omega))
        have HT2 := Aside0.mk h2
        have p3 : 0 ≤ s.lar := by omega
        have p4 : s.lar < 4294967000 - 1000 := by have := fst_range s.srv; omega
        clear hlt hi hgi hlo hhi hff h2
        rcases h1 with ⟨h1, hcnt⟩ | h1
        · have HTe := Aside0.mk h1
          have HCn := Aside0.mk hcnt
          clear h1 hcnt
          go_wp2_with (first
          | (go_at_call 10; refine (Take_eq (s := s) (by repeat (with_reducible first | exact HS.out | apply sl_drewN | apply sl_drew | apply sl_alloc)) 0 HTe.out HT2.out HOk.out (by omega) (by omega) (by rfl)).mono ?_; rintro e w1 ⟨rfl, hs⟩; (try simp only [World.size_alloc] at hs); replace HS := Aside0.mk hs; clear hs)
          | (go_at_call 11; refine (Count_sl (by repeat (with_reducible first | exact HS.out | apply sl_drewN | apply sl_drew | apply sl_alloc)) 0 (by rfl)).mono ?_; rw [HCn.out]; rintro e w1 ⟨rfl, hs⟩; (try simp only [World.size_alloc] at hs); replace HS := Aside0.mk hs; clear hs)
          | (go_at_call 19; refine (Live_sl (by repeat (with_reducible first | exact HS.out | apply sl_drewN | apply sl_drew | apply sl_alloc)) 0 _ (by rfl) (by omega) (by omega)).mono ?_; rw [h3]; rintro e w1 ⟨rfl, hs⟩; (try simp only [World.size_alloc] at hs); replace HS := Aside0.mk hs; clear hs)
          | (go_at_call 14; refine (ex_c (by repeat (with_reducible first | exact HS.out | apply sl_drewN | apply sl_drew | apply sl_alloc))).mono ?_; rintro e w1 ⟨rfl, hs⟩; (try simp only [World.size_alloc] at hs); replace HS := Aside0.mk hs; clear hs))
          try rw [Exit.noGoto_ret]
          go_ret
          exact ⟨rfl, sl_below0 HS.out⟩
        · have HTe := Aside0.mk h1
          clear h1
          go_wp2_with (first
          | (go_at_call 10; refine (Take_eq (s := s) (by repeat (with_reducible first | exact HS.out | apply sl_drewN | apply sl_drew | apply sl_alloc)) 0 HTe.out HT2.out HOk.out (by omega) (by omega) (by rfl)).mono ?_; rintro e w1 ⟨rfl, hs⟩; (try simp only [World.size_alloc] at hs); replace HS := Aside0.mk hs; clear hs)
          | (go_at_call 19; refine (Live_sl (by repeat (with_reducible first | exact HS.out | apply sl_drewN | apply sl_drew | apply sl_alloc)) 0 _ (by rfl) (by omega) (by omega)).mono ?_; rw [h3]; rintro e w1 ⟨rfl, hs⟩; (try simp only [World.size_alloc] at hs); replace HS := Aside0.mk hs; clear hs)
          | (go_at_call 14; refine (ex_c (by repeat (with_reducible first | exact HS.out | apply sl_drewN | apply sl_drew | apply sl_alloc))).mono ?_; rintro e w1 ⟨rfl, hs⟩; (try simp only [World.size_alloc] at hs); replace HS := Aside0.mk hs; clear hs))
          try rw [Exit.noGoto_ret]
          go_ret
          exact ⟨rfl, sl_below0 HS.out⟩
end Go.Proofs.Ytegkkomlpgappaa.Q
