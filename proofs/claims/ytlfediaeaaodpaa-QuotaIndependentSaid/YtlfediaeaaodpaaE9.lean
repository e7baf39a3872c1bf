import Derived.Test.YtlfediaeaaodpaaP15b
namespace Go.Proofs.Ytlfediaeaaodpaa.Q
open Go.RowKit Go.Proofs.YtlfediaeaaodpaaW.PrintWords Go.Proofs.YtlfediaeaaodpaaW.PrintLast Go.Proofs.YtlfediaeaaodpaaW.PrintMore Go.Proofs.Ytlfediaeaaodpaa.Sl Go.Proofs.Ytlfediaeaaodpaa.Hand 
attribute [local go_sem] max2_int min2_int max_two min_two max_three min_three max_four min_four 
set_option linter.unusedVariables false
set_option linter.unusedSimpArgs false

set_option maxHeartbeats 2000000 in
set_option maxRecDepth 100000 in
theorem do_sl {w0 w : World} {L : List Res} (h : SL w0 w L) (i : Nat) {g : Nat} {q : List S58} (x : S49) (hi : L[i]? = some (quotaR g q)) (hk : Qok q) :
    Calls Try.prog 22 #[.pointer (some ⟨g, 0, none⟩), .agg #[.int .i64 x.f0, .int .i64 x.f1, .bool x.f2]] w fun e w' => e = .returned (.int .i64 (doE q x)) ∧ SL w0 w' (L.set i (quotaR g (doS q x))) := by
  have HS := Aside0.mk h
  have HI := Aside0.mk hi
  have HQ := Aside0.mk hk
  clear h hi hk
  obtain ⟨k, n, b⟩ := x
  cases b
  · have E : doE q ⟨k, n, false⟩ = useE q k n ∧ doS q ⟨k, n, false⟩ = useS q k n := ⟨rfl, rfl⟩
    rw [E.1, E.2]
    clear E
    go_enter Try.func22, Try.ntmps22
    go_wp2_with (first
      | (go_at_call 26; refine (Use_h (by repeat (with_reducible first | exact HS.out | apply sl_drewN | apply sl_drew | apply sl_alloc)) i _ _ HI.out HQ.out).mono ?_; rintro e w1 ⟨rfl, hs⟩; replace HS := Aside0.mk hs; clear hs))
    go_ret
    exact ⟨rfl, HS.out⟩
  · have E : doE q ⟨k, n, true⟩ = relE q k n ∧ doS q ⟨k, n, true⟩ = relS q k n := ⟨rfl, rfl⟩
    rw [E.1, E.2]
    clear E
    go_enter Try.func22, Try.ntmps22
    go_wp2_with (first
      | (go_at_call 25; refine (Rel_h (by repeat (with_reducible first | exact HS.out | apply sl_drewN | apply sl_drew | apply sl_alloc)) i _ _ HI.out HQ.out).mono ?_; rintro e w1 ⟨rfl, hs⟩; replace HS := Aside0.mk hs; clear hs))
    go_ret
    exact ⟨rfl, HS.out⟩
set_option maxHeartbeats 8000000 in
set_option maxRecDepth 100000 in
theorem Indep_calls (lim : Int) (A : Option Addr) (c : Nat) (l : List S49) (w : World) (hr : Kd.C k49 w A l.length l) (hlim : lim ≤ 9223372036854775807) :
    Calls Try.prog 9 #[.int .i64 lim, .slice A l.length c] w fun e w' => e = .returned (.bool true) ∧ Below w.heap.size w w' := by
  have HR := Aside0.mk hr
  have hm := hr.2.1
  have HS := Aside0.mk (sl_start w)
  clear hr
  by_cases hl : 200 < l.length
  · have c1 : decide (200 < (l.length : Int)) = true := decide_eq_true (by omega)
    clear hl
    go_enter Try.func9, Try.ntmps9
    go_wp2_with (first
    | (go_at_call 11; refine (ex_calls w _ _ (by repeat (with_reducible first | exact HS.out | apply sl_drewN | apply sl_drew | apply sl_alloc))).mono ?_; rintro e w1 ⟨rfl, hs⟩; (try simp only [World.size_alloc] at hs); replace HS := Aside0.mk hs; clear hs))
    go_ret
    exact ⟨rfl, sl_below0 HS.out⟩
  have c1 : decide (200 < (l.length : Int)) = false := decide_eq_false (by omega)
  have HQ0 := Aside0.mk (show Qok (newQ [lim, lim, lim, lim]) from newQ_ok (by show 4 ≤ 1000; decide) (fun x hx => by simp at hx; omega))
  clear hl
  go_enter Try.func9, Try.ntmps9
  go_wp2_with (first
    | (go_at_call 18; refine (QNew_sl _ _ [lim, lim, lim, lim] (sl_alloc (show SL w _ [] from HS.out) _) (lit_i [lim, lim, lim, lim] _ rfl (by show 4 ≤ maxLen; decide)) (by show 4 ≤ 1000; decide)).mono ?_; rintro e w1 ⟨gq1, rfl, hs⟩; (try simp only [World.size_alloc] at hs); replace HS := Aside0.mk hs; clear hs)
    | (go_at_call 18; refine (QNew_sl _ _ [lim, lim, lim, lim] (by repeat (with_reducible first | exact HS.out | apply sl_drewN | apply sl_drew | apply sl_alloc)) (lit_i [lim, lim, lim, lim] _ rfl (by show 4 ≤ maxLen; decide)) (by show 4 ≤ 1000; decide)).mono ?_; rintro e w1 ⟨gq2, rfl, hs⟩; (try simp only [World.size_alloc] at hs); replace HS := Aside0.mk hs; clear hs))
  have HSS : Aside0 (SL w w1 [quotaR gq1 (newQ [lim, lim, lim, lim]), quotaR gq2 (newQ [lim, lim, lim, lim])]) := HS
  clear HS
  go_loopg [7] l.length (fun kq v7 wr => ∃ (i : Nat) (q a : List S58), v7 = .int .i64 (i : Int) ∧ Aside0 (i + kq = l.length) ∧ Aside0 (Qok q ∧ Qok a ∧ q.length = 4 ∧ a.length = 4 ∧ rd_T58 q 1 = rd_T58 a 1) ∧ Aside0 (SL w wr [quotaR gq1 q, quotaR gq2 a]))
  case atStart => exact ⟨0, _, _, rfl, ⟨by omega⟩, ⟨HQ0.out, HQ0.out, rfl, rfl, rfl⟩, HSS⟩
  case round =>
    clear HSS HQ0
    obtain ⟨i, q, a, rfl, HI, HN, HS⟩ := hrel
    have hi := HI.out
    by_cases hlt : i < l.length
    · have b2 : decide (i < l.length) = true := decide_eq_true hlt
      obtain ⟨kq, rfl⟩ : ∃ m, gk = m + 1 := ⟨gk - 1, by omega⟩
      obtain ⟨ad, rfl, hx⟩ := atB_T49 HR.out (i : Int) (by omega) (by omega)
      generalize rd_T49 l (i : Int) = x at hx
      have HX := Aside0.mk (show ∀ w', Below w.heap.size w w' → w'.cell? (ad.add (i * 3)) = some (.int .i64 x.f0) ∧ w'.cell? ⟨(ad.add (i * 3)).block, (ad.add (i * 3)).off + 1, none⟩ = some (.int .i64 x.f1) ∧ w'.cell? ⟨(ad.add (i * 3)).block, (ad.add (i * 3)).off + 2, none⟩ = some (.bool x.f2) from hx)
      obtain ⟨x0, x1, x2⟩ := HX.out _ (sl_below0 HS.out)
      have p1 : (0 : Int) ≤ (i : Int) := by omega
      have p2 : (i : Int) < (l.length : Int) := by omega
      have HQ := Aside0.mk HN.out.1
      have HQ2 := Aside0.mk HN.out.2.1
      clear hx hlt hi
      by_cases hd : x.f0 = 1
      · have b5 : (x.f0 == 1) = true := beq_iff_eq.2 hd
        obtain ⟨_, _, n3, n4, n5⟩ := HN.out
        obtain ⟨e1, r1⟩ := do_one (q := q) (a := a) (x := x) (by omega) (by rw [hd]; exact n5)
        rw [hd] at r1
        have HE := Aside0.mk r1
        have bz : (doE a x != doE a x) = false := by simp
        clear r1 n3 n4 n5 hd
        go_wp2_with (first
          | (go_at_call 22; (first | (refine (do_sl (by repeat (with_reducible first | exact HS.out | apply sl_drewN | apply sl_drew | apply sl_alloc)) 0 x (by rfl) HQ.out).mono ?_) | (refine (do_sl (by repeat (with_reducible first | exact HS.out | apply sl_drewN | apply sl_drew | apply sl_alloc)) 1 x (by rfl) HQ2.out).mono ?_)); rintro e w1 ⟨rfl, hs⟩; (try simp only [World.size_alloc] at hs); replace HS := Aside0.mk hs; clear hs; obtain ⟨x0, x1, x2⟩ := HX.out _ (sl_below0 HS.out)))
        go_roundg kq
        case measure => omega
        case rel => exact ⟨i + 1, doS q x, doS a x, rfl, ⟨by have := HI.out; omega⟩, ⟨doS_ok HQ.out, doS_ok HQ2.out, by rw [doS_len]; exact HN.out.2.2.1, by rw [doS_len]; exact HN.out.2.2.2.1, HE.out⟩, HS⟩
      · have b5 : (x.f0 == 1) = false := beq_eq_false_iff_ne.2 hd
        have HE := Aside0.mk (do_other (q := q) (x := x) (j := 1) (by omega) hd)
        clear hd
        go_wp2_with (first
          | (go_at_call 22; (first | (refine (do_sl (by repeat (with_reducible first | exact HS.out | apply sl_drewN | apply sl_drew | apply sl_alloc)) 0 x (by rfl) HQ.out).mono ?_) | (refine (do_sl (by repeat (with_reducible first | exact HS.out | apply sl_drewN | apply sl_drew | apply sl_alloc)) 1 x (by rfl) HQ2.out).mono ?_)); rintro e w1 ⟨rfl, hs⟩; (try simp only [World.size_alloc] at hs); replace HS := Aside0.mk hs; clear hs; obtain ⟨x0, x1, x2⟩ := HX.out _ (sl_below0 HS.out)))
        go_roundg kq
        case measure => omega
        case rel => exact ⟨i + 1, doS q x, a, rfl, ⟨by have := HI.out; omega⟩, ⟨doS_ok HQ.out, HQ2.out, by rw [doS_len]; exact HN.out.2.2.1, HN.out.2.2.2.1, by rw [HE.out]; exact HN.out.2.2.2.2⟩, HS⟩
    · have b2 : decide (i < l.length) = false := decide_eq_false hlt
      obtain ⟨_, _, n3, n4, n5⟩ := HN.out
      have u1 : usedE q 1 = usedE a 1 := by
        unfold usedE
        rw [n5]
        unfold chkE
        rw [n3, n4]
      have bz : (usedE a 1 == usedE a 1) = true := by simp
      clear hlt hi n3 n4 n5
      go_wp2_with (first
    | (go_at_call 23; (first | (refine (Used_h (by repeat (with_reducible first | exact HS.out | apply sl_drewN | apply sl_drew | apply sl_alloc)) 0 _ (by rfl)).mono ?_) | (refine (Used_h (by repeat (with_reducible first | exact HS.out | apply sl_drewN | apply sl_drew | apply sl_alloc)) 1 _ (by rfl)).mono ?_)); rintro e w1 ⟨rfl, rfl⟩)
    | (go_at_call 11; refine (ex_calls w _ _ (by repeat (with_reducible first | exact HS.out | apply sl_drewN | apply sl_drew | apply sl_alloc))).mono ?_; rintro e w1 ⟨rfl, hs⟩; (try simp only [World.size_alloc] at hs); replace HS := Aside0.mk hs; clear hs))
      go_ret
      exact ⟨rfl, sl_below0 HS.out⟩
end Go.Proofs.Ytlfediaeaaodpaa.Q
