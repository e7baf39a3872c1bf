import Derived.Test.YtlfediaeaaodpaaP15
namespace Go.Proofs.Ytlfediaeaaodpaa.Q
open Go.RowKit Go.Proofs.YtlfediaeaaodpaaW.PrintWords Go.Proofs.YtlfediaeaaodpaaW.PrintLast Go.Proofs.YtlfediaeaaodpaaW.PrintMore Go.Proofs.Ytlfediaeaaodpaa.Sl Go.Proofs.Ytlfediaeaaodpaa.Hand 
attribute [local go_sem] max2_int min2_int max_two min_two max_three min_three max_four min_four 
set_option linter.unusedVariables false
set_option linter.unusedSimpArgs false

theorem adv_le {b : BSt} (h : Bok b) (hs : b.started = true) {d : Int} (hd : 0 ≤ d) : (advB b (b.now + d)).level ≤ b.level + d * b.rate ∧ (advB b (b.now + d)).now = b.now + d ∧ (advB b (b.now + d)).started = true ∧ (advB b (b.now + d)).rate = b.rate ∧ (advB b (b.now + d)).burst = b.burst := by
  have hp : 0 ≤ d * b.rate := Int.mul_nonneg hd h.r0
  unfold advB
  rw [if_neg (by rw [hs]; decide)]
  split
  · have : d = 0 := by omega
    subst this
    exact ⟨by omega, by omega, hs, rfl, rfl⟩
  · refine ⟨?_, rfl, hs, rfl, rfl⟩
    show lvl b (b.now + d) ≤ b.level + d * b.rate
    unfold lvl
    rw [show b.now + d - b.now = d by omega]
    split
    · assumption
    · exact Int.le_refl _
set_option maxHeartbeats 8000000 in
set_option maxRecDepth 100000 in
theorem Rate_calls (r b8 : Int) (A : Option Addr) (c : Nat) (l : List S30) (w : World) (hr : Kd.C k30 w A l.length l) (r0 : 0 ≤ r) (r1 : r < 256) (b0 : 0 ≤ b8) (b1 : b8 < 256) :
    Calls Try.prog 4 #[.int .u8 r, .int .u8 b8, .slice A l.length c] w fun e w' => e = .returned (.bool true) ∧ Below w.heap.size w w' := by
  have HR := Aside0.mk hr
  have hm := hr.2.1
  have HS := Aside0.mk (sl_start w)
  have newok : NewOk r (b8 + 1) := by unfold NewOk; omega
  have HB := Aside0.mk (newB_ok newok)
  clear hr
  by_cases hl : 300 < l.length
  · have c1 : decide (300 < (l.length : Int)) = true := decide_eq_true (by omega)
    go_enter Try.func4, Try.ntmps4
    go_wp2_with (first
    | (go_at_call 11; refine (ex_calls w _ _ (by repeat (with_reducible first | exact HS.out | apply sl_drewN | apply sl_drew | apply sl_alloc))).mono ?_; rintro e w1 ⟨rfl, hs⟩; (try simp only [World.size_alloc] at hs); replace HS := Aside0.mk hs; clear hs))
    go_ret
    exact ⟨rfl, sl_below0 HS.out⟩
  have c1 : decide (300 < (l.length : Int)) = false := decide_eq_false (by omega)
  have HLen := Aside0.mk hl
  have k1 : takE (newB r (b8 + 1)) 0 0 = true := decide_eq_true (by show (0 : Int) ≤ 0 ∧ (0 : Int) * 1000 ≤ (b8 + 1) * 1000; omega)
  have HS0 := Aside0.mk (show takS (newB r (b8 + 1)) 0 0 = ⟨r, b8 + 1, (b8 + 1) * 1000, true, 0⟩ by
    unfold takS
    rw [if_pos (by show (0 : Int) ≤ 0 ∧ (0 : Int) * 1000 ≤ (b8 + 1) * 1000; omega)]
    show (⟨r, b8 + 1, (b8 + 1) * 1000 - 0 * 1000, true, 0⟩ : BSt) = _
    congr 1
    omega)
  have HO0 := Aside0.mk (show Bok (⟨r, b8 + 1, (b8 + 1) * 1000, true, 0⟩ : BSt) by rw [← HS0.out]; exact takS_ok HB.out (by omega) (by omega))
  clear hl
  go_enter Try.func4, Try.ntmps4
  go_wp2_with (first
    | (go_at_call 12; refine (New_sl _ _ (by repeat (with_reducible first | exact HS.out | apply sl_drewN | apply sl_drew | apply sl_alloc)) newok).mono ?_; rintro e w1 ⟨gb, rfl, hs⟩; (try simp only [World.size_alloc] at hs); replace HS := Aside0.mk hs; clear hs)
    | (go_at_call 26; refine (Use_h (by repeat (with_reducible first | exact HS.out | apply sl_drewN | apply sl_drew | apply sl_alloc)) 0 _ _ (by rfl) (by repeat (with_reducible first | exact HQ.out | exact HQ2.out | apply useS_ok | apply relS_ok))).mono ?_; rintro e w1 ⟨rfl, hs⟩; (try simp only [World.size_alloc] at hs); replace HS := Aside0.mk hs; clear hs)
    | (go_at_call 25; refine (Rel_h (by repeat (with_reducible first | exact HS.out | apply sl_drewN | apply sl_drew | apply sl_alloc)) 0 _ _ (by rfl) (by repeat (with_reducible first | exact HQ.out | exact HQ2.out | apply useS_ok | apply relS_ok))).mono ?_; rintro e w1 ⟨rfl, hs⟩; (try simp only [World.size_alloc] at hs); replace HS := Aside0.mk hs; clear hs)
    | (go_at_call 23; refine (Used_h (by repeat (with_reducible first | exact HS.out | apply sl_drewN | apply sl_drew | apply sl_alloc)) 0 _ (by rfl)).mono ?_; rintro e w1 ⟨rfl, rfl⟩)
    | (go_at_call 17; refine (Take_h (by repeat (with_reducible first | exact HS.out | apply sl_drewN | apply sl_drew | apply sl_alloc)) 0 _ _ (by rfl) (by repeat (with_reducible first | exact HB.out | exact HB2.out | refine takS_ok ?_ (by first | assumption | omega) (by first | assumption | omega) | refine advB_ok ?_ (by first | assumption | omega) (by first | assumption | omega))) (by first | assumption | omega) (by first | assumption | omega)).mono ?_; rintro e w1 ⟨rfl, hs⟩; (try simp only [World.size_alloc] at hs); replace HS := Aside0.mk hs; clear hs)
    | (go_at_call 15; refine (Level_h (by repeat (with_reducible first | exact HS.out | apply sl_drewN | apply sl_drew | apply sl_alloc)) 0 _ (by rfl) (by repeat (with_reducible first | exact HB.out | exact HB2.out | refine takS_ok ?_ (by first | assumption | omega) (by first | assumption | omega) | refine advB_ok ?_ (by first | assumption | omega) (by first | assumption | omega))) (by first | assumption | omega) (by first | assumption | omega)).mono ?_; rintro e w1 ⟨rfl, hs⟩; (try simp only [World.size_alloc] at hs); replace HS := Aside0.mk hs; clear hs))
  have HSS : Aside0 (SL w w1 [bucketR gb ⟨r, b8 + 1, (b8 + 1) * 1000, true, 0⟩]) := by
    have := HS.out
    rw [HS0.out] at this
    exact ⟨this⟩
  clear HS
  go_loopg [8, 9, 10] l.length (fun kq v8 v9 v10 wr => ∃ (i : Nat) (nw tk : Int) (S : BSt), v8 = .int .i64 nw ∧ v9 = .int .i64 tk ∧ v10 = .int .i64 (i : Int) ∧ Aside0 (i + kq = l.length) ∧ Aside0 (Bok S ∧ S.started = true ∧ S.now = nw ∧ S.rate = r ∧ S.burst = b8 + 1) ∧ Aside0 (0 ≤ nw ∧ nw ≤ 10000 * i ∧ 0 ≤ tk ∧ tk ≤ 10000 * i ∧ 1000 * tk + S.level ≤ 1000 * (b8 + 1) + r * nw) ∧ Aside0 (SL w wr [bucketR gb S]))
  case atStart => exact ⟨0, 0, 0, _, rfl, rfl, rfl, ⟨by omega⟩, ⟨HO0.out, rfl, rfl, rfl, rfl⟩, ⟨by omega, by omega, by omega, by omega, by show 1000 * 0 + (b8 + 1) * 1000 ≤ 1000 * (b8 + 1) + r * 0; omega⟩, HSS⟩
  case round =>
    clear HSS HO0 HS0 k1 HB newok
    obtain ⟨i, nw, tk, S, rfl, rfl, rfl, HI, HO, HN, HS⟩ := hrel
    have hi := HI.out
    by_cases hlt : i < l.length
    · have b2 : decide (i < l.length) = true := decide_eq_true hlt
      obtain ⟨kq, rfl⟩ : ∃ m, gk = m + 1 := ⟨gk - 1, by omega⟩
      obtain ⟨ad, rfl, hx⟩ := atB_T30 HR.out (i : Int) (by omega) (by omega)
      generalize rd_T30 l (i : Int) = x at hx
      have hx' : ∀ w', Below w.heap.size w w' → w'.cell? (ad.add (i * 3)) = some (.int .i64 x.f0) ∧ w'.cell? ⟨(ad.add (i * 3)).block, (ad.add (i * 3)).off + 1, none⟩ = some (.int .i64 x.f1) := fun w' hb => ⟨(hx w' hb).1, (hx w' hb).2.1⟩
      have HX := Aside0.mk hx'
      obtain ⟨x0, x1⟩ := hx' _ (sl_below0 HS.out)
      have p1 : (0 : Int) ≤ (i : Int) := by omega
      have p2 : (i : Int) < (l.length : Int) := by omega
      clear hx hx' hlt hi
      by_cases hp : 0 ≤ x.f0 ∧ x.f0 ≤ 10000 ∧ 0 ≤ x.f1 ∧ x.f1 ≤ 10000
      · obtain ⟨q1, q2, q3, q4⟩ := hp
        obtain ⟨ho, hst, hnw, hra, hbu⟩ := HO.out
        obtain ⟨n1, n2, n3, n4, n5⟩ := HN.out
        obtain ⟨a1, a2, a3, a4, a5⟩ := adv_le ho hst q1
        rw [hnw] at a1 a2 a3 a4 a5
        rw [hra] at a1 a4
        have hlen := HLen.out
        obtain ⟨N, hN⟩ : ∃ N, nw + x.f0 = N := ⟨_, rfl⟩
        have N0 : 0 ≤ N := by omega
        have N1 : N ≤ 10000 * (i + 1) := by omega
        have N2 : N ≤ 3000000 := by omega
        rw [hN] at a1 a2 a3 a4 a5
        obtain ⟨D, hD⟩ : ∃ D, advB S N = D := ⟨_, rfl⟩
        rw [hD] at a1 a2 a3 a4 a5
        have hoD : Bok D := by rw [← hD]; exact advB_ok ho (by omega) (by omega)
        have aD : advB D N = D := adv_old a3 (by omega)
        have hpn : r * N = r * nw + x.f0 * r := by rw [← hN, Int.mul_add, Int.mul_comm r x.f0]
        have p0 : 0 ≤ r * N := Int.mul_nonneg r0 N0
        have pm : r * N ≤ 255 * 3000000 := Int.mul_le_mul (by omega) N2 N0 (by omega)
        have hl0 := hoD.l0
        have hl1 := hoD.l1
        rw [a5, hbu] at hl1
        obtain ⟨lv, hlv⟩ : ∃ lv, levE S N = lv := ⟨_, rfl⟩
        have hlv' : lv = D.level / 1000 := by rw [← hlv]; unfold levE; rw [hD]
        obtain ⟨tE, tS⟩ : takE D N x.f1 = decide (x.f1 ≤ lv) ∧ takS D N x.f1 = (if x.f1 ≤ lv then { D with level := D.level - x.f1 * 1000 } else D) := by
          unfold takE takS
          rw [aD]
          by_cases hq : x.f1 ≤ lv
          · rw [if_pos (by omega), if_pos hq]
            exact ⟨(decide_eq_true (by omega)).trans (decide_eq_true hq).symm, rfl⟩
          · rw [if_neg (by omega), if_neg hq]
            exact ⟨(decide_eq_false (by omega)).trans (decide_eq_false hq).symm, rfl⟩
        have v0 : 0 ≤ lv := by omega
        have v1 : lv ≤ b8 + 1 := by omega
        have HB := Aside0.mk ho
        have HNb := Aside0.mk (show -9223372036854775808 ≤ N ∧ N < 9223372036854775808 by omega)
        have HN1 := Aside0.mk N1
        generalize hP : r * N = P at *
        by_cases hq : x.f1 ≤ lv
        · rw [if_pos hq] at tS
          rw [decide_eq_true hq] at tE
          have b5 : decide (x.f1 ≤ lv) = true := decide_eq_true hq
          have z1 : 1000 * (tk + x.f1) ≤ 1000 * (b8 + 1) + P := by omega
          have HZ := Aside0.mk (show 0 ≤ tk + x.f1 ∧ tk + x.f1 ≤ 10000 * (i + 1) ∧ 1000 * (tk + x.f1) + (D.level - x.f1 * 1000) ≤ 1000 * (b8 + 1) + P by omega)
          have HD := Aside0.mk (show advB S N = D ∧ takS D N x.f1 = { D with level := D.level - x.f1 * 1000 } from ⟨hD, tS⟩)
          have HDo := Aside0.mk (show Bok ({ D with level := D.level - x.f1 * 1000 } : BSt) by rw [← tS]; exact takS_ok hoD (by omega) (by omega))
          have HDf := Aside0.mk (show D.started = true ∧ D.now = N ∧ D.rate = r ∧ D.burst = b8 + 1 from ⟨a3, by omega, a4, by omega⟩)
          have HPN := Aside0.mk hP
          clear a1 a2 a3 a4 a5 hoD aD hpn hl0 hl1 hlv' ho hst hnw hra hbu n5 hlen
          go_wp2_with (first
    | (go_at_call 17; refine (Take_h (by repeat (with_reducible first | exact HS.out | apply sl_drewN | apply sl_drew | apply sl_alloc)) 0 _ _ (by rfl) (by repeat (with_reducible first | exact HB.out | exact HB2.out | refine takS_ok ?_ HNb.out.1 HNb.out.2 | refine advB_ok ?_ HNb.out.1 HNb.out.2)) HNb.out.1 HNb.out.2).mono ?_; rintro e w1 ⟨rfl, hs⟩; (try simp only [World.size_alloc] at hs); replace HS := Aside0.mk hs; clear hs; obtain ⟨x0, x1⟩ := HX.out _ (sl_below0 HS.out))
    | (go_at_call 15; refine (Level_h (by repeat (with_reducible first | exact HS.out | apply sl_drewN | apply sl_drew | apply sl_alloc)) 0 _ (by rfl) (by repeat (with_reducible first | exact HB.out | exact HB2.out | refine takS_ok ?_ HNb.out.1 HNb.out.2 | refine advB_ok ?_ HNb.out.1 HNb.out.2)) HNb.out.1 HNb.out.2).mono ?_; rintro e w1 ⟨rfl, hs⟩; (try simp only [World.size_alloc] at hs); replace HS := Aside0.mk hs; clear hs; obtain ⟨x0, x1⟩ := HX.out _ (sl_below0 HS.out)))
          go_roundg kq
          case measure => omega
          case rel =>
            have hs := HS.out
            rw [HD.out.1] at hs
            rw [HD.out.2] at hs
            obtain ⟨f1, f2, f3, f4⟩ := HDf.out
            refine ⟨i + 1, N, tk + x.f1, _, rfl, rfl, rfl, ⟨by have := HI.out; omega⟩, ⟨HDo.out, f1, f2, f3, f4⟩, ⟨N0, by have := HN1.out; omega, HZ.out.1, by have := HZ.out.2.1; omega, by rw [HPN.out]; exact HZ.out.2.2⟩, ⟨hs⟩⟩
        · rw [if_neg hq] at tS
          rw [decide_eq_false hq] at tE
          have b5 : decide (x.f1 ≤ lv) = false := decide_eq_false hq
          have z1 : 1000 * tk ≤ 1000 * (b8 + 1) + P := by omega
          have HZ := Aside0.mk (show 0 ≤ tk ∧ tk ≤ 10000 * (i + 1) ∧ 1000 * tk + D.level ≤ 1000 * (b8 + 1) + P by omega)
          have HD := Aside0.mk (show advB S N = D ∧ takS D N x.f1 = D from ⟨hD, tS⟩)
          have HDo := Aside0.mk hoD
          have HDf := Aside0.mk (show D.started = true ∧ D.now = N ∧ D.rate = r ∧ D.burst = b8 + 1 from ⟨a3, by omega, a4, by omega⟩)
          have HPN := Aside0.mk hP
          clear a1 a2 a3 a4 a5 hoD aD hpn hl0 hl1 hlv' ho hst hnw hra hbu n5 hlen
          go_wp2_with (first
    | (go_at_call 17; refine (Take_h (by repeat (with_reducible first | exact HS.out | apply sl_drewN | apply sl_drew | apply sl_alloc)) 0 _ _ (by rfl) (by repeat (with_reducible first | exact HB.out | exact HB2.out | refine takS_ok ?_ HNb.out.1 HNb.out.2 | refine advB_ok ?_ HNb.out.1 HNb.out.2)) HNb.out.1 HNb.out.2).mono ?_; rintro e w1 ⟨rfl, hs⟩; (try simp only [World.size_alloc] at hs); replace HS := Aside0.mk hs; clear hs; obtain ⟨x0, x1⟩ := HX.out _ (sl_below0 HS.out))
    | (go_at_call 15; refine (Level_h (by repeat (with_reducible first | exact HS.out | apply sl_drewN | apply sl_drew | apply sl_alloc)) 0 _ (by rfl) (by repeat (with_reducible first | exact HB.out | exact HB2.out | refine takS_ok ?_ HNb.out.1 HNb.out.2 | refine advB_ok ?_ HNb.out.1 HNb.out.2)) HNb.out.1 HNb.out.2).mono ?_; rintro e w1 ⟨rfl, hs⟩; (try simp only [World.size_alloc] at hs); replace HS := Aside0.mk hs; clear hs; obtain ⟨x0, x1⟩ := HX.out _ (sl_below0 HS.out)))
          go_roundg kq
          case measure => omega
          case rel =>
            have hs := HS.out
            rw [HD.out.1] at hs
            rw [HD.out.2] at hs
            obtain ⟨f1, f2, f3, f4⟩ := HDf.out
            refine ⟨i + 1, N, tk, _, rfl, rfl, rfl, ⟨by have := HI.out; omega⟩, ⟨HDo.out, f1, f2, f3, f4⟩, ⟨N0, by have := HN1.out; omega, HZ.out.1, by have := HZ.out.2.1; omega, by rw [HPN.out]; exact HZ.out.2.2⟩, ⟨hs⟩⟩
      · rcases (show x.f0 < 0 ∨ (0 ≤ x.f0 ∧ 10000 < x.f0) ∨ (0 ≤ x.f0 ∧ x.f0 ≤ 10000 ∧ x.f1 < 0) ∨ (0 ≤ x.f0 ∧ x.f0 ≤ 10000 ∧ 0 ≤ x.f1 ∧ 10000 < x.f1) by omega) with d | ⟨d1, d⟩ | ⟨d1, d2, d⟩ | ⟨d1, d2, d3, d⟩
        all_goals
          clear hp
          go_wp2
          go_roundg kq
          case measure => omega
          case rel => exact ⟨i + 1, nw, tk, S, rfl, rfl, rfl, ⟨by have := HI.out; omega⟩, HO, ⟨by obtain ⟨n1, n2, n3, n4, n5⟩ := HN.out; exact ⟨n1, by omega, n3, by omega, n5⟩⟩, HS⟩
    · have b2 : decide (i < l.length) = false := decide_eq_false hlt
      clear hlt hi
      go_wp2_with (first
    | (go_at_call 11; refine (ex_calls w _ _ (by repeat (with_reducible first | exact HS.out | apply sl_drewN | apply sl_drew | apply sl_alloc))).mono ?_; rintro e w1 ⟨rfl, hs⟩; (try simp only [World.size_alloc] at hs); replace HS := Aside0.mk hs; clear hs))
      go_ret
      exact ⟨rfl, sl_below0 HS.out⟩
end Go.Proofs.Ytlfediaeaaodpaa.Q
