import Derived.Laws.StandIn
import Derived.Test.YtckpgccbhaejgaaT19
namespace Go.Proofs.Ytckpgccbhaejgaa.Q
open Go.RowKit Go.Proofs.YtckpgccbhaejgaaW.PrintWords Go.Proofs.YtckpgccbhaejgaaW.PrintLast Go.Proofs.YtckpgccbhaejgaaW.PrintMore Go.Proofs.Ytckpgccbhaejgaa.Sl Go.Proofs.Ytckpgccbhaejgaa.Hand 
attribute [local go_sem] max2_int min2_int max_two min_two max_three min_three max_four min_four 
set_option linter.unusedVariables false
set_option linter.unusedSimpArgs false

theorem call_eqv {w0 w : World} {L : List Res} {g : Nat} {s s' : WSt} {V : Value} (h : SL w0 w L) (i : Nat) (x : S46) {A B C E : Int} (hA : opA s x = A) (hB : opB s x = B) (hC : opC s x = C) (hE : opE s x = E) (hS : opS s x = s') (hi : L[i]? = some (winR g s)) (hv : V = ag46 x) : Calls Try.prog 16 #[.pointer (some ⟨g, 0, none⟩), V] w fun e w' => e = .returned (.agg #[.int .i64 A, .int .i64 B, .int .i64 C, .int .i64 E]) ∧ SL w0 w' (L.set i (winR g s')) := by
  subst hv
  exact call_eq h i x hA hB hC hE hS hi
theorem stp_on (b : Bits) {k : Int} (hk : k = 1 ∨ k = 2 ∨ k = 4 ∨ k = 8) : Go.bits .andNot .i64 (mskI b) k = mskI (setB b k false) ∧ Go.bits .or .i64 (mskI (setB b k false)) k = mskI (setB b k true) := by
  rcases hk with rfl | rfl | rfl | rfl
  · exact ⟨an_1 b, or_1 b⟩
  · exact ⟨an_2 b, or_2 b⟩
  · exact ⟨an_4 b, or_4 b⟩
  · exact ⟨an_8 b, or_8 b⟩
set_option maxHeartbeats 8000000 in
set_option maxRecDepth 100000 in
theorem States_law (A : Option Addr) (c : Nat) (l : List S46) (w : World) (hr : Kd.C k46 w A l.length l) (hc : l.length ≤ c) :
    Calls Try.prog 6 #[.slice A l.length c] w fun e w' => e = .returned (.bool true) ∧ Below w.heap.size w w' := by
  have HS := Aside0.mk (sl_start w)
  have HR := Aside0.mk hr
  have hm := hr.2.1
  have HLc := Aside0.mk hc
  obtain ⟨lb, hlb⟩ : ∃ lb, lightB l = lb := ⟨_, rfl⟩
  have HLi := Aside0.mk hlb
  clear hr hc
  cases lb
  · clear hlb
    go_enter Try.func6, Try.ntmps6
    go_wp2_with (first
    | (go_at_call 13; refine (light_c (by repeat (with_reducible first | exact HS.out | apply sl_drewN | apply sl_drew | apply sl_alloc)) HR.out HLc.out HLi.out).mono ?_; rintro e w1 ⟨rfl, hs⟩; (try simp only [World.size_alloc] at hs); replace HS := Aside0.mk hs; clear hs)
    | (go_at_call 8; refine (ex_c (by repeat (with_reducible first | exact HS.out | apply sl_drewN | apply sl_drew | apply sl_alloc))).mono ?_; rintro e w1 ⟨rfl, hs⟩; (try simp only [World.size_alloc] at hs); replace HS := Aside0.mk hs; clear hs))
    go_ret
    exact ⟨rfl, sl_below0 HS.out⟩
  have hl : l.length ≤ 40 := by
    unfold lightB at hlb
    rw [Bool.and_eq_true, decide_eq_true_eq] at hlb
    exact hlb.1
  clear hlb
  have HW := Aside0.mk (show ∀ {w' : World} {L : List Res}, SL w w' L → Calls Try.prog 9 #[] w' fun e w'' => ∃ g : Nat, e = .returned (.pointer (some ⟨g, 0, none⟩)) ∧ SL w w'' (L ++ [winR g wz]) from fun h => New_c h)
  go_enter Try.func6, Try.ntmps6
  go_wp2_with (first
    | (go_at_call 13; refine (light_c (by repeat (with_reducible first | exact HS.out | apply sl_drewN | apply sl_drew | apply sl_alloc)) HR.out HLc.out HLi.out).mono ?_; rintro e w1 ⟨rfl, hs⟩; (try simp only [World.size_alloc] at hs); replace HS := Aside0.mk hs; clear hs)
    | (go_at_call 9; refine (HW.out (by repeat (with_reducible first | exact HS.out | apply sl_drewN | apply sl_drew | apply sl_alloc))).mono ?_; rintro e w1 ⟨g, rfl, hs⟩; (try simp only [World.size_alloc] at hs); replace HS := Aside0.mk hs; clear hs))
  have HSS : Aside0 (SL w _ [winR g wz]) := ⟨HS.out⟩
  go_loopg [4, 5] l.length (fun kq v4 v5 wr => ∃ (i : Nat) (s : WSt), v5 = .int .i64 (i : Int) ∧ v4 = .int .i64 (mskI s.b) ∧ Aside0 (i + kq = l.length) ∧ Aside0 (SL w wr [winR g s]))
  case atStart => exact ⟨0, wz, rfl, rfl, ⟨by omega⟩, HSS⟩
  case round =>
    clear HSS HS
    obtain ⟨i, s, rfl, rfl, HI, HS⟩ := hrel
    have hi := HI.out
    by_cases hlt : i < l.length
    · have b1 : decide (i < l.length) = true := decide_eq_true hlt
      obtain ⟨kq, rfl⟩ : ∃ m, gk = m + 1 := ⟨gk - 1, by omega⟩
      obtain ⟨ad, rfl, hx⟩ := atO HR.out i hlt
      generalize l[i] = x at hx
      have hsf := sf s x
      obtain ⟨CA, hA⟩ : ∃ z, opA s x = z := ⟨_, rfl⟩
      obtain ⟨CB, hB⟩ : ∃ z, opB s x = z := ⟨_, rfl⟩
      obtain ⟨CC, hC⟩ : ∃ z, opC s x = z := ⟨_, rfl⟩
      obtain ⟨E, hE⟩ : ∃ z, opE s x = z := ⟨_, rfl⟩
      obtain ⟨S, hS⟩ : ∃ z, opS s x = z := ⟨_, rfl⟩
      have HD := Aside0.mk (And.intro hA (And.intro hB (And.intro hC (And.intro hE hS))))
      rw [hC, hE, hS] at hsf
      obtain ⟨M, hM⟩ : ∃ M, mskI s.b = M := ⟨_, rfl⟩
      obtain ⟨N, hN⟩ : ∃ M, mskI S.b = M := ⟨_, rfl⟩
      have HN := Aside0.mk hN
      rw [hM]
      obtain ⟨x0, x1, x2, x3, x4, x5, x6, x7, x8, x9⟩ := hx _ (sl_below0 HS.out)
      have HX := Aside0.mk hx
      have p1 : (0 : Int) ≤ (i : Int) := by omega
      have p2 : (i : Int) < (l.length : Int) := by omega
      clear hx hA hB hC hE hS hlt hi
      by_cases c1 : E = 0
      rotate_left
      · have z : (E == 0) = false := beq_eq_false_iff_ne.2 c1
        have z' : (E != 0) = true := bne_iff_ne.2 c1
        obtain ⟨g1, g2, g3, g4⟩ := hsf.geo (.inl c1)
        have hbb := hsf.bits (fun h => c1 h.1)
        obtain rfl : M = N := by rw [← hM, ← hN, hbb]
        have g1' : (S.gx != s.gx) = false := bne_eq_false_iff_eq.2 g1
        have g2' : (S.gy != s.gy) = false := bne_eq_false_iff_eq.2 g2
        have g3' : (S.fx != s.fx) = false := bne_eq_false_iff_eq.2 g3
        have g4' : (S.fy != s.fy) = false := bne_eq_false_iff_eq.2 g4
        clear hsf c1 hbb hM hN g1 g2 g3 g4
        go_wp2_with (first
        | (go_at_call 20; refine (Geo_sl (by repeat (with_reducible first | exact HS.out | apply sl_drewN | apply sl_drew | apply sl_box | apply sl_alloc)) 0 (by rfl)).mono ?_; rintro e w1 ⟨rfl, hs⟩; (try simp only [World.size_alloc] at hs); replace HS := Aside0.mk hs; clear hs; (try clear hxl); clear x0 x1 x2 x3 x4 x5 x6 x7 x8 x9; obtain ⟨x0, x1, x2, x3, x4, x5, x6, x7, x8, x9⟩ := HX.out _ (sl_below0 HS.out); have hxl := World.block_lt_of_cell? _ _ x0; (try clear rA rB rC rE); (try (have rA := c_at HS.out 1 rfl 0 rfl; have rB := c_at HS.out 1 rfl 1 rfl; have rC := c_at HS.out 1 rfl 2 rfl; have rE := c_at HS.out 1 rfl 3 rfl)))
        | (go_at_call 21; refine (Flt_sl (by repeat (with_reducible first | exact HS.out | apply sl_drewN | apply sl_drew | apply sl_box | apply sl_alloc)) 0 (by rfl)).mono ?_; rintro e w1 ⟨rfl, hs⟩; (try simp only [World.size_alloc] at hs); replace HS := Aside0.mk hs; clear hs; (try clear hxl); clear x0 x1 x2 x3 x4 x5 x6 x7 x8 x9; obtain ⟨x0, x1, x2, x3, x4, x5, x6, x7, x8, x9⟩ := HX.out _ (sl_below0 HS.out); have hxl := World.block_lt_of_cell? _ _ x0; (try clear rA rB rC rE); (try (have rA := c_at HS.out 1 rfl 0 rfl; have rB := c_at HS.out 1 rfl 1 rfl; have rC := c_at HS.out 1 rfl 2 rfl; have rE := c_at HS.out 1 rfl 3 rfl)))
        | (go_at_call 16; refine (call_eqv (by repeat (with_reducible first | exact HS.out | apply sl_drewN | apply sl_drew | apply sl_box | apply sl_alloc)) 0 x HD.out.1 HD.out.2.1 HD.out.2.2.1 HD.out.2.2.2.1 HD.out.2.2.2.2 (by rfl) (by first | exact rfl | (rw [← HOn.out]; done))).mono ?_; rintro e w1 ⟨rfl, hs⟩; (try simp only [World.size_alloc] at hs); replace HS := Aside0.mk hs; clear hs; (try clear hxl); clear x0 x1 x2 x3 x4 x5 x6 x7 x8 x9; obtain ⟨x0, x1, x2, x3, x4, x5, x6, x7, x8, x9⟩ := HX.out _ (sl_below0 HS.out); have hxl := World.block_lt_of_cell? _ _ x0; (try clear rA rB rC rE); (try (have rA := c_at HS.out 1 rfl 0 rfl; have rB := c_at HS.out 1 rfl 1 rfl; have rC := c_at HS.out 1 rfl 2 rfl; have rE := c_at HS.out 1 rfl 3 rfl)))
        | (go_at_call 18; refine (Sta_sl (by repeat (with_reducible first | exact HS.out | apply sl_drewN | apply sl_drew | apply sl_box | apply sl_alloc)) 0 HN.out (by rfl)).mono ?_; rintro e w1 ⟨rfl, hs⟩; (try simp only [World.size_alloc] at hs); replace HS := Aside0.mk hs; clear hs; (try clear hxl); clear x0 x1 x2 x3 x4 x5 x6 x7 x8 x9; obtain ⟨x0, x1, x2, x3, x4, x5, x6, x7, x8, x9⟩ := HX.out _ (sl_below0 HS.out); have hxl := World.block_lt_of_cell? _ _ x0; (try clear rA rB rC rE); (try (have rA := c_at HS.out 1 rfl 0 rfl; have rB := c_at HS.out 1 rfl 1 rfl; have rC := c_at HS.out 1 rfl 2 rfl; have rE := c_at HS.out 1 rfl 3 rfl))))
        go_roundg kq
        case measure => omega
        case rel => exact ⟨i + 1, S, rfl, by rw [HN.out], ⟨by have := HI.out; omega⟩, ⟨(by first | exact sl_take HS.out 1 | (repeat (with_reducible first | exact HS.out | apply sl_drewN | apply sl_drew | apply sl_alloc)))⟩⟩
      have z : (E == 0) = true := beq_iff_eq.2 c1
      have z' : (E != 0) = false := bne_eq_false_iff_eq.2 c1
      by_cases k2 : x.f0 = 2
      · have hk := hsf.kind c1 k2
        obtain ⟨n1, n2⟩ := hsf.next c1 k2
        obtain ⟨g1, g2, g3, g4⟩ := hsf.geo (by omega)
        obtain ⟨a1, a2⟩ := stp_on s.b hk
        rw [hM] at a1
        obtain ⟨P, hP⟩ : ∃ P, mskI (setB s.b x.f1 false) = P := ⟨_, rfl⟩
        rw [hP] at a1 a2
        have d2 : (x.f0 == 2) = true := beq_iff_eq.2 k2
        have e2 : (x.f0 != 2) = false := by unfold bne; rw [d2]; rfl
        have d0 : (x.f0 == 0) = false := beq_eq_false_iff_ne.2 (by omega)
        have e0 : (x.f0 != 0) = true := by unfold bne; rw [d0]; rfl
        have d1 : (x.f0 == 1) = false := beq_eq_false_iff_ne.2 (by omega)
        have e1 : (x.f0 != 1) = true := by unfold bne; rw [d1]; rfl
        have d3 : (x.f0 == 3) = false := beq_eq_false_iff_ne.2 (by omega)
        have e3 : (x.f0 != 3) = true := by unfold bne; rw [d3]; rfl
        have d4 : (x.f0 == 4) = false := beq_eq_false_iff_ne.2 (by omega)
        have e4 : (x.f0 != 4) = true := by unfold bne; rw [d4]; rfl
        have g1' : (S.gx != s.gx) = false := bne_eq_false_iff_eq.2 g1
        have g2' : (S.gy != s.gy) = false := bne_eq_false_iff_eq.2 g2
        have g3' : (S.fx != s.fx) = false := bne_eq_false_iff_eq.2 g3
        have g4' : (S.fy != s.fy) = false := bne_eq_false_iff_eq.2 g4
        obtain ⟨on, hon⟩ : ∃ on, x.f4 = on := ⟨_, rfl⟩
        rw [hon] at n1
        have HOn := Aside0.mk hon
        cases on
        · have hPN : P = N := by rw [← hN, n1, ← hP]
          have hCN : CC = N := n2.trans hN
          subst hCN
          subst hPN
          have hq : (P != P) = false := bne_self_eq_false _
          clear hsf c1 k2 hk n1 n2 hM hN hP g1 g2 g3 g4 a2
          go_wp2_with (first
        | (go_at_call 20; refine (Geo_sl (by repeat (with_reducible first | exact HS.out | apply sl_drewN | apply sl_drew | apply sl_box | apply sl_alloc)) 0 (by rfl)).mono ?_; rintro e w1 ⟨rfl, hs⟩; (try simp only [World.size_alloc] at hs); replace HS := Aside0.mk hs; clear hs; (try clear hxl); clear x0 x1 x2 x3 x4 x5 x6 x7 x8 x9; obtain ⟨x0, x1, x2, x3, x4, x5, x6, x7, x8, x9⟩ := HX.out _ (sl_below0 HS.out); have hxl := World.block_lt_of_cell? _ _ x0; (try clear rA rB rC rE); (try (have rA := c_at HS.out 1 rfl 0 rfl; have rB := c_at HS.out 1 rfl 1 rfl; have rC := c_at HS.out 1 rfl 2 rfl; have rE := c_at HS.out 1 rfl 3 rfl)))
        | (go_at_call 21; refine (Flt_sl (by repeat (with_reducible first | exact HS.out | apply sl_drewN | apply sl_drew | apply sl_box | apply sl_alloc)) 0 (by rfl)).mono ?_; rintro e w1 ⟨rfl, hs⟩; (try simp only [World.size_alloc] at hs); replace HS := Aside0.mk hs; clear hs; (try clear hxl); clear x0 x1 x2 x3 x4 x5 x6 x7 x8 x9; obtain ⟨x0, x1, x2, x3, x4, x5, x6, x7, x8, x9⟩ := HX.out _ (sl_below0 HS.out); have hxl := World.block_lt_of_cell? _ _ x0; (try clear rA rB rC rE); (try (have rA := c_at HS.out 1 rfl 0 rfl; have rB := c_at HS.out 1 rfl 1 rfl; have rC := c_at HS.out 1 rfl 2 rfl; have rE := c_at HS.out 1 rfl 3 rfl)))
        | (go_at_call 16; refine (call_eqv (by repeat (with_reducible first | exact HS.out | apply sl_drewN | apply sl_drew | apply sl_box | apply sl_alloc)) 0 x HD.out.1 HD.out.2.1 HD.out.2.2.1 HD.out.2.2.2.1 HD.out.2.2.2.2 (by rfl) (by first | exact rfl | (rw [← HOn.out]; done))).mono ?_; rintro e w1 ⟨rfl, hs⟩; (try simp only [World.size_alloc] at hs); replace HS := Aside0.mk hs; clear hs; (try clear hxl); clear x0 x1 x2 x3 x4 x5 x6 x7 x8 x9; obtain ⟨x0, x1, x2, x3, x4, x5, x6, x7, x8, x9⟩ := HX.out _ (sl_below0 HS.out); have hxl := World.block_lt_of_cell? _ _ x0; (try clear rA rB rC rE); (try (have rA := c_at HS.out 1 rfl 0 rfl; have rB := c_at HS.out 1 rfl 1 rfl; have rC := c_at HS.out 1 rfl 2 rfl; have rE := c_at HS.out 1 rfl 3 rfl)))
        | (go_at_call 18; refine (Sta_sl (by repeat (with_reducible first | exact HS.out | apply sl_drewN | apply sl_drew | apply sl_box | apply sl_alloc)) 0 HN.out (by rfl)).mono ?_; rintro e w1 ⟨rfl, hs⟩; (try simp only [World.size_alloc] at hs); replace HS := Aside0.mk hs; clear hs; (try clear hxl); clear x0 x1 x2 x3 x4 x5 x6 x7 x8 x9; obtain ⟨x0, x1, x2, x3, x4, x5, x6, x7, x8, x9⟩ := HX.out _ (sl_below0 HS.out); have hxl := World.block_lt_of_cell? _ _ x0; (try clear rA rB rC rE); (try (have rA := c_at HS.out 1 rfl 0 rfl; have rB := c_at HS.out 1 rfl 1 rfl; have rC := c_at HS.out 1 rfl 2 rfl; have rE := c_at HS.out 1 rfl 3 rfl))))
          go_roundg kq
          case measure => omega
          case rel => exact ⟨i + 1, S, rfl, by rw [HN.out], ⟨by have := HI.out; omega⟩, ⟨(by first | exact sl_take HS.out 1 | (repeat (with_reducible first | exact HS.out | apply sl_drewN | apply sl_drew | apply sl_alloc)))⟩⟩
        · have hPN : Go.bits .or .i64 P x.f1 = N := by rw [← hN, n1, a2]
          have hCN : CC = N := n2.trans hN
          subst hCN
          have hq : (CC != CC) = false := bne_self_eq_false _
          clear hsf c1 k2 hk n1 n2 hM hN hP g1 g2 g3 g4 a2
          go_wp2_with (first
        | (go_at_call 20; refine (Geo_sl (by repeat (with_reducible first | exact HS.out | apply sl_drewN | apply sl_drew | apply sl_box | apply sl_alloc)) 0 (by rfl)).mono ?_; rintro e w1 ⟨rfl, hs⟩; (try simp only [World.size_alloc] at hs); replace HS := Aside0.mk hs; clear hs; (try clear hxl); clear x0 x1 x2 x3 x4 x5 x6 x7 x8 x9; obtain ⟨x0, x1, x2, x3, x4, x5, x6, x7, x8, x9⟩ := HX.out _ (sl_below0 HS.out); have hxl := World.block_lt_of_cell? _ _ x0; (try clear rA rB rC rE); (try (have rA := c_at HS.out 1 rfl 0 rfl; have rB := c_at HS.out 1 rfl 1 rfl; have rC := c_at HS.out 1 rfl 2 rfl; have rE := c_at HS.out 1 rfl 3 rfl)))
        | (go_at_call 21; refine (Flt_sl (by repeat (with_reducible first | exact HS.out | apply sl_drewN | apply sl_drew | apply sl_box | apply sl_alloc)) 0 (by rfl)).mono ?_; rintro e w1 ⟨rfl, hs⟩; (try simp only [World.size_alloc] at hs); replace HS := Aside0.mk hs; clear hs; (try clear hxl); clear x0 x1 x2 x3 x4 x5 x6 x7 x8 x9; obtain ⟨x0, x1, x2, x3, x4, x5, x6, x7, x8, x9⟩ := HX.out _ (sl_below0 HS.out); have hxl := World.block_lt_of_cell? _ _ x0; (try clear rA rB rC rE); (try (have rA := c_at HS.out 1 rfl 0 rfl; have rB := c_at HS.out 1 rfl 1 rfl; have rC := c_at HS.out 1 rfl 2 rfl; have rE := c_at HS.out 1 rfl 3 rfl)))
        | (go_at_call 16; refine (call_eqv (by repeat (with_reducible first | exact HS.out | apply sl_drewN | apply sl_drew | apply sl_box | apply sl_alloc)) 0 x HD.out.1 HD.out.2.1 HD.out.2.2.1 HD.out.2.2.2.1 HD.out.2.2.2.2 (by rfl) (by first | exact rfl | (rw [← HOn.out]; done))).mono ?_; rintro e w1 ⟨rfl, hs⟩; (try simp only [World.size_alloc] at hs); replace HS := Aside0.mk hs; clear hs; (try clear hxl); clear x0 x1 x2 x3 x4 x5 x6 x7 x8 x9; obtain ⟨x0, x1, x2, x3, x4, x5, x6, x7, x8, x9⟩ := HX.out _ (sl_below0 HS.out); have hxl := World.block_lt_of_cell? _ _ x0; (try clear rA rB rC rE); (try (have rA := c_at HS.out 1 rfl 0 rfl; have rB := c_at HS.out 1 rfl 1 rfl; have rC := c_at HS.out 1 rfl 2 rfl; have rE := c_at HS.out 1 rfl 3 rfl)))
        | (go_at_call 18; refine (Sta_sl (by repeat (with_reducible first | exact HS.out | apply sl_drewN | apply sl_drew | apply sl_box | apply sl_alloc)) 0 HN.out (by rfl)).mono ?_; rintro e w1 ⟨rfl, hs⟩; (try simp only [World.size_alloc] at hs); replace HS := Aside0.mk hs; clear hs; (try clear hxl); clear x0 x1 x2 x3 x4 x5 x6 x7 x8 x9; obtain ⟨x0, x1, x2, x3, x4, x5, x6, x7, x8, x9⟩ := HX.out _ (sl_below0 HS.out); have hxl := World.block_lt_of_cell? _ _ x0; (try clear rA rB rC rE); (try (have rA := c_at HS.out 1 rfl 0 rfl; have rB := c_at HS.out 1 rfl 1 rfl; have rC := c_at HS.out 1 rfl 2 rfl; have rE := c_at HS.out 1 rfl 3 rfl))))
          go_roundg kq
          case measure => omega
          case rel => exact ⟨i + 1, S, rfl, by rw [HN.out], ⟨by have := HI.out; omega⟩, ⟨(by first | exact sl_take HS.out 1 | (repeat (with_reducible first | exact HS.out | apply sl_drewN | apply sl_drew | apply sl_alloc)))⟩⟩
      have hbb := hsf.bits (fun h => k2 h.2)
      obtain rfl : M = N := by rw [← hM, ← hN, hbb]
      have d2 : (x.f0 == 2) = false := beq_eq_false_iff_ne.2 k2
      have e2 : (x.f0 != 2) = true := by unfold bne; rw [d2]; rfl
      by_cases k0 : x.f0 = 0
      · have d0 : (x.f0 == 0) = true := beq_iff_eq.2 k0
        have e0 : (x.f0 != 0) = false := by unfold bne; rw [d0]; rfl
        have d1 : (x.f0 == 1) = false := beq_eq_false_iff_ne.2 (by omega)
        have e1 : (x.f0 != 1) = true := by unfold bne; rw [d1]; rfl
        have d3 : (x.f0 == 3) = false := beq_eq_false_iff_ne.2 (by omega)
        have e3 : (x.f0 != 3) = true := by unfold bne; rw [d3]; rfl
        have d4 : (x.f0 == 4) = false := beq_eq_false_iff_ne.2 (by omega)
        have e4 : (x.f0 != 4) = true := by unfold bne; rw [d4]; rfl
        obtain ⟨g1, g2, g3, g4⟩ := hsf.geo (by omega)
        have g1' : (S.gx != s.gx) = false := bne_eq_false_iff_eq.2 g1
        have g2' : (S.gy != s.gy) = false := bne_eq_false_iff_eq.2 g2
        have g3' : (S.fx != s.fx) = false := bne_eq_false_iff_eq.2 g3
        have g4' : (S.fy != s.fy) = false := bne_eq_false_iff_eq.2 g4
        clear hsf c1 k2 hbb hM hN g1 g2 g3 g4 k0
        go_wp2_with (first
        | (go_at_call 20; refine (Geo_sl (by repeat (with_reducible first | exact HS.out | apply sl_drewN | apply sl_drew | apply sl_box | apply sl_alloc)) 0 (by rfl)).mono ?_; rintro e w1 ⟨rfl, hs⟩; (try simp only [World.size_alloc] at hs); replace HS := Aside0.mk hs; clear hs; (try clear hxl); clear x0 x1 x2 x3 x4 x5 x6 x7 x8 x9; obtain ⟨x0, x1, x2, x3, x4, x5, x6, x7, x8, x9⟩ := HX.out _ (sl_below0 HS.out); have hxl := World.block_lt_of_cell? _ _ x0; (try clear rA rB rC rE); (try (have rA := c_at HS.out 1 rfl 0 rfl; have rB := c_at HS.out 1 rfl 1 rfl; have rC := c_at HS.out 1 rfl 2 rfl; have rE := c_at HS.out 1 rfl 3 rfl)))
        | (go_at_call 21; refine (Flt_sl (by repeat (with_reducible first | exact HS.out | apply sl_drewN | apply sl_drew | apply sl_box | apply sl_alloc)) 0 (by rfl)).mono ?_; rintro e w1 ⟨rfl, hs⟩; (try simp only [World.size_alloc] at hs); replace HS := Aside0.mk hs; clear hs; (try clear hxl); clear x0 x1 x2 x3 x4 x5 x6 x7 x8 x9; obtain ⟨x0, x1, x2, x3, x4, x5, x6, x7, x8, x9⟩ := HX.out _ (sl_below0 HS.out); have hxl := World.block_lt_of_cell? _ _ x0; (try clear rA rB rC rE); (try (have rA := c_at HS.out 1 rfl 0 rfl; have rB := c_at HS.out 1 rfl 1 rfl; have rC := c_at HS.out 1 rfl 2 rfl; have rE := c_at HS.out 1 rfl 3 rfl)))
        | (go_at_call 16; refine (call_eqv (by repeat (with_reducible first | exact HS.out | apply sl_drewN | apply sl_drew | apply sl_box | apply sl_alloc)) 0 x HD.out.1 HD.out.2.1 HD.out.2.2.1 HD.out.2.2.2.1 HD.out.2.2.2.2 (by rfl) (by first | exact rfl | (rw [← HOn.out]; done))).mono ?_; rintro e w1 ⟨rfl, hs⟩; (try simp only [World.size_alloc] at hs); replace HS := Aside0.mk hs; clear hs; (try clear hxl); clear x0 x1 x2 x3 x4 x5 x6 x7 x8 x9; obtain ⟨x0, x1, x2, x3, x4, x5, x6, x7, x8, x9⟩ := HX.out _ (sl_below0 HS.out); have hxl := World.block_lt_of_cell? _ _ x0; (try clear rA rB rC rE); (try (have rA := c_at HS.out 1 rfl 0 rfl; have rB := c_at HS.out 1 rfl 1 rfl; have rC := c_at HS.out 1 rfl 2 rfl; have rE := c_at HS.out 1 rfl 3 rfl)))
        | (go_at_call 18; refine (Sta_sl (by repeat (with_reducible first | exact HS.out | apply sl_drewN | apply sl_drew | apply sl_box | apply sl_alloc)) 0 HN.out (by rfl)).mono ?_; rintro e w1 ⟨rfl, hs⟩; (try simp only [World.size_alloc] at hs); replace HS := Aside0.mk hs; clear hs; (try clear hxl); clear x0 x1 x2 x3 x4 x5 x6 x7 x8 x9; obtain ⟨x0, x1, x2, x3, x4, x5, x6, x7, x8, x9⟩ := HX.out _ (sl_below0 HS.out); have hxl := World.block_lt_of_cell? _ _ x0; (try clear rA rB rC rE); (try (have rA := c_at HS.out 1 rfl 0 rfl; have rB := c_at HS.out 1 rfl 1 rfl; have rC := c_at HS.out 1 rfl 2 rfl; have rE := c_at HS.out 1 rfl 3 rfl))))
        go_roundg kq
        case measure => omega
        case rel => exact ⟨i + 1, S, rfl, by rw [HN.out], ⟨by have := HI.out; omega⟩, ⟨(by first | exact sl_take HS.out 1 | (repeat (with_reducible first | exact HS.out | apply sl_drewN | apply sl_drew | apply sl_alloc)))⟩⟩
      have d0 : (x.f0 == 0) = false := beq_eq_false_iff_ne.2 k0
      have e0 : (x.f0 != 0) = true := by unfold bne; rw [d0]; rfl
      by_cases k1 : x.f0 = 1
      · have d1 : (x.f0 == 1) = true := beq_iff_eq.2 k1
        have e1 : (x.f0 != 1) = false := by unfold bne; rw [d1]; rfl
        have d3 : (x.f0 == 3) = false := beq_eq_false_iff_ne.2 (by omega)
        have e3 : (x.f0 != 3) = true := by unfold bne; rw [d3]; rfl
        have d4 : (x.f0 == 4) = false := beq_eq_false_iff_ne.2 (by omega)
        have e4 : (x.f0 != 4) = true := by unfold bne; rw [d4]; rfl
        obtain ⟨g1, g2, g3, g4⟩ := hsf.geo (by omega)
        have g1' : (S.gx != s.gx) = false := bne_eq_false_iff_eq.2 g1
        have g2' : (S.gy != s.gy) = false := bne_eq_false_iff_eq.2 g2
        have g3' : (S.fx != s.fx) = false := bne_eq_false_iff_eq.2 g3
        have g4' : (S.fy != s.fy) = false := bne_eq_false_iff_eq.2 g4
        clear hsf c1 k2 hbb hM hN g1 g2 g3 g4 k0 k1
        go_wp2_with (first
        | (go_at_call 20; refine (Geo_sl (by repeat (with_reducible first | exact HS.out | apply sl_drewN | apply sl_drew | apply sl_box | apply sl_alloc)) 0 (by rfl)).mono ?_; rintro e w1 ⟨rfl, hs⟩; (try simp only [World.size_alloc] at hs); replace HS := Aside0.mk hs; clear hs; (try clear hxl); clear x0 x1 x2 x3 x4 x5 x6 x7 x8 x9; obtain ⟨x0, x1, x2, x3, x4, x5, x6, x7, x8, x9⟩ := HX.out _ (sl_below0 HS.out); have hxl := World.block_lt_of_cell? _ _ x0; (try clear rA rB rC rE); (try (have rA := c_at HS.out 1 rfl 0 rfl; have rB := c_at HS.out 1 rfl 1 rfl; have rC := c_at HS.out 1 rfl 2 rfl; have rE := c_at HS.out 1 rfl 3 rfl)))
        | (go_at_call 21; refine (Flt_sl (by repeat (with_reducible first | exact HS.out | apply sl_drewN | apply sl_drew | apply sl_box | apply sl_alloc)) 0 (by rfl)).mono ?_; rintro e w1 ⟨rfl, hs⟩; (try simp only [World.size_alloc] at hs); replace HS := Aside0.mk hs; clear hs; (try clear hxl); clear x0 x1 x2 x3 x4 x5 x6 x7 x8 x9; obtain ⟨x0, x1, x2, x3, x4, x5, x6, x7, x8, x9⟩ := HX.out _ (sl_below0 HS.out); have hxl := World.block_lt_of_cell? _ _ x0; (try clear rA rB rC rE); (try (have rA := c_at HS.out 1 rfl 0 rfl; have rB := c_at HS.out 1 rfl 1 rfl; have rC := c_at HS.out 1 rfl 2 rfl; have rE := c_at HS.out 1 rfl 3 rfl)))
        | (go_at_call 16; refine (call_eqv (by repeat (with_reducible first | exact HS.out | apply sl_drewN | apply sl_drew | apply sl_box | apply sl_alloc)) 0 x HD.out.1 HD.out.2.1 HD.out.2.2.1 HD.out.2.2.2.1 HD.out.2.2.2.2 (by rfl) (by first | exact rfl | (rw [← HOn.out]; done))).mono ?_; rintro e w1 ⟨rfl, hs⟩; (try simp only [World.size_alloc] at hs); replace HS := Aside0.mk hs; clear hs; (try clear hxl); clear x0 x1 x2 x3 x4 x5 x6 x7 x8 x9; obtain ⟨x0, x1, x2, x3, x4, x5, x6, x7, x8, x9⟩ := HX.out _ (sl_below0 HS.out); have hxl := World.block_lt_of_cell? _ _ x0; (try clear rA rB rC rE); (try (have rA := c_at HS.out 1 rfl 0 rfl; have rB := c_at HS.out 1 rfl 1 rfl; have rC := c_at HS.out 1 rfl 2 rfl; have rE := c_at HS.out 1 rfl 3 rfl)))
        | (go_at_call 18; refine (Sta_sl (by repeat (with_reducible first | exact HS.out | apply sl_drewN | apply sl_drew | apply sl_box | apply sl_alloc)) 0 HN.out (by rfl)).mono ?_; rintro e w1 ⟨rfl, hs⟩; (try simp only [World.size_alloc] at hs); replace HS := Aside0.mk hs; clear hs; (try clear hxl); clear x0 x1 x2 x3 x4 x5 x6 x7 x8 x9; obtain ⟨x0, x1, x2, x3, x4, x5, x6, x7, x8, x9⟩ := HX.out _ (sl_below0 HS.out); have hxl := World.block_lt_of_cell? _ _ x0; (try clear rA rB rC rE); (try (have rA := c_at HS.out 1 rfl 0 rfl; have rB := c_at HS.out 1 rfl 1 rfl; have rC := c_at HS.out 1 rfl 2 rfl; have rE := c_at HS.out 1 rfl 3 rfl))))
        go_roundg kq
        case measure => omega
        case rel => exact ⟨i + 1, S, rfl, by rw [HN.out], ⟨by have := HI.out; omega⟩, ⟨(by first | exact sl_take HS.out 1 | (repeat (with_reducible first | exact HS.out | apply sl_drewN | apply sl_drew | apply sl_alloc)))⟩⟩
      have d1 : (x.f0 == 1) = false := beq_eq_false_iff_ne.2 k1
      have e1 : (x.f0 != 1) = true := by unfold bne; rw [d1]; rfl
      by_cases k3 : x.f0 = 3
      · have d3 : (x.f0 == 3) = true := beq_iff_eq.2 k3
        have e3 : (x.f0 != 3) = false := by unfold bne; rw [d3]; rfl
        have d4 : (x.f0 == 4) = false := beq_eq_false_iff_ne.2 (by omega)
        have e4 : (x.f0 != 4) = true := by unfold bne; rw [d4]; rfl
        obtain ⟨g1, g2, g3, g4⟩ := hsf.geo (by omega)
        have g1' : (S.gx != s.gx) = false := bne_eq_false_iff_eq.2 g1
        have g2' : (S.gy != s.gy) = false := bne_eq_false_iff_eq.2 g2
        have g3' : (S.fx != s.fx) = false := bne_eq_false_iff_eq.2 g3
        have g4' : (S.fy != s.fy) = false := bne_eq_false_iff_eq.2 g4
        clear hsf c1 k2 hbb hM hN g1 g2 g3 g4 k0 k1 k3
        go_wp2_with (first
        | (go_at_call 20; refine (Geo_sl (by repeat (with_reducible first | exact HS.out | apply sl_drewN | apply sl_drew | apply sl_box | apply sl_alloc)) 0 (by rfl)).mono ?_; rintro e w1 ⟨rfl, hs⟩; (try simp only [World.size_alloc] at hs); replace HS := Aside0.mk hs; clear hs; (try clear hxl); clear x0 x1 x2 x3 x4 x5 x6 x7 x8 x9; obtain ⟨x0, x1, x2, x3, x4, x5, x6, x7, x8, x9⟩ := HX.out _ (sl_below0 HS.out); have hxl := World.block_lt_of_cell? _ _ x0; (try clear rA rB rC rE); (try (have rA := c_at HS.out 1 rfl 0 rfl; have rB := c_at HS.out 1 rfl 1 rfl; have rC := c_at HS.out 1 rfl 2 rfl; have rE := c_at HS.out 1 rfl 3 rfl)))
        | (go_at_call 21; refine (Flt_sl (by repeat (with_reducible first | exact HS.out | apply sl_drewN | apply sl_drew | apply sl_box | apply sl_alloc)) 0 (by rfl)).mono ?_; rintro e w1 ⟨rfl, hs⟩; (try simp only [World.size_alloc] at hs); replace HS := Aside0.mk hs; clear hs; (try clear hxl); clear x0 x1 x2 x3 x4 x5 x6 x7 x8 x9; obtain ⟨x0, x1, x2, x3, x4, x5, x6, x7, x8, x9⟩ := HX.out _ (sl_below0 HS.out); have hxl := World.block_lt_of_cell? _ _ x0; (try clear rA rB rC rE); (try (have rA := c_at HS.out 1 rfl 0 rfl; have rB := c_at HS.out 1 rfl 1 rfl; have rC := c_at HS.out 1 rfl 2 rfl; have rE := c_at HS.out 1 rfl 3 rfl)))
        | (go_at_call 16; refine (call_eqv (by repeat (with_reducible first | exact HS.out | apply sl_drewN | apply sl_drew | apply sl_box | apply sl_alloc)) 0 x HD.out.1 HD.out.2.1 HD.out.2.2.1 HD.out.2.2.2.1 HD.out.2.2.2.2 (by rfl) (by first | exact rfl | (rw [← HOn.out]; done))).mono ?_; rintro e w1 ⟨rfl, hs⟩; (try simp only [World.size_alloc] at hs); replace HS := Aside0.mk hs; clear hs; (try clear hxl); clear x0 x1 x2 x3 x4 x5 x6 x7 x8 x9; obtain ⟨x0, x1, x2, x3, x4, x5, x6, x7, x8, x9⟩ := HX.out _ (sl_below0 HS.out); have hxl := World.block_lt_of_cell? _ _ x0; (try clear rA rB rC rE); (try (have rA := c_at HS.out 1 rfl 0 rfl; have rB := c_at HS.out 1 rfl 1 rfl; have rC := c_at HS.out 1 rfl 2 rfl; have rE := c_at HS.out 1 rfl 3 rfl)))
        | (go_at_call 18; refine (Sta_sl (by repeat (with_reducible first | exact HS.out | apply sl_drewN | apply sl_drew | apply sl_box | apply sl_alloc)) 0 HN.out (by rfl)).mono ?_; rintro e w1 ⟨rfl, hs⟩; (try simp only [World.size_alloc] at hs); replace HS := Aside0.mk hs; clear hs; (try clear hxl); clear x0 x1 x2 x3 x4 x5 x6 x7 x8 x9; obtain ⟨x0, x1, x2, x3, x4, x5, x6, x7, x8, x9⟩ := HX.out _ (sl_below0 HS.out); have hxl := World.block_lt_of_cell? _ _ x0; (try clear rA rB rC rE); (try (have rA := c_at HS.out 1 rfl 0 rfl; have rB := c_at HS.out 1 rfl 1 rfl; have rC := c_at HS.out 1 rfl 2 rfl; have rE := c_at HS.out 1 rfl 3 rfl))))
        go_roundg kq
        case measure => omega
        case rel => exact ⟨i + 1, S, rfl, by rw [HN.out], ⟨by have := HI.out; omega⟩, ⟨(by first | exact sl_take HS.out 1 | (repeat (with_reducible first | exact HS.out | apply sl_drewN | apply sl_drew | apply sl_alloc)))⟩⟩
      have d3 : (x.f0 == 3) = false := beq_eq_false_iff_ne.2 k3
      have e3 : (x.f0 != 3) = true := by unfold bne; rw [d3]; rfl
      by_cases k4 : x.f0 = 4
      · have d4 : (x.f0 == 4) = true := beq_iff_eq.2 k4
        have e4 : (x.f0 != 4) = false := by unfold bne; rw [d4]; rfl
        obtain ⟨g1, g2, g3, g4⟩ := hsf.geo (by omega)
        have g1' : (S.gx != s.gx) = false := bne_eq_false_iff_eq.2 g1
        have g2' : (S.gy != s.gy) = false := bne_eq_false_iff_eq.2 g2
        have g3' : (S.fx != s.fx) = false := bne_eq_false_iff_eq.2 g3
        have g4' : (S.fy != s.fy) = false := bne_eq_false_iff_eq.2 g4
        clear hsf c1 k2 hbb hM hN g1 g2 g3 g4 k0 k1 k3 k4
        go_wp2_with (first
        | (go_at_call 20; refine (Geo_sl (by repeat (with_reducible first | exact HS.out | apply sl_drewN | apply sl_drew | apply sl_box | apply sl_alloc)) 0 (by rfl)).mono ?_; rintro e w1 ⟨rfl, hs⟩; (try simp only [World.size_alloc] at hs); replace HS := Aside0.mk hs; clear hs; (try clear hxl); clear x0 x1 x2 x3 x4 x5 x6 x7 x8 x9; obtain ⟨x0, x1, x2, x3, x4, x5, x6, x7, x8, x9⟩ := HX.out _ (sl_below0 HS.out); have hxl := World.block_lt_of_cell? _ _ x0; (try clear rA rB rC rE); (try (have rA := c_at HS.out 1 rfl 0 rfl; have rB := c_at HS.out 1 rfl 1 rfl; have rC := c_at HS.out 1 rfl 2 rfl; have rE := c_at HS.out 1 rfl 3 rfl)))
        | (go_at_call 21; refine (Flt_sl (by repeat (with_reducible first | exact HS.out | apply sl_drewN | apply sl_drew | apply sl_box | apply sl_alloc)) 0 (by rfl)).mono ?_; rintro e w1 ⟨rfl, hs⟩; (try simp only [World.size_alloc] at hs); replace HS := Aside0.mk hs; clear hs; (try clear hxl); clear x0 x1 x2 x3 x4 x5 x6 x7 x8 x9; obtain ⟨x0, x1, x2, x3, x4, x5, x6, x7, x8, x9⟩ := HX.out _ (sl_below0 HS.out); have hxl := World.block_lt_of_cell? _ _ x0; (try clear rA rB rC rE); (try (have rA := c_at HS.out 1 rfl 0 rfl; have rB := c_at HS.out 1 rfl 1 rfl; have rC := c_at HS.out 1 rfl 2 rfl; have rE := c_at HS.out 1 rfl 3 rfl)))
        | (go_at_call 16; refine (call_eqv (by repeat (with_reducible first | exact HS.out | apply sl_drewN | apply sl_drew | apply sl_box | apply sl_alloc)) 0 x HD.out.1 HD.out.2.1 HD.out.2.2.1 HD.out.2.2.2.1 HD.out.2.2.2.2 (by rfl) (by first | exact rfl | (rw [← HOn.out]; done))).mono ?_; rintro e w1 ⟨rfl, hs⟩; (try simp only [World.size_alloc] at hs); replace HS := Aside0.mk hs; clear hs; (try clear hxl); clear x0 x1 x2 x3 x4 x5 x6 x7 x8 x9; obtain ⟨x0, x1, x2, x3, x4, x5, x6, x7, x8, x9⟩ := HX.out _ (sl_below0 HS.out); have hxl := World.block_lt_of_cell? _ _ x0; (try clear rA rB rC rE); (try (have rA := c_at HS.out 1 rfl 0 rfl; have rB := c_at HS.out 1 rfl 1 rfl; have rC := c_at HS.out 1 rfl 2 rfl; have rE := c_at HS.out 1 rfl 3 rfl)))
        | (go_at_call 18; refine (Sta_sl (by repeat (with_reducible first | exact HS.out | apply sl_drewN | apply sl_drew | apply sl_box | apply sl_alloc)) 0 HN.out (by rfl)).mono ?_; rintro e w1 ⟨rfl, hs⟩; (try simp only [World.size_alloc] at hs); replace HS := Aside0.mk hs; clear hs; (try clear hxl); clear x0 x1 x2 x3 x4 x5 x6 x7 x8 x9; obtain ⟨x0, x1, x2, x3, x4, x5, x6, x7, x8, x9⟩ := HX.out _ (sl_below0 HS.out); have hxl := World.block_lt_of_cell? _ _ x0; (try clear rA rB rC rE); (try (have rA := c_at HS.out 1 rfl 0 rfl; have rB := c_at HS.out 1 rfl 1 rfl; have rC := c_at HS.out 1 rfl 2 rfl; have rE := c_at HS.out 1 rfl 3 rfl))))
        go_roundg kq
        case measure => omega
        case rel => exact ⟨i + 1, S, rfl, by rw [HN.out], ⟨by have := HI.out; omega⟩, ⟨(by first | exact sl_take HS.out 1 | (repeat (with_reducible first | exact HS.out | apply sl_drewN | apply sl_drew | apply sl_alloc)))⟩⟩
      have d4 : (x.f0 == 4) = false := beq_eq_false_iff_ne.2 k4
      have e4 : (x.f0 != 4) = true := by unfold bne; rw [d4]; rfl
      clear hsf c1 k2 hbb hM hN k0 k1 k3 k4
      go_wp2_with (first
        | (go_at_call 20; refine (Geo_sl (by repeat (with_reducible first | exact HS.out | apply sl_drewN | apply sl_drew | apply sl_box | apply sl_alloc)) 0 (by rfl)).mono ?_; rintro e w1 ⟨rfl, hs⟩; (try simp only [World.size_alloc] at hs); replace HS := Aside0.mk hs; clear hs; (try clear hxl); clear x0 x1 x2 x3 x4 x5 x6 x7 x8 x9; obtain ⟨x0, x1, x2, x3, x4, x5, x6, x7, x8, x9⟩ := HX.out _ (sl_below0 HS.out); have hxl := World.block_lt_of_cell? _ _ x0; (try clear rA rB rC rE); (try (have rA := c_at HS.out 1 rfl 0 rfl; have rB := c_at HS.out 1 rfl 1 rfl; have rC := c_at HS.out 1 rfl 2 rfl; have rE := c_at HS.out 1 rfl 3 rfl)))
        | (go_at_call 21; refine (Flt_sl (by repeat (with_reducible first | exact HS.out | apply sl_drewN | apply sl_drew | apply sl_box | apply sl_alloc)) 0 (by rfl)).mono ?_; rintro e w1 ⟨rfl, hs⟩; (try simp only [World.size_alloc] at hs); replace HS := Aside0.mk hs; clear hs; (try clear hxl); clear x0 x1 x2 x3 x4 x5 x6 x7 x8 x9; obtain ⟨x0, x1, x2, x3, x4, x5, x6, x7, x8, x9⟩ := HX.out _ (sl_below0 HS.out); have hxl := World.block_lt_of_cell? _ _ x0; (try clear rA rB rC rE); (try (have rA := c_at HS.out 1 rfl 0 rfl; have rB := c_at HS.out 1 rfl 1 rfl; have rC := c_at HS.out 1 rfl 2 rfl; have rE := c_at HS.out 1 rfl 3 rfl)))
        | (go_at_call 16; refine (call_eqv (by repeat (with_reducible first | exact HS.out | apply sl_drewN | apply sl_drew | apply sl_box | apply sl_alloc)) 0 x HD.out.1 HD.out.2.1 HD.out.2.2.1 HD.out.2.2.2.1 HD.out.2.2.2.2 (by rfl) (by first | exact rfl | (rw [← HOn.out]; done))).mono ?_; rintro e w1 ⟨rfl, hs⟩; (try simp only [World.size_alloc] at hs); replace HS := Aside0.mk hs; clear hs; (try clear hxl); clear x0 x1 x2 x3 x4 x5 x6 x7 x8 x9; obtain ⟨x0, x1, x2, x3, x4, x5, x6, x7, x8, x9⟩ := HX.out _ (sl_below0 HS.out); have hxl := World.block_lt_of_cell? _ _ x0; (try clear rA rB rC rE); (try (have rA := c_at HS.out 1 rfl 0 rfl; have rB := c_at HS.out 1 rfl 1 rfl; have rC := c_at HS.out 1 rfl 2 rfl; have rE := c_at HS.out 1 rfl 3 rfl)))
        | (go_at_call 18; refine (Sta_sl (by repeat (with_reducible first | exact HS.out | apply sl_drewN | apply sl_drew | apply sl_box | apply sl_alloc)) 0 HN.out (by rfl)).mono ?_; rintro e w1 ⟨rfl, hs⟩; (try simp only [World.size_alloc] at hs); replace HS := Aside0.mk hs; clear hs; (try clear hxl); clear x0 x1 x2 x3 x4 x5 x6 x7 x8 x9; obtain ⟨x0, x1, x2, x3, x4, x5, x6, x7, x8, x9⟩ := HX.out _ (sl_below0 HS.out); have hxl := World.block_lt_of_cell? _ _ x0; (try clear rA rB rC rE); (try (have rA := c_at HS.out 1 rfl 0 rfl; have rB := c_at HS.out 1 rfl 1 rfl; have rC := c_at HS.out 1 rfl 2 rfl; have rE := c_at HS.out 1 rfl 3 rfl))))
      go_roundg kq
      case measure => omega
      case rel => exact ⟨i + 1, S, rfl, by rw [HN.out], ⟨by have := HI.out; omega⟩, ⟨(by first | exact sl_take HS.out 1 | (repeat (with_reducible first | exact HS.out | apply sl_drewN | apply sl_drew | apply sl_alloc)))⟩⟩
    · have b1 : decide (i < l.length) = false := decide_eq_false hlt
      clear hlt hi
      go_wp2_with (first
    | (go_at_call 13; refine (light_c (by repeat (with_reducible first | exact HS.out | apply sl_drewN | apply sl_drew | apply sl_alloc)) HR.out HLc.out HLi.out).mono ?_; rintro e w1 ⟨rfl, hs⟩; (try simp only [World.size_alloc] at hs); replace HS := Aside0.mk hs; clear hs)
    | (go_at_call 8; refine (ex_c (by repeat (with_reducible first | exact HS.out | apply sl_drewN | apply sl_drew | apply sl_alloc))).mono ?_; rintro e w1 ⟨rfl, hs⟩; (try simp only [World.size_alloc] at hs); replace HS := Aside0.mk hs; clear hs))
      try rw [Exit.noGoto_ret]
      go_ret
      exact ⟨rfl, sl_below0 HS.out⟩
end Go.Proofs.Ytckpgccbhaejgaa.Q
