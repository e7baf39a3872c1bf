import Derived.Laws.StandIn
import Derived.Test.YtckpgccbhaejgaaT21
namespace Go.Proofs.Ytckpgccbhaejgaa.Q
open Go.RowKit Go.Proofs.YtckpgccbhaejgaaW.PrintWords Go.Proofs.YtckpgccbhaejgaaW.PrintLast Go.Proofs.YtckpgccbhaejgaaW.PrintMore Go.Proofs.Ytckpgccbhaejgaa.Sl Go.Proofs.Ytckpgccbhaejgaa.Hand 
attribute [local go_sem] max2_int min2_int max_two min_two max_three min_three max_four min_four 
set_option linter.unusedVariables false
set_option linter.unusedSimpArgs false

abbrev bx (g : Nat) (x y : Int) : Res := cellsR g 23 #[.int .i64 x, .int .i64 y]
set_option maxHeartbeats 8000000 in
set_option maxRecDepth 100000 in
theorem Limits_law (A : Option Addr) (c : Nat) (l : List S46) (w : World) (hr : Kd.C k46 w A l.length l) (hc : l.length ≤ c) :
    Calls Try.prog 5 #[.slice A l.length c] w fun e w' => e = .returned (.bool true) ∧ Below w.heap.size w w' := by
  have HS := Aside0.mk (sl_start w)
  have HR := Aside0.mk hr
  have hm := hr.2.1
  have HLc := Aside0.mk hc
  obtain ⟨lb, hlb⟩ : ∃ lb, lightB l = lb := ⟨_, rfl⟩
  have HLi := Aside0.mk hlb
  clear hr hc
  cases lb
  · clear hlb
    go_enter Try.func5, Try.ntmps5
    go_wp2_with (first
    | (go_at_call 13; refine (light_c (by repeat (with_reducible first | exact HS.out | apply sl_drewN | apply sl_drew | apply sl_alloc)) HR.out HLc.out HLi.out).mono ?_; rintro e w1 ⟨rfl, hs⟩; (try simp only [World.size_alloc] at hs); replace HS := Aside0.mk hs; clear hs)
    | (go_at_call 8; refine (ex_c (by repeat (with_reducible first | exact HS.out | apply sl_drewN | apply sl_drew | apply sl_alloc))).mono ?_; rintro e w1 ⟨rfl, hs⟩; (try simp only [World.size_alloc] at hs); replace HS := Aside0.mk hs; clear hs))
    go_ret
    exact ⟨rfl, sl_below0 HS.out⟩
  have hl : l.length ≤ 40 := by
    unfold lightB at hlb
    rw [Bool.and_eq_true, decide_eq_true_eq] at hlb
    exact hlb.1
  clear hlb
  have HW := Aside0.mk (show ∀ {w' : World} {L : List Res}, SL w w' L → Calls Try.prog 9 #[] w' fun e w'' => ∃ g : Nat, e = .returned (.pointer (some ⟨g, 0, none⟩)) ∧ SL w w'' (L ++ [winR g wz]) from fun h => New_c h)
  go_enter Try.func5, Try.ntmps5
  go_wp2_with (first
    | (go_at_call 13; refine (light_c (by repeat (with_reducible first | exact HS.out | apply sl_drewN | apply sl_drew | apply sl_alloc)) HR.out HLc.out HLi.out).mono ?_; rintro e w1 ⟨rfl, hs⟩; (try simp only [World.size_alloc] at hs); replace HS := Aside0.mk hs; clear hs)
    | (go_at_call 9; refine (HW.out (by repeat (with_reducible first | exact HS.out | apply sl_drewN | apply sl_drew | apply sl_alloc))).mono ?_; rintro e w1 ⟨g, rfl, hs⟩; (try simp only [World.size_alloc] at hs); replace HS := Aside0.mk hs; clear hs))
  obtain ⟨gl, hgl⟩ : ∃ q, w1.heap.size = q := ⟨_, rfl⟩
  have HSS : Aside0 (SL w _ [winR g wz, bx gl 0 0, bx (gl + 1) 0 0, bx (gl + 1 + 1) 0 0]) := ⟨by
    have h1 := sl_box (sl_box (sl_box HS.out #[.int .i64 0, .int .i64 0] 23) #[.int .i64 0, .int .i64 0] 23) #[.int .i64 0, .int .i64 0] 23
    simp only [World.size_alloc, hgl] at h1
    exact h1⟩
  try simp only [hgl]
  go_loopg [7] l.length (fun kq v7 wr => ∃ (i : Nat) (s : WSt), v7 = .int .i64 (i : Int) ∧ Aside0 (i + kq = l.length) ∧ Aside0 (WI s) ∧ Aside0 (SL w wr [winR g s, bx gl s.lx s.ly, bx (gl + 1) s.mx s.my, bx (gl + 1 + 1) s.sx s.sy]))
  case atStart => exact ⟨0, wz, rfl, ⟨by omega⟩, ⟨wi0⟩, HSS⟩
  case round =>
    clear HSS HS hgl
    obtain ⟨i, s, rfl, HI, HWi, HS⟩ := hrel
    have hi := HI.out
    by_cases hlt : i < l.length
    · have b1 : decide (i < l.length) = true := decide_eq_true hlt
      obtain ⟨kq, rfl⟩ : ∃ m, gk = m + 1 := ⟨gk - 1, by omega⟩
      obtain ⟨ad, rfl, hx⟩ := atO HR.out i hlt
      generalize l[i] = x at hx
      have hlf := lf HWi.out x
      obtain ⟨CA, hA⟩ : ∃ z, opA s x = z := ⟨_, rfl⟩
      obtain ⟨CB, hB⟩ : ∃ z, opB s x = z := ⟨_, rfl⟩
      obtain ⟨CC, hC⟩ : ∃ z, opC s x = z := ⟨_, rfl⟩
      obtain ⟨E, hE⟩ : ∃ z, opE s x = z := ⟨_, rfl⟩
      obtain ⟨S, hS⟩ : ∃ z, opS s x = z := ⟨_, rfl⟩
      have HD := Aside0.mk (And.intro hA (And.intro hB (And.intro hC (And.intro hE hS))))
      rw [hA, hB, hE, hS] at hlf
      have HWj := Aside0.mk hlf.wi
      obtain ⟨N, hN⟩ : ∃ M, mskI S.b = M := ⟨_, rfl⟩
      have HN := Aside0.mk hN
      have a3 := and3 S.b
      rw [hN] at a3
      obtain ⟨X3, h33⟩ : ∃ X, Go.bits .and .i64 N 3 = X := ⟨_, rfl⟩
      rw [h33] at a3
      obtain ⟨x0, x1, x2, x3, x4, x5, x6, x7, x8, x9⟩ := hx _ (sl_below0 HS.out)
      have HX := Aside0.mk hx
      have p1 : (0 : Int) ≤ (i : Int) := by omega
      have p2 : (i : Int) < (l.length : Int) := by omega
      clear hx hA hB hC hE hS hlt hi hN
      obtain ⟨fb, hfb⟩ : ∃ fb, (S.b.a || S.b.b) = fb := ⟨_, rfl⟩
      rw [hfb] at a3
      have hlf23 := hlf.k23
      have hlf5 := hlf.k5
      rw [hfb] at hlf23 hlf5
      by_cases c1 : E = 0
      rotate_left
      · have z : (E == 0) = false := beq_eq_false_iff_ne.2 c1
        have z' : (E != 0) = true := bne_iff_ne.2 c1
        obtain rfl : S = s := hlf.k4 (.inl c1)
        clear hlf hlf23 hlf5 c1 hfb
        go_wp2_with (first
        | (go_at_call 16; refine (call_eqw (by repeat (with_reducible first | exact HS.out | apply sl_drewN | apply sl_drew | apply sl_box | apply sl_alloc)) 0 x HD.out.1 HD.out.2.1 HD.out.2.2.1 HD.out.2.2.2.1 HD.out.2.2.2.2 (by rfl) (by first | exact rfl | (rw [← HOn.out]; done))).mono ?_; rintro e w1 ⟨rfl, hs⟩; (try simp only [World.size_alloc] at hs); replace HS := Aside0.mk hs; clear hs; (try clear hxl); clear x0 x1 x2 x3 x4 x5 x6 x7 x8 x9; obtain ⟨x0, x1, x2, x3, x4, x5, x6, x7, x8, x9⟩ := HX.out _ (sl_below0 HS.out); have hxl := World.block_lt_of_cell? _ _ x0; (try clear rA rB rC rE); (try clear nr nr' nl nl' nh nh'); (try (have rA := c_at HS.out 4 rfl 0 rfl; have rB := c_at HS.out 4 rfl 1 rfl; have rC := c_at HS.out 4 rfl 2 rfl; have rE := c_at HS.out 4 rfl 3 rfl; have rl := blk_lt (sl_blk HS.out 4 rfl); have nr := sl_ne HS.out 3 4 (by decide) rfl rfl; have nr' := Ne.symm nr; have nl := sl_ne HS.out 3 1 (by decide) rfl rfl; have nl' := Ne.symm nl; have nh := sl_ne HS.out 3 2 (by decide) rfl rfl; have nh' := Ne.symm nh)); (try clear bl0 bl1 bh0 bh1 bs0 bs1 fl0 fl1 fh0 fh1 fs0 fs1 ltl lth lts); have bl0 := c_at HS.out 1 rfl 0 rfl; have fl0 := f_at HS.out 1 rfl 0; have bl1 := c_at HS.out 1 rfl 1 rfl; have fl1 := f_at HS.out 1 rfl 1; have bh0 := c_at HS.out 2 rfl 0 rfl; have fh0 := f_at HS.out 2 rfl 0; have bh1 := c_at HS.out 2 rfl 1 rfl; have fh1 := f_at HS.out 2 rfl 1; have bs0 := c_at HS.out 3 rfl 0 rfl; have fs0 := f_at HS.out 3 rfl 0; have bs1 := c_at HS.out 3 rfl 1 rfl; have fs1 := f_at HS.out 3 rfl 1; have ltl := blk_lt (sl_blk HS.out 1 rfl); have lth := blk_lt (sl_blk HS.out 2 rfl); have lts := blk_lt (sl_blk HS.out 3 rfl))
        | (go_at_call 18; refine (Sta_sl (by repeat (with_reducible first | exact HS.out | apply sl_drewN | apply sl_drew | apply sl_box | apply sl_alloc)) 0 HN.out (by rfl)).mono ?_; rintro e w1 ⟨rfl, hs⟩; (try simp only [World.size_alloc] at hs); replace HS := Aside0.mk hs; clear hs; (try clear hxl); clear x0 x1 x2 x3 x4 x5 x6 x7 x8 x9; obtain ⟨x0, x1, x2, x3, x4, x5, x6, x7, x8, x9⟩ := HX.out _ (sl_below0 HS.out); have hxl := World.block_lt_of_cell? _ _ x0; (try clear rA rB rC rE); (try clear nr nr' nl nl' nh nh'); (try (have rA := c_at HS.out 4 rfl 0 rfl; have rB := c_at HS.out 4 rfl 1 rfl; have rC := c_at HS.out 4 rfl 2 rfl; have rE := c_at HS.out 4 rfl 3 rfl; have rl := blk_lt (sl_blk HS.out 4 rfl); have nr := sl_ne HS.out 3 4 (by decide) rfl rfl; have nr' := Ne.symm nr; have nl := sl_ne HS.out 3 1 (by decide) rfl rfl; have nl' := Ne.symm nl; have nh := sl_ne HS.out 3 2 (by decide) rfl rfl; have nh' := Ne.symm nh)); (try clear bl0 bl1 bh0 bh1 bs0 bs1 fl0 fl1 fh0 fh1 fs0 fs1 ltl lth lts); have bl0 := c_at HS.out 1 rfl 0 rfl; have fl0 := f_at HS.out 1 rfl 0; have bl1 := c_at HS.out 1 rfl 1 rfl; have fl1 := f_at HS.out 1 rfl 1; have bh0 := c_at HS.out 2 rfl 0 rfl; have fh0 := f_at HS.out 2 rfl 0; have bh1 := c_at HS.out 2 rfl 1 rfl; have fh1 := f_at HS.out 2 rfl 1; have bs0 := c_at HS.out 3 rfl 0 rfl; have fs0 := f_at HS.out 3 rfl 0; have bs1 := c_at HS.out 3 rfl 1 rfl; have fs1 := f_at HS.out 3 rfl 1; have ltl := blk_lt (sl_blk HS.out 1 rfl); have lth := blk_lt (sl_blk HS.out 2 rfl); have lts := blk_lt (sl_blk HS.out 3 rfl))
        | (go_at_call 19; refine (within_c (by repeat (with_reducible first | exact HS.out | exact (sl_put (sl_put HS.out 3 rfl 0 (.int .i64 CA)) 3 rfl 1 (.int .i64 CB)) | apply sl_drewN | apply sl_drew | apply sl_box | apply sl_alloc)) _ _ _ _ _ _ HWb.out).mono ?_; rintro e w1 ⟨rfl, hs⟩; (try simp only [World.size_alloc] at hs); replace HS := Aside0.mk hs; clear hs; (try clear hxl); clear x0 x1 x2 x3 x4 x5 x6 x7 x8 x9; obtain ⟨x0, x1, x2, x3, x4, x5, x6, x7, x8, x9⟩ := HX.out _ (sl_below0 HS.out); have hxl := World.block_lt_of_cell? _ _ x0; (try clear rA rB rC rE); (try clear nr nr' nl nl' nh nh'); (try (have rA := c_at HS.out 4 rfl 0 rfl; have rB := c_at HS.out 4 rfl 1 rfl; have rC := c_at HS.out 4 rfl 2 rfl; have rE := c_at HS.out 4 rfl 3 rfl; have rl := blk_lt (sl_blk HS.out 4 rfl); have nr := sl_ne HS.out 3 4 (by decide) rfl rfl; have nr' := Ne.symm nr; have nl := sl_ne HS.out 3 1 (by decide) rfl rfl; have nl' := Ne.symm nl; have nh := sl_ne HS.out 3 2 (by decide) rfl rfl; have nh' := Ne.symm nh)); (try clear bl0 bl1 bh0 bh1 bs0 bs1 fl0 fl1 fh0 fh1 fs0 fs1 ltl lth lts); have bl0 := c_at HS.out 1 rfl 0 rfl; have fl0 := f_at HS.out 1 rfl 0; have bl1 := c_at HS.out 1 rfl 1 rfl; have fl1 := f_at HS.out 1 rfl 1; have bh0 := c_at HS.out 2 rfl 0 rfl; have fh0 := f_at HS.out 2 rfl 0; have bh1 := c_at HS.out 2 rfl 1 rfl; have fh1 := f_at HS.out 2 rfl 1; have bs0 := c_at HS.out 3 rfl 0 rfl; have fs0 := f_at HS.out 3 rfl 0; have bs1 := c_at HS.out 3 rfl 1 rfl; have fs1 := f_at HS.out 3 rfl 1; have ltl := blk_lt (sl_blk HS.out 1 rfl); have lth := blk_lt (sl_blk HS.out 2 rfl); have lts := blk_lt (sl_blk HS.out 3 rfl))
        | (go_at_call 20; refine (Geo_sl (by repeat (with_reducible first | exact HS.out | apply sl_drewN | apply sl_drew | apply sl_box | apply sl_alloc)) 0 (by rfl)).mono ?_; rintro e w1 ⟨rfl, hs⟩; (try simp only [World.size_alloc] at hs); replace HS := Aside0.mk hs; clear hs; (try clear hxl); clear x0 x1 x2 x3 x4 x5 x6 x7 x8 x9; obtain ⟨x0, x1, x2, x3, x4, x5, x6, x7, x8, x9⟩ := HX.out _ (sl_below0 HS.out); have hxl := World.block_lt_of_cell? _ _ x0; (try clear rA rB rC rE); (try clear nr nr' nl nl' nh nh'); (try (have rA := c_at HS.out 4 rfl 0 rfl; have rB := c_at HS.out 4 rfl 1 rfl; have rC := c_at HS.out 4 rfl 2 rfl; have rE := c_at HS.out 4 rfl 3 rfl; have rl := blk_lt (sl_blk HS.out 4 rfl); have nr := sl_ne HS.out 3 4 (by decide) rfl rfl; have nr' := Ne.symm nr; have nl := sl_ne HS.out 3 1 (by decide) rfl rfl; have nl' := Ne.symm nl; have nh := sl_ne HS.out 3 2 (by decide) rfl rfl; have nh' := Ne.symm nh)); (try clear bl0 bl1 bh0 bh1 bs0 bs1 fl0 fl1 fh0 fh1 fs0 fs1 ltl lth lts); have bl0 := c_at HS.out 1 rfl 0 rfl; have fl0 := f_at HS.out 1 rfl 0; have bl1 := c_at HS.out 1 rfl 1 rfl; have fl1 := f_at HS.out 1 rfl 1; have bh0 := c_at HS.out 2 rfl 0 rfl; have fh0 := f_at HS.out 2 rfl 0; have bh1 := c_at HS.out 2 rfl 1 rfl; have fh1 := f_at HS.out 2 rfl 1; have bs0 := c_at HS.out 3 rfl 0 rfl; have fs0 := f_at HS.out 3 rfl 0; have bs1 := c_at HS.out 3 rfl 1 rfl; have fs1 := f_at HS.out 3 rfl 1; have ltl := blk_lt (sl_blk HS.out 1 rfl); have lth := blk_lt (sl_blk HS.out 2 rfl); have lts := blk_lt (sl_blk HS.out 3 rfl)))
        go_roundg kq
        case measure => omega
        case rel =>
          refine ⟨i + 1, S, rfl, ⟨by have := HI.out; omega⟩, HWj, ⟨?_⟩⟩
          skip
          exact (by first | exact HS.out | exact sl_take HS.out 4 | exact sl_alloc HS.out _ | (repeat (with_reducible first | exact HS.out | apply sl_drewN | apply sl_drew | apply sl_alloc)))
      have z : (E == 0) = true := beq_iff_eq.2 c1
      have z' : (E != 0) = false := bne_eq_false_iff_eq.2 c1
      by_cases k0 : x.f0 = 0
      · have d0 : (x.f0 == 0) = true := beq_iff_eq.2 k0
        have HK := Aside0.mk (hlf.k0 c1 k0)
        clear hlf hlf23 hlf5 c1 k0 hfb
        go_wp2_with (first
        | (go_at_call 16; refine (call_eqw (by repeat (with_reducible first | exact HS.out | apply sl_drewN | apply sl_drew | apply sl_box | apply sl_alloc)) 0 x HD.out.1 HD.out.2.1 HD.out.2.2.1 HD.out.2.2.2.1 HD.out.2.2.2.2 (by rfl) (by first | exact rfl | (rw [← HOn.out]; done))).mono ?_; rintro e w1 ⟨rfl, hs⟩; (try simp only [World.size_alloc] at hs); replace HS := Aside0.mk hs; clear hs; (try clear hxl); clear x0 x1 x2 x3 x4 x5 x6 x7 x8 x9; obtain ⟨x0, x1, x2, x3, x4, x5, x6, x7, x8, x9⟩ := HX.out _ (sl_below0 HS.out); have hxl := World.block_lt_of_cell? _ _ x0; (try clear rA rB rC rE); (try clear nr nr' nl nl' nh nh'); (try (have rA := c_at HS.out 4 rfl 0 rfl; have rB := c_at HS.out 4 rfl 1 rfl; have rC := c_at HS.out 4 rfl 2 rfl; have rE := c_at HS.out 4 rfl 3 rfl; have rl := blk_lt (sl_blk HS.out 4 rfl); have nr := sl_ne HS.out 3 4 (by decide) rfl rfl; have nr' := Ne.symm nr; have nl := sl_ne HS.out 3 1 (by decide) rfl rfl; have nl' := Ne.symm nl; have nh := sl_ne HS.out 3 2 (by decide) rfl rfl; have nh' := Ne.symm nh)); (try clear bl0 bl1 bh0 bh1 bs0 bs1 fl0 fl1 fh0 fh1 fs0 fs1 ltl lth lts); have bl0 := c_at HS.out 1 rfl 0 rfl; have fl0 := f_at HS.out 1 rfl 0; have bl1 := c_at HS.out 1 rfl 1 rfl; have fl1 := f_at HS.out 1 rfl 1; have bh0 := c_at HS.out 2 rfl 0 rfl; have fh0 := f_at HS.out 2 rfl 0; have bh1 := c_at HS.out 2 rfl 1 rfl; have fh1 := f_at HS.out 2 rfl 1; have bs0 := c_at HS.out 3 rfl 0 rfl; have fs0 := f_at HS.out 3 rfl 0; have bs1 := c_at HS.out 3 rfl 1 rfl; have fs1 := f_at HS.out 3 rfl 1; have ltl := blk_lt (sl_blk HS.out 1 rfl); have lth := blk_lt (sl_blk HS.out 2 rfl); have lts := blk_lt (sl_blk HS.out 3 rfl))
        | (go_at_call 18; refine (Sta_sl (by repeat (with_reducible first | exact HS.out | apply sl_drewN | apply sl_drew | apply sl_box | apply sl_alloc)) 0 HN.out (by rfl)).mono ?_; rintro e w1 ⟨rfl, hs⟩; (try simp only [World.size_alloc] at hs); replace HS := Aside0.mk hs; clear hs; (try clear hxl); clear x0 x1 x2 x3 x4 x5 x6 x7 x8 x9; obtain ⟨x0, x1, x2, x3, x4, x5, x6, x7, x8, x9⟩ := HX.out _ (sl_below0 HS.out); have hxl := World.block_lt_of_cell? _ _ x0; (try clear rA rB rC rE); (try clear nr nr' nl nl' nh nh'); (try (have rA := c_at HS.out 4 rfl 0 rfl; have rB := c_at HS.out 4 rfl 1 rfl; have rC := c_at HS.out 4 rfl 2 rfl; have rE := c_at HS.out 4 rfl 3 rfl; have rl := blk_lt (sl_blk HS.out 4 rfl); have nr := sl_ne HS.out 3 4 (by decide) rfl rfl; have nr' := Ne.symm nr; have nl := sl_ne HS.out 3 1 (by decide) rfl rfl; have nl' := Ne.symm nl; have nh := sl_ne HS.out 3 2 (by decide) rfl rfl; have nh' := Ne.symm nh)); (try clear bl0 bl1 bh0 bh1 bs0 bs1 fl0 fl1 fh0 fh1 fs0 fs1 ltl lth lts); have bl0 := c_at HS.out 1 rfl 0 rfl; have fl0 := f_at HS.out 1 rfl 0; have bl1 := c_at HS.out 1 rfl 1 rfl; have fl1 := f_at HS.out 1 rfl 1; have bh0 := c_at HS.out 2 rfl 0 rfl; have fh0 := f_at HS.out 2 rfl 0; have bh1 := c_at HS.out 2 rfl 1 rfl; have fh1 := f_at HS.out 2 rfl 1; have bs0 := c_at HS.out 3 rfl 0 rfl; have fs0 := f_at HS.out 3 rfl 0; have bs1 := c_at HS.out 3 rfl 1 rfl; have fs1 := f_at HS.out 3 rfl 1; have ltl := blk_lt (sl_blk HS.out 1 rfl); have lth := blk_lt (sl_blk HS.out 2 rfl); have lts := blk_lt (sl_blk HS.out 3 rfl))
        | (go_at_call 19; refine (within_c (by repeat (with_reducible first | exact HS.out | exact (sl_put (sl_put HS.out 3 rfl 0 (.int .i64 CA)) 3 rfl 1 (.int .i64 CB)) | apply sl_drewN | apply sl_drew | apply sl_box | apply sl_alloc)) _ _ _ _ _ _ HWb.out).mono ?_; rintro e w1 ⟨rfl, hs⟩; (try simp only [World.size_alloc] at hs); replace HS := Aside0.mk hs; clear hs; (try clear hxl); clear x0 x1 x2 x3 x4 x5 x6 x7 x8 x9; obtain ⟨x0, x1, x2, x3, x4, x5, x6, x7, x8, x9⟩ := HX.out _ (sl_below0 HS.out); have hxl := World.block_lt_of_cell? _ _ x0; (try clear rA rB rC rE); (try clear nr nr' nl nl' nh nh'); (try (have rA := c_at HS.out 4 rfl 0 rfl; have rB := c_at HS.out 4 rfl 1 rfl; have rC := c_at HS.out 4 rfl 2 rfl; have rE := c_at HS.out 4 rfl 3 rfl; have rl := blk_lt (sl_blk HS.out 4 rfl); have nr := sl_ne HS.out 3 4 (by decide) rfl rfl; have nr' := Ne.symm nr; have nl := sl_ne HS.out 3 1 (by decide) rfl rfl; have nl' := Ne.symm nl; have nh := sl_ne HS.out 3 2 (by decide) rfl rfl; have nh' := Ne.symm nh)); (try clear bl0 bl1 bh0 bh1 bs0 bs1 fl0 fl1 fh0 fh1 fs0 fs1 ltl lth lts); have bl0 := c_at HS.out 1 rfl 0 rfl; have fl0 := f_at HS.out 1 rfl 0; have bl1 := c_at HS.out 1 rfl 1 rfl; have fl1 := f_at HS.out 1 rfl 1; have bh0 := c_at HS.out 2 rfl 0 rfl; have fh0 := f_at HS.out 2 rfl 0; have bh1 := c_at HS.out 2 rfl 1 rfl; have fh1 := f_at HS.out 2 rfl 1; have bs0 := c_at HS.out 3 rfl 0 rfl; have fs0 := f_at HS.out 3 rfl 0; have bs1 := c_at HS.out 3 rfl 1 rfl; have fs1 := f_at HS.out 3 rfl 1; have ltl := blk_lt (sl_blk HS.out 1 rfl); have lth := blk_lt (sl_blk HS.out 2 rfl); have lts := blk_lt (sl_blk HS.out 3 rfl))
        | (go_at_call 20; refine (Geo_sl (by repeat (with_reducible first | exact HS.out | apply sl_drewN | apply sl_drew | apply sl_box | apply sl_alloc)) 0 (by rfl)).mono ?_; rintro e w1 ⟨rfl, hs⟩; (try simp only [World.size_alloc] at hs); replace HS := Aside0.mk hs; clear hs; (try clear hxl); clear x0 x1 x2 x3 x4 x5 x6 x7 x8 x9; obtain ⟨x0, x1, x2, x3, x4, x5, x6, x7, x8, x9⟩ := HX.out _ (sl_below0 HS.out); have hxl := World.block_lt_of_cell? _ _ x0; (try clear rA rB rC rE); (try clear nr nr' nl nl' nh nh'); (try (have rA := c_at HS.out 4 rfl 0 rfl; have rB := c_at HS.out 4 rfl 1 rfl; have rC := c_at HS.out 4 rfl 2 rfl; have rE := c_at HS.out 4 rfl 3 rfl; have rl := blk_lt (sl_blk HS.out 4 rfl); have nr := sl_ne HS.out 3 4 (by decide) rfl rfl; have nr' := Ne.symm nr; have nl := sl_ne HS.out 3 1 (by decide) rfl rfl; have nl' := Ne.symm nl; have nh := sl_ne HS.out 3 2 (by decide) rfl rfl; have nh' := Ne.symm nh)); (try clear bl0 bl1 bh0 bh1 bs0 bs1 fl0 fl1 fh0 fh1 fs0 fs1 ltl lth lts); have bl0 := c_at HS.out 1 rfl 0 rfl; have fl0 := f_at HS.out 1 rfl 0; have bl1 := c_at HS.out 1 rfl 1 rfl; have fl1 := f_at HS.out 1 rfl 1; have bh0 := c_at HS.out 2 rfl 0 rfl; have fh0 := f_at HS.out 2 rfl 0; have bh1 := c_at HS.out 2 rfl 1 rfl; have fh1 := f_at HS.out 2 rfl 1; have bs0 := c_at HS.out 3 rfl 0 rfl; have fs0 := f_at HS.out 3 rfl 0; have bs1 := c_at HS.out 3 rfl 1 rfl; have fs1 := f_at HS.out 3 rfl 1; have ltl := blk_lt (sl_blk HS.out 1 rfl); have lth := blk_lt (sl_blk HS.out 2 rfl); have lts := blk_lt (sl_blk HS.out 3 rfl)))
        refine start_ (n := 12) (S := fun w' => w'.cell? ⟨(ad.add (i * 10)).block, (ad.add (i * 10)).off + 2, none⟩ = some (.int .i64 x.f2) ∧ w'.cell? ⟨(ad.add (i * 10)).block, (ad.add (i * 10)).off + 3, none⟩ = some (.int .i64 x.f3)) (ds := [11]) #[false, false, false, false, false, false, false, false, false, false, false, false] (by kernel_rfl) rfl rfl ⟨x2, x3⟩ (fun hHeld => ?_)
        refine pure_ (i := 0) (N := some 91) (v := ?_) (a' := ?_) #[true, false, false, false, false, false, false, false, false, false, false, false] rfl rfl (by kernel_rfl) (fun _ _ _ h => h) (Or.inl ⟨by rfl, ?_⟩) ?_ ?_
        rotate_left
        · intro w'
          go_simp
          with_reducible rfl
        rotate_left
        · simp only [Act.put, List.setIfInBounds_toArray, List.set_cons_zero, List.set_cons_succ, i64_w, i32_w, IntKind.wrap_u32, IntKind.wrap_u8, IntKind.wrap_u16]
          rfl
        refine pure_ (i := 1) (N := some 92) (v := ?_) (a' := ?_) #[true, true, false, false, false, false, false, false, false, false, false, false] rfl rfl (by kernel_rfl) (fun _ _ _ h => h) (Or.inl ⟨by rfl, ?_⟩) ?_ ?_
        rotate_left
        · intro w'
          go_simp
          with_reducible rfl
        rotate_left
        · simp only [Act.put, List.setIfInBounds_toArray, List.set_cons_zero, List.set_cons_succ, i64_w, i32_w, IntKind.wrap_u32, IntKind.wrap_u8, IntKind.wrap_u16]
          rfl
        refine pure_ (i := 2) (N := some 93) (v := ?_) (a' := ?_) #[true, true, true, false, false, false, false, false, false, false, false, false] rfl rfl (by kernel_rfl) (fun _ _ _ h => h) (Or.inl ⟨by rfl, ?_⟩) ?_ ?_
        rotate_left
        · intro w'
          go_simp
          with_reducible rfl
        rotate_left
        · simp only [Act.put, List.setIfInBounds_toArray, List.set_cons_zero, List.set_cons_succ, i64_w, i32_w, IntKind.wrap_u32, IntKind.wrap_u8, IntKind.wrap_u16]
          rfl
        refine pure_ (i := 3) (N := some 94) (v := ?_) (a' := ?_) #[true, true, true, true, false, false, false, false, false, false, false, false] rfl rfl (by kernel_rfl) (fun _ _ _ h => h) (Or.inl ⟨by rfl, ?_⟩) ?_ ?_
        rotate_left
        · intro w'
          go_simp
          with_reducible rfl
        rotate_left
        · simp only [Act.put, List.setIfInBounds_toArray, List.set_cons_zero, List.set_cons_succ, i64_w, i32_w, IntKind.wrap_u32, IntKind.wrap_u8, IntKind.wrap_u16]
          rfl
        refine pure_ (i := 5) (N := some 96) (v := ?_) (a' := ?_) #[true, true, true, true, false, true, false, false, false, false, false, false] rfl rfl (by kernel_rfl) (fun _ _ _ h => h) (Or.inl ⟨by rfl, ?_⟩) ?_ ?_
        rotate_left
        · intro w'
          go_simp
          with_reducible rfl
        rotate_left
        · simp only [Act.put, List.setIfInBounds_toArray, List.set_cons_zero, List.set_cons_succ, i64_w, i32_w, IntKind.wrap_u32, IntKind.wrap_u8, IntKind.wrap_u16]
          rfl
        refine pure_ (i := 6) (N := some 97) (v := ?_) (a' := ?_) #[true, true, true, true, false, true, true, false, false, false, false, false] rfl rfl (by kernel_rfl) (fun _ _ _ h => h) (Or.inl ⟨by rfl, ?_⟩) ?_ ?_
        rotate_left
        · intro w'
          go_simp
          with_reducible rfl
        rotate_left
        · simp only [Act.put, List.setIfInBounds_toArray, List.set_cons_zero, List.set_cons_succ, i64_w, i32_w, IntKind.wrap_u32, IntKind.wrap_u8, IntKind.wrap_u16]
          rfl
        refine pure_ (i := 7) (N := some 98) (v := ?_) (a' := ?_) #[true, true, true, true, false, true, true, true, false, false, false, false] rfl rfl (by kernel_rfl) (fun _ _ _ h => h) (Or.inl ⟨by rfl, ?_⟩) ?_ ?_
        rotate_left
        · intro w'
          go_simp
          with_reducible rfl
        rotate_left
        · simp only [Act.put, List.setIfInBounds_toArray, List.set_cons_zero, List.set_cons_succ, i64_w, i32_w, IntKind.wrap_u32, IntKind.wrap_u8, IntKind.wrap_u16]
          rfl
        refine pure_ (i := 8) (N := some 99) (v := ?_) (a' := ?_) #[true, true, true, true, false, true, true, true, true, false, false, false] rfl rfl (by kernel_rfl) (fun _ _ _ h => h) (Or.inl ⟨by rfl, ?_⟩) ?_ ?_
        rotate_left
        · intro w'
          go_simp
          with_reducible rfl
        rotate_left
        · simp only [Act.put, List.setIfInBounds_toArray, List.set_cons_zero, List.set_cons_succ, i64_w, i32_w, IntKind.wrap_u32, IntKind.wrap_u8, IntKind.wrap_u16]
          rfl
        refine take_ (i := 4) (N := some 95) (v := ?_) (a' := ?_) #[true, true, true, true, true, true, true, true, true, false, false, false] rfl rfl (by kernel_rfl) (fun _ _ _ h => h) (Or.inl ⟨by rfl, ?_⟩) hHeld ?_ ?_
        rotate_left
        · rintro w' ⟨s0, s1⟩
          go_simp
          with_reducible rfl
        rotate_left
        · simp only [Act.put, List.setIfInBounds_toArray, List.set_cons_zero, List.set_cons_succ, i64_w, i32_w, IntKind.wrap_u32, IntKind.wrap_u8, IntKind.wrap_u16]
          rfl
        refine take_ (i := 9) (N := some 100) (v := ?_) (a' := ?_) #[true, true, true, true, true, true, true, true, true, true, false, false] rfl rfl (by kernel_rfl) (fun _ _ _ h => h) (Or.inl ⟨by rfl, ?_⟩) hHeld ?_ ?_
        rotate_left
        · rintro w' ⟨s0, s1⟩
          go_simp
          with_reducible rfl
        rotate_left
        · simp only [Act.put, List.setIfInBounds_toArray, List.set_cons_zero, List.set_cons_succ, i64_w, i32_w, IntKind.wrap_u32, IntKind.wrap_u8, IntKind.wrap_u16]
          rfl
        refine pure_ (i := 10) (N := some 101) (v := ?_) (a' := ?_) #[true, true, true, true, true, true, true, true, true, true, true, false] rfl rfl (by kernel_rfl) (fun _ _ _ h => h) (Or.inl ⟨by rfl, ?_⟩) ?_ ?_
        rotate_left
        · intro w'
          go_simp
          with_reducible rfl
        rotate_left
        · simp only [Act.put, List.setIfInBounds_toArray, List.set_cons_zero, List.set_cons_succ, i64_w, i32_w, IntKind.wrap_u32, IntKind.wrap_u8, IntKind.wrap_u16]
          rfl
        refine last_ (i := 11) (N := none) #[true, true, true, true, true, true, true, true, true, true, true, true] rfl rfl (by kernel_rfl) (by decide) (fun K hK => ?_)
        refine skip_ (w1 := ?_) (by rfl) rfl ?_ ?_
        rotate_left
        · go_simp
          rfl
        refine hK.out _ _ ?_
        clear hK K
        refine done_ (by kernel_rfl) ?_
        go_wp2_with (fail)
        go_roundg kq
        case measure => omega
        case rel =>
          refine ⟨i + 1, S, rfl, ⟨by have := HI.out; omega⟩, HWj, ⟨?_⟩⟩
          rw [HK.out.1, HK.out.2.1, HK.out.2.2.1, HK.out.2.2.2.1, HK.out.2.2.2.2.1, HK.out.2.2.2.2.2]
          exact sl_take (sl_put (sl_put (sl_drew HS.out) 1 rfl 0 (.int .i64 x.f2)) 1 rfl 1 (.int .i64 x.f3)) 4
      by_cases k1 : x.f0 = 1
      · have d1 : (x.f0 == 1) = true := beq_iff_eq.2 k1
        have d0 : (x.f0 == 0) = false := beq_eq_false_iff_ne.2 (by omega)
        have HK := Aside0.mk (hlf.k1 c1 k1)
        clear hlf hlf23 hlf5 c1 k0 k1 hfb
        go_wp2_with (first
        | (go_at_call 16; refine (call_eqw (by repeat (with_reducible first | exact HS.out | apply sl_drewN | apply sl_drew | apply sl_box | apply sl_alloc)) 0 x HD.out.1 HD.out.2.1 HD.out.2.2.1 HD.out.2.2.2.1 HD.out.2.2.2.2 (by rfl) (by first | exact rfl | (rw [← HOn.out]; done))).mono ?_; rintro e w1 ⟨rfl, hs⟩; (try simp only [World.size_alloc] at hs); replace HS := Aside0.mk hs; clear hs; (try clear hxl); clear x0 x1 x2 x3 x4 x5 x6 x7 x8 x9; obtain ⟨x0, x1, x2, x3, x4, x5, x6, x7, x8, x9⟩ := HX.out _ (sl_below0 HS.out); have hxl := World.block_lt_of_cell? _ _ x0; (try clear rA rB rC rE); (try clear nr nr' nl nl' nh nh'); (try (have rA := c_at HS.out 4 rfl 0 rfl; have rB := c_at HS.out 4 rfl 1 rfl; have rC := c_at HS.out 4 rfl 2 rfl; have rE := c_at HS.out 4 rfl 3 rfl; have rl := blk_lt (sl_blk HS.out 4 rfl); have nr := sl_ne HS.out 3 4 (by decide) rfl rfl; have nr' := Ne.symm nr; have nl := sl_ne HS.out 3 1 (by decide) rfl rfl; have nl' := Ne.symm nl; have nh := sl_ne HS.out 3 2 (by decide) rfl rfl; have nh' := Ne.symm nh)); (try clear bl0 bl1 bh0 bh1 bs0 bs1 fl0 fl1 fh0 fh1 fs0 fs1 ltl lth lts); have bl0 := c_at HS.out 1 rfl 0 rfl; have fl0 := f_at HS.out 1 rfl 0; have bl1 := c_at HS.out 1 rfl 1 rfl; have fl1 := f_at HS.out 1 rfl 1; have bh0 := c_at HS.out 2 rfl 0 rfl; have fh0 := f_at HS.out 2 rfl 0; have bh1 := c_at HS.out 2 rfl 1 rfl; have fh1 := f_at HS.out 2 rfl 1; have bs0 := c_at HS.out 3 rfl 0 rfl; have fs0 := f_at HS.out 3 rfl 0; have bs1 := c_at HS.out 3 rfl 1 rfl; have fs1 := f_at HS.out 3 rfl 1; have ltl := blk_lt (sl_blk HS.out 1 rfl); have lth := blk_lt (sl_blk HS.out 2 rfl); have lts := blk_lt (sl_blk HS.out 3 rfl))
        | (go_at_call 18; refine (Sta_sl (by repeat (with_reducible first | exact HS.out | apply sl_drewN | apply sl_drew | apply sl_box | apply sl_alloc)) 0 HN.out (by rfl)).mono ?_; rintro e w1 ⟨rfl, hs⟩; (try simp only [World.size_alloc] at hs); replace HS := Aside0.mk hs; clear hs; (try clear hxl); clear x0 x1 x2 x3 x4 x5 x6 x7 x8 x9; obtain ⟨x0, x1, x2, x3, x4, x5, x6, x7, x8, x9⟩ := HX.out _ (sl_below0 HS.out); have hxl := World.block_lt_of_cell? _ _ x0; (try clear rA rB rC rE); (try clear nr nr' nl nl' nh nh'); (try (have rA := c_at HS.out 4 rfl 0 rfl; have rB := c_at HS.out 4 rfl 1 rfl; have rC := c_at HS.out 4 rfl 2 rfl; have rE := c_at HS.out 4 rfl 3 rfl; have rl := blk_lt (sl_blk HS.out 4 rfl); have nr := sl_ne HS.out 3 4 (by decide) rfl rfl; have nr' := Ne.symm nr; have nl := sl_ne HS.out 3 1 (by decide) rfl rfl; have nl' := Ne.symm nl; have nh := sl_ne HS.out 3 2 (by decide) rfl rfl; have nh' := Ne.symm nh)); (try clear bl0 bl1 bh0 bh1 bs0 bs1 fl0 fl1 fh0 fh1 fs0 fs1 ltl lth lts); have bl0 := c_at HS.out 1 rfl 0 rfl; have fl0 := f_at HS.out 1 rfl 0; have bl1 := c_at HS.out 1 rfl 1 rfl; have fl1 := f_at HS.out 1 rfl 1; have bh0 := c_at HS.out 2 rfl 0 rfl; have fh0 := f_at HS.out 2 rfl 0; have bh1 := c_at HS.out 2 rfl 1 rfl; have fh1 := f_at HS.out 2 rfl 1; have bs0 := c_at HS.out 3 rfl 0 rfl; have fs0 := f_at HS.out 3 rfl 0; have bs1 := c_at HS.out 3 rfl 1 rfl; have fs1 := f_at HS.out 3 rfl 1; have ltl := blk_lt (sl_blk HS.out 1 rfl); have lth := blk_lt (sl_blk HS.out 2 rfl); have lts := blk_lt (sl_blk HS.out 3 rfl))
        | (go_at_call 19; refine (within_c (by repeat (with_reducible first | exact HS.out | exact (sl_put (sl_put HS.out 3 rfl 0 (.int .i64 CA)) 3 rfl 1 (.int .i64 CB)) | apply sl_drewN | apply sl_drew | apply sl_box | apply sl_alloc)) _ _ _ _ _ _ HWb.out).mono ?_; rintro e w1 ⟨rfl, hs⟩; (try simp only [World.size_alloc] at hs); replace HS := Aside0.mk hs; clear hs; (try clear hxl); clear x0 x1 x2 x3 x4 x5 x6 x7 x8 x9; obtain ⟨x0, x1, x2, x3, x4, x5, x6, x7, x8, x9⟩ := HX.out _ (sl_below0 HS.out); have hxl := World.block_lt_of_cell? _ _ x0; (try clear rA rB rC rE); (try clear nr nr' nl nl' nh nh'); (try (have rA := c_at HS.out 4 rfl 0 rfl; have rB := c_at HS.out 4 rfl 1 rfl; have rC := c_at HS.out 4 rfl 2 rfl; have rE := c_at HS.out 4 rfl 3 rfl; have rl := blk_lt (sl_blk HS.out 4 rfl); have nr := sl_ne HS.out 3 4 (by decide) rfl rfl; have nr' := Ne.symm nr; have nl := sl_ne HS.out 3 1 (by decide) rfl rfl; have nl' := Ne.symm nl; have nh := sl_ne HS.out 3 2 (by decide) rfl rfl; have nh' := Ne.symm nh)); (try clear bl0 bl1 bh0 bh1 bs0 bs1 fl0 fl1 fh0 fh1 fs0 fs1 ltl lth lts); have bl0 := c_at HS.out 1 rfl 0 rfl; have fl0 := f_at HS.out 1 rfl 0; have bl1 := c_at HS.out 1 rfl 1 rfl; have fl1 := f_at HS.out 1 rfl 1; have bh0 := c_at HS.out 2 rfl 0 rfl; have fh0 := f_at HS.out 2 rfl 0; have bh1 := c_at HS.out 2 rfl 1 rfl; have fh1 := f_at HS.out 2 rfl 1; have bs0 := c_at HS.out 3 rfl 0 rfl; have fs0 := f_at HS.out 3 rfl 0; have bs1 := c_at HS.out 3 rfl 1 rfl; have fs1 := f_at HS.out 3 rfl 1; have ltl := blk_lt (sl_blk HS.out 1 rfl); have lth := blk_lt (sl_blk HS.out 2 rfl); have lts := blk_lt (sl_blk HS.out 3 rfl))
        | (go_at_call 20; refine (Geo_sl (by repeat (with_reducible first | exact HS.out | apply sl_drewN | apply sl_drew | apply sl_box | apply sl_alloc)) 0 (by rfl)).mono ?_; rintro e w1 ⟨rfl, hs⟩; (try simp only [World.size_alloc] at hs); replace HS := Aside0.mk hs; clear hs; (try clear hxl); clear x0 x1 x2 x3 x4 x5 x6 x7 x8 x9; obtain ⟨x0, x1, x2, x3, x4, x5, x6, x7, x8, x9⟩ := HX.out _ (sl_below0 HS.out); have hxl := World.block_lt_of_cell? _ _ x0; (try clear rA rB rC rE); (try clear nr nr' nl nl' nh nh'); (try (have rA := c_at HS.out 4 rfl 0 rfl; have rB := c_at HS.out 4 rfl 1 rfl; have rC := c_at HS.out 4 rfl 2 rfl; have rE := c_at HS.out 4 rfl 3 rfl; have rl := blk_lt (sl_blk HS.out 4 rfl); have nr := sl_ne HS.out 3 4 (by decide) rfl rfl; have nr' := Ne.symm nr; have nl := sl_ne HS.out 3 1 (by decide) rfl rfl; have nl' := Ne.symm nl; have nh := sl_ne HS.out 3 2 (by decide) rfl rfl; have nh' := Ne.symm nh)); (try clear bl0 bl1 bh0 bh1 bs0 bs1 fl0 fl1 fh0 fh1 fs0 fs1 ltl lth lts); have bl0 := c_at HS.out 1 rfl 0 rfl; have fl0 := f_at HS.out 1 rfl 0; have bl1 := c_at HS.out 1 rfl 1 rfl; have fl1 := f_at HS.out 1 rfl 1; have bh0 := c_at HS.out 2 rfl 0 rfl; have fh0 := f_at HS.out 2 rfl 0; have bh1 := c_at HS.out 2 rfl 1 rfl; have fh1 := f_at HS.out 2 rfl 1; have bs0 := c_at HS.out 3 rfl 0 rfl; have fs0 := f_at HS.out 3 rfl 0; have bs1 := c_at HS.out 3 rfl 1 rfl; have fs1 := f_at HS.out 3 rfl 1; have ltl := blk_lt (sl_blk HS.out 1 rfl); have lth := blk_lt (sl_blk HS.out 2 rfl); have lts := blk_lt (sl_blk HS.out 3 rfl)))
        refine start_ (n := 12) (S := fun w' => w'.cell? ⟨(ad.add (i * 10)).block, (ad.add (i * 10)).off + 2, none⟩ = some (.int .i64 x.f2) ∧ w'.cell? ⟨(ad.add (i * 10)).block, (ad.add (i * 10)).off + 3, none⟩ = some (.int .i64 x.f3)) (ds := [11]) #[false, false, false, false, false, false, false, false, false, false, false, false] (by kernel_rfl) rfl rfl ⟨x2, x3⟩ (fun hHeld => ?_)
        refine pure_ (i := 0) (N := some 104) (v := ?_) (a' := ?_) #[true, false, false, false, false, false, false, false, false, false, false, false] rfl rfl (by kernel_rfl) (fun _ _ _ h => h) (Or.inl ⟨by rfl, ?_⟩) ?_ ?_
        rotate_left
        · intro w'
          go_simp
          with_reducible rfl
        rotate_left
        · simp only [Act.put, List.setIfInBounds_toArray, List.set_cons_zero, List.set_cons_succ, i64_w, i32_w, IntKind.wrap_u32, IntKind.wrap_u8, IntKind.wrap_u16]
          rfl
        refine pure_ (i := 1) (N := some 105) (v := ?_) (a' := ?_) #[true, true, false, false, false, false, false, false, false, false, false, false] rfl rfl (by kernel_rfl) (fun _ _ _ h => h) (Or.inl ⟨by rfl, ?_⟩) ?_ ?_
        rotate_left
        · intro w'
          go_simp
          with_reducible rfl
        rotate_left
        · simp only [Act.put, List.setIfInBounds_toArray, List.set_cons_zero, List.set_cons_succ, i64_w, i32_w, IntKind.wrap_u32, IntKind.wrap_u8, IntKind.wrap_u16]
          rfl
        refine pure_ (i := 2) (N := some 106) (v := ?_) (a' := ?_) #[true, true, true, false, false, false, false, false, false, false, false, false] rfl rfl (by kernel_rfl) (fun _ _ _ h => h) (Or.inl ⟨by rfl, ?_⟩) ?_ ?_
        rotate_left
        · intro w'
          go_simp
          with_reducible rfl
        rotate_left
        · simp only [Act.put, List.setIfInBounds_toArray, List.set_cons_zero, List.set_cons_succ, i64_w, i32_w, IntKind.wrap_u32, IntKind.wrap_u8, IntKind.wrap_u16]
          rfl
        refine pure_ (i := 3) (N := some 107) (v := ?_) (a' := ?_) #[true, true, true, true, false, false, false, false, false, false, false, false] rfl rfl (by kernel_rfl) (fun _ _ _ h => h) (Or.inl ⟨by rfl, ?_⟩) ?_ ?_
        rotate_left
        · intro w'
          go_simp
          with_reducible rfl
        rotate_left
        · simp only [Act.put, List.setIfInBounds_toArray, List.set_cons_zero, List.set_cons_succ, i64_w, i32_w, IntKind.wrap_u32, IntKind.wrap_u8, IntKind.wrap_u16]
          rfl
        refine pure_ (i := 5) (N := some 109) (v := ?_) (a' := ?_) #[true, true, true, true, false, true, false, false, false, false, false, false] rfl rfl (by kernel_rfl) (fun _ _ _ h => h) (Or.inl ⟨by rfl, ?_⟩) ?_ ?_
        rotate_left
        · intro w'
          go_simp
          with_reducible rfl
        rotate_left
        · simp only [Act.put, List.setIfInBounds_toArray, List.set_cons_zero, List.set_cons_succ, i64_w, i32_w, IntKind.wrap_u32, IntKind.wrap_u8, IntKind.wrap_u16]
          rfl
        refine pure_ (i := 6) (N := some 110) (v := ?_) (a' := ?_) #[true, true, true, true, false, true, true, false, false, false, false, false] rfl rfl (by kernel_rfl) (fun _ _ _ h => h) (Or.inl ⟨by rfl, ?_⟩) ?_ ?_
        rotate_left
        · intro w'
          go_simp
          with_reducible rfl
        rotate_left
        · simp only [Act.put, List.setIfInBounds_toArray, List.set_cons_zero, List.set_cons_succ, i64_w, i32_w, IntKind.wrap_u32, IntKind.wrap_u8, IntKind.wrap_u16]
          rfl
        refine pure_ (i := 7) (N := some 111) (v := ?_) (a' := ?_) #[true, true, true, true, false, true, true, true, false, false, false, false] rfl rfl (by kernel_rfl) (fun _ _ _ h => h) (Or.inl ⟨by rfl, ?_⟩) ?_ ?_
        rotate_left
        · intro w'
          go_simp
          with_reducible rfl
        rotate_left
        · simp only [Act.put, List.setIfInBounds_toArray, List.set_cons_zero, List.set_cons_succ, i64_w, i32_w, IntKind.wrap_u32, IntKind.wrap_u8, IntKind.wrap_u16]
          rfl
        refine pure_ (i := 8) (N := some 112) (v := ?_) (a' := ?_) #[true, true, true, true, false, true, true, true, true, false, false, false] rfl rfl (by kernel_rfl) (fun _ _ _ h => h) (Or.inl ⟨by rfl, ?_⟩) ?_ ?_
        rotate_left
        · intro w'
          go_simp
          with_reducible rfl
        rotate_left
        · simp only [Act.put, List.setIfInBounds_toArray, List.set_cons_zero, List.set_cons_succ, i64_w, i32_w, IntKind.wrap_u32, IntKind.wrap_u8, IntKind.wrap_u16]
          rfl
        refine take_ (i := 4) (N := some 108) (v := ?_) (a' := ?_) #[true, true, true, true, true, true, true, true, true, false, false, false] rfl rfl (by kernel_rfl) (fun _ _ _ h => h) (Or.inl ⟨by rfl, ?_⟩) hHeld ?_ ?_
        rotate_left
        · rintro w' ⟨s0, s1⟩
          go_simp
          with_reducible rfl
        rotate_left
        · simp only [Act.put, List.setIfInBounds_toArray, List.set_cons_zero, List.set_cons_succ, i64_w, i32_w, IntKind.wrap_u32, IntKind.wrap_u8, IntKind.wrap_u16]
          rfl
        refine take_ (i := 9) (N := some 113) (v := ?_) (a' := ?_) #[true, true, true, true, true, true, true, true, true, true, false, false] rfl rfl (by kernel_rfl) (fun _ _ _ h => h) (Or.inl ⟨by rfl, ?_⟩) hHeld ?_ ?_
        rotate_left
        · rintro w' ⟨s0, s1⟩
          go_simp
          with_reducible rfl
        rotate_left
        · simp only [Act.put, List.setIfInBounds_toArray, List.set_cons_zero, List.set_cons_succ, i64_w, i32_w, IntKind.wrap_u32, IntKind.wrap_u8, IntKind.wrap_u16]
          rfl
        refine pure_ (i := 10) (N := some 114) (v := ?_) (a' := ?_) #[true, true, true, true, true, true, true, true, true, true, true, false] rfl rfl (by kernel_rfl) (fun _ _ _ h => h) (Or.inl ⟨by rfl, ?_⟩) ?_ ?_
        rotate_left
        · intro w'
          go_simp
          with_reducible rfl
        rotate_left
        · simp only [Act.put, List.setIfInBounds_toArray, List.set_cons_zero, List.set_cons_succ, i64_w, i32_w, IntKind.wrap_u32, IntKind.wrap_u8, IntKind.wrap_u16]
          rfl
        refine last_ (i := 11) (N := none) #[true, true, true, true, true, true, true, true, true, true, true, true] rfl rfl (by kernel_rfl) (by decide) (fun K hK => ?_)
        refine skip_ (w1 := ?_) (by rfl) rfl ?_ ?_
        rotate_left
        · go_simp
          rfl
        refine hK.out _ _ ?_
        clear hK K
        refine done_ (by kernel_rfl) ?_
        go_wp2_with (fail)
        go_roundg kq
        case measure => omega
        case rel =>
          refine ⟨i + 1, S, rfl, ⟨by have := HI.out; omega⟩, HWj, ⟨?_⟩⟩
          rw [HK.out.1, HK.out.2.1, HK.out.2.2.1, HK.out.2.2.2.1, HK.out.2.2.2.2.1, HK.out.2.2.2.2.2]
          exact sl_take (sl_put (sl_put (sl_drew HS.out) 2 rfl 0 (.int .i64 x.f2)) 2 rfl 1 (.int .i64 x.f3)) 4
      by_cases k2 : x.f0 = 2
      · have d2 : (x.f0 == 2) = true := beq_iff_eq.2 k2
        have d0 : (x.f0 == 0) = false := beq_eq_false_iff_ne.2 (by omega)
        have d1 : (x.f0 == 1) = false := beq_eq_false_iff_ne.2 (by omega)
        have hk := hlf23 c1 (by omega)
        have HK := Aside0.mk hk
        have hwi := hk.2.2.2.2.2.2
        clear hlf hlf23 hlf5 c1 k0 k1 k2 hfb hk
        cases fb
        · replace a3 : (X3 == 0) = true := a3
          have HWb := Aside0.mk (hwi rfl)
          clear hwi
          go_wp2_with (first
        | (go_at_call 16; refine (call_eqw (by repeat (with_reducible first | exact HS.out | apply sl_drewN | apply sl_drew | apply sl_box | apply sl_alloc)) 0 x HD.out.1 HD.out.2.1 HD.out.2.2.1 HD.out.2.2.2.1 HD.out.2.2.2.2 (by rfl) (by first | exact rfl | (rw [← HOn.out]; done))).mono ?_; rintro e w1 ⟨rfl, hs⟩; (try simp only [World.size_alloc] at hs); replace HS := Aside0.mk hs; clear hs; (try clear hxl); clear x0 x1 x2 x3 x4 x5 x6 x7 x8 x9; obtain ⟨x0, x1, x2, x3, x4, x5, x6, x7, x8, x9⟩ := HX.out _ (sl_below0 HS.out); have hxl := World.block_lt_of_cell? _ _ x0; (try clear rA rB rC rE); (try clear nr nr' nl nl' nh nh'); (try (have rA := c_at HS.out 4 rfl 0 rfl; have rB := c_at HS.out 4 rfl 1 rfl; have rC := c_at HS.out 4 rfl 2 rfl; have rE := c_at HS.out 4 rfl 3 rfl; have rl := blk_lt (sl_blk HS.out 4 rfl); have nr := sl_ne HS.out 3 4 (by decide) rfl rfl; have nr' := Ne.symm nr; have nl := sl_ne HS.out 3 1 (by decide) rfl rfl; have nl' := Ne.symm nl; have nh := sl_ne HS.out 3 2 (by decide) rfl rfl; have nh' := Ne.symm nh)); (try clear bl0 bl1 bh0 bh1 bs0 bs1 fl0 fl1 fh0 fh1 fs0 fs1 ltl lth lts); have bl0 := c_at HS.out 1 rfl 0 rfl; have fl0 := f_at HS.out 1 rfl 0; have bl1 := c_at HS.out 1 rfl 1 rfl; have fl1 := f_at HS.out 1 rfl 1; have bh0 := c_at HS.out 2 rfl 0 rfl; have fh0 := f_at HS.out 2 rfl 0; have bh1 := c_at HS.out 2 rfl 1 rfl; have fh1 := f_at HS.out 2 rfl 1; have bs0 := c_at HS.out 3 rfl 0 rfl; have fs0 := f_at HS.out 3 rfl 0; have bs1 := c_at HS.out 3 rfl 1 rfl; have fs1 := f_at HS.out 3 rfl 1; have ltl := blk_lt (sl_blk HS.out 1 rfl); have lth := blk_lt (sl_blk HS.out 2 rfl); have lts := blk_lt (sl_blk HS.out 3 rfl))
        | (go_at_call 18; refine (Sta_sl (by repeat (with_reducible first | exact HS.out | apply sl_drewN | apply sl_drew | apply sl_box | apply sl_alloc)) 0 HN.out (by rfl)).mono ?_; rintro e w1 ⟨rfl, hs⟩; (try simp only [World.size_alloc] at hs); replace HS := Aside0.mk hs; clear hs; (try clear hxl); clear x0 x1 x2 x3 x4 x5 x6 x7 x8 x9; obtain ⟨x0, x1, x2, x3, x4, x5, x6, x7, x8, x9⟩ := HX.out _ (sl_below0 HS.out); have hxl := World.block_lt_of_cell? _ _ x0; (try clear rA rB rC rE); (try clear nr nr' nl nl' nh nh'); (try (have rA := c_at HS.out 4 rfl 0 rfl; have rB := c_at HS.out 4 rfl 1 rfl; have rC := c_at HS.out 4 rfl 2 rfl; have rE := c_at HS.out 4 rfl 3 rfl; have rl := blk_lt (sl_blk HS.out 4 rfl); have nr := sl_ne HS.out 3 4 (by decide) rfl rfl; have nr' := Ne.symm nr; have nl := sl_ne HS.out 3 1 (by decide) rfl rfl; have nl' := Ne.symm nl; have nh := sl_ne HS.out 3 2 (by decide) rfl rfl; have nh' := Ne.symm nh)); (try clear bl0 bl1 bh0 bh1 bs0 bs1 fl0 fl1 fh0 fh1 fs0 fs1 ltl lth lts); have bl0 := c_at HS.out 1 rfl 0 rfl; have fl0 := f_at HS.out 1 rfl 0; have bl1 := c_at HS.out 1 rfl 1 rfl; have fl1 := f_at HS.out 1 rfl 1; have bh0 := c_at HS.out 2 rfl 0 rfl; have fh0 := f_at HS.out 2 rfl 0; have bh1 := c_at HS.out 2 rfl 1 rfl; have fh1 := f_at HS.out 2 rfl 1; have bs0 := c_at HS.out 3 rfl 0 rfl; have fs0 := f_at HS.out 3 rfl 0; have bs1 := c_at HS.out 3 rfl 1 rfl; have fs1 := f_at HS.out 3 rfl 1; have ltl := blk_lt (sl_blk HS.out 1 rfl); have lth := blk_lt (sl_blk HS.out 2 rfl); have lts := blk_lt (sl_blk HS.out 3 rfl))
        | (go_at_call 19; refine (within_c (by repeat (with_reducible first | exact HS.out | exact (sl_put (sl_put HS.out 3 rfl 0 (.int .i64 CA)) 3 rfl 1 (.int .i64 CB)) | apply sl_drewN | apply sl_drew | apply sl_box | apply sl_alloc)) _ _ _ _ _ _ HWb.out).mono ?_; rintro e w1 ⟨rfl, hs⟩; (try simp only [World.size_alloc] at hs); replace HS := Aside0.mk hs; clear hs; (try clear hxl); clear x0 x1 x2 x3 x4 x5 x6 x7 x8 x9; obtain ⟨x0, x1, x2, x3, x4, x5, x6, x7, x8, x9⟩ := HX.out _ (sl_below0 HS.out); have hxl := World.block_lt_of_cell? _ _ x0; (try clear rA rB rC rE); (try clear nr nr' nl nl' nh nh'); (try (have rA := c_at HS.out 4 rfl 0 rfl; have rB := c_at HS.out 4 rfl 1 rfl; have rC := c_at HS.out 4 rfl 2 rfl; have rE := c_at HS.out 4 rfl 3 rfl; have rl := blk_lt (sl_blk HS.out 4 rfl); have nr := sl_ne HS.out 3 4 (by decide) rfl rfl; have nr' := Ne.symm nr; have nl := sl_ne HS.out 3 1 (by decide) rfl rfl; have nl' := Ne.symm nl; have nh := sl_ne HS.out 3 2 (by decide) rfl rfl; have nh' := Ne.symm nh)); (try clear bl0 bl1 bh0 bh1 bs0 bs1 fl0 fl1 fh0 fh1 fs0 fs1 ltl lth lts); have bl0 := c_at HS.out 1 rfl 0 rfl; have fl0 := f_at HS.out 1 rfl 0; have bl1 := c_at HS.out 1 rfl 1 rfl; have fl1 := f_at HS.out 1 rfl 1; have bh0 := c_at HS.out 2 rfl 0 rfl; have fh0 := f_at HS.out 2 rfl 0; have bh1 := c_at HS.out 2 rfl 1 rfl; have fh1 := f_at HS.out 2 rfl 1; have bs0 := c_at HS.out 3 rfl 0 rfl; have fs0 := f_at HS.out 3 rfl 0; have bs1 := c_at HS.out 3 rfl 1 rfl; have fs1 := f_at HS.out 3 rfl 1; have ltl := blk_lt (sl_blk HS.out 1 rfl); have lth := blk_lt (sl_blk HS.out 2 rfl); have lts := blk_lt (sl_blk HS.out 3 rfl))
        | (go_at_call 20; refine (Geo_sl (by repeat (with_reducible first | exact HS.out | apply sl_drewN | apply sl_drew | apply sl_box | apply sl_alloc)) 0 (by rfl)).mono ?_; rintro e w1 ⟨rfl, hs⟩; (try simp only [World.size_alloc] at hs); replace HS := Aside0.mk hs; clear hs; (try clear hxl); clear x0 x1 x2 x3 x4 x5 x6 x7 x8 x9; obtain ⟨x0, x1, x2, x3, x4, x5, x6, x7, x8, x9⟩ := HX.out _ (sl_below0 HS.out); have hxl := World.block_lt_of_cell? _ _ x0; (try clear rA rB rC rE); (try clear nr nr' nl nl' nh nh'); (try (have rA := c_at HS.out 4 rfl 0 rfl; have rB := c_at HS.out 4 rfl 1 rfl; have rC := c_at HS.out 4 rfl 2 rfl; have rE := c_at HS.out 4 rfl 3 rfl; have rl := blk_lt (sl_blk HS.out 4 rfl); have nr := sl_ne HS.out 3 4 (by decide) rfl rfl; have nr' := Ne.symm nr; have nl := sl_ne HS.out 3 1 (by decide) rfl rfl; have nl' := Ne.symm nl; have nh := sl_ne HS.out 3 2 (by decide) rfl rfl; have nh' := Ne.symm nh)); (try clear bl0 bl1 bh0 bh1 bs0 bs1 fl0 fl1 fh0 fh1 fs0 fs1 ltl lth lts); have bl0 := c_at HS.out 1 rfl 0 rfl; have fl0 := f_at HS.out 1 rfl 0; have bl1 := c_at HS.out 1 rfl 1 rfl; have fl1 := f_at HS.out 1 rfl 1; have bh0 := c_at HS.out 2 rfl 0 rfl; have fh0 := f_at HS.out 2 rfl 0; have bh1 := c_at HS.out 2 rfl 1 rfl; have fh1 := f_at HS.out 2 rfl 1; have bs0 := c_at HS.out 3 rfl 0 rfl; have fs0 := f_at HS.out 3 rfl 0; have bs1 := c_at HS.out 3 rfl 1 rfl; have fs1 := f_at HS.out 3 rfl 1; have ltl := blk_lt (sl_blk HS.out 1 rfl); have lth := blk_lt (sl_blk HS.out 2 rfl); have lts := blk_lt (sl_blk HS.out 3 rfl)))
          go_roundg kq
          case measure => omega
          case rel =>
            refine ⟨i + 1, S, rfl, ⟨by have := HI.out; omega⟩, HWj, ⟨?_⟩⟩
            rw [HK.out.1, HK.out.2.1, HK.out.2.2.1, HK.out.2.2.2.1, HK.out.2.2.2.2.1, HK.out.2.2.2.2.2.1]
            exact (by first | exact HS.out | exact sl_take HS.out 4 | exact sl_take (sl_put (sl_put HS.out 3 rfl 0 (.int .i64 CA)) 3 rfl 1 (.int .i64 CB)) 4)
        · replace a3 : (X3 == 0) = false := a3
          have HWb := 0
          clear hwi
          go_wp2_with (first
        | (go_at_call 16; refine (call_eqw (by repeat (with_reducible first | exact HS.out | apply sl_drewN | apply sl_drew | apply sl_box | apply sl_alloc)) 0 x HD.out.1 HD.out.2.1 HD.out.2.2.1 HD.out.2.2.2.1 HD.out.2.2.2.2 (by rfl) (by first | exact rfl | (rw [← HOn.out]; done))).mono ?_; rintro e w1 ⟨rfl, hs⟩; (try simp only [World.size_alloc] at hs); replace HS := Aside0.mk hs; clear hs; (try clear hxl); clear x0 x1 x2 x3 x4 x5 x6 x7 x8 x9; obtain ⟨x0, x1, x2, x3, x4, x5, x6, x7, x8, x9⟩ := HX.out _ (sl_below0 HS.out); have hxl := World.block_lt_of_cell? _ _ x0; (try clear rA rB rC rE); (try clear nr nr' nl nl' nh nh'); (try (have rA := c_at HS.out 4 rfl 0 rfl; have rB := c_at HS.out 4 rfl 1 rfl; have rC := c_at HS.out 4 rfl 2 rfl; have rE := c_at HS.out 4 rfl 3 rfl; have rl := blk_lt (sl_blk HS.out 4 rfl); have nr := sl_ne HS.out 3 4 (by decide) rfl rfl; have nr' := Ne.symm nr; have nl := sl_ne HS.out 3 1 (by decide) rfl rfl; have nl' := Ne.symm nl; have nh := sl_ne HS.out 3 2 (by decide) rfl rfl; have nh' := Ne.symm nh)); (try clear bl0 bl1 bh0 bh1 bs0 bs1 fl0 fl1 fh0 fh1 fs0 fs1 ltl lth lts); have bl0 := c_at HS.out 1 rfl 0 rfl; have fl0 := f_at HS.out 1 rfl 0; have bl1 := c_at HS.out 1 rfl 1 rfl; have fl1 := f_at HS.out 1 rfl 1; have bh0 := c_at HS.out 2 rfl 0 rfl; have fh0 := f_at HS.out 2 rfl 0; have bh1 := c_at HS.out 2 rfl 1 rfl; have fh1 := f_at HS.out 2 rfl 1; have bs0 := c_at HS.out 3 rfl 0 rfl; have fs0 := f_at HS.out 3 rfl 0; have bs1 := c_at HS.out 3 rfl 1 rfl; have fs1 := f_at HS.out 3 rfl 1; have ltl := blk_lt (sl_blk HS.out 1 rfl); have lth := blk_lt (sl_blk HS.out 2 rfl); have lts := blk_lt (sl_blk HS.out 3 rfl))
        | (go_at_call 18; refine (Sta_sl (by repeat (with_reducible first | exact HS.out | apply sl_drewN | apply sl_drew | apply sl_box | apply sl_alloc)) 0 HN.out (by rfl)).mono ?_; rintro e w1 ⟨rfl, hs⟩; (try simp only [World.size_alloc] at hs); replace HS := Aside0.mk hs; clear hs; (try clear hxl); clear x0 x1 x2 x3 x4 x5 x6 x7 x8 x9; obtain ⟨x0, x1, x2, x3, x4, x5, x6, x7, x8, x9⟩ := HX.out _ (sl_below0 HS.out); have hxl := World.block_lt_of_cell? _ _ x0; (try clear rA rB rC rE); (try clear nr nr' nl nl' nh nh'); (try (have rA := c_at HS.out 4 rfl 0 rfl; have rB := c_at HS.out 4 rfl 1 rfl; have rC := c_at HS.out 4 rfl 2 rfl; have rE := c_at HS.out 4 rfl 3 rfl; have rl := blk_lt (sl_blk HS.out 4 rfl); have nr := sl_ne HS.out 3 4 (by decide) rfl rfl; have nr' := Ne.symm nr; have nl := sl_ne HS.out 3 1 (by decide) rfl rfl; have nl' := Ne.symm nl; have nh := sl_ne HS.out 3 2 (by decide) rfl rfl; have nh' := Ne.symm nh)); (try clear bl0 bl1 bh0 bh1 bs0 bs1 fl0 fl1 fh0 fh1 fs0 fs1 ltl lth lts); have bl0 := c_at HS.out 1 rfl 0 rfl; have fl0 := f_at HS.out 1 rfl 0; have bl1 := c_at HS.out 1 rfl 1 rfl; have fl1 := f_at HS.out 1 rfl 1; have bh0 := c_at HS.out 2 rfl 0 rfl; have fh0 := f_at HS.out 2 rfl 0; have bh1 := c_at HS.out 2 rfl 1 rfl; have fh1 := f_at HS.out 2 rfl 1; have bs0 := c_at HS.out 3 rfl 0 rfl; have fs0 := f_at HS.out 3 rfl 0; have bs1 := c_at HS.out 3 rfl 1 rfl; have fs1 := f_at HS.out 3 rfl 1; have ltl := blk_lt (sl_blk HS.out 1 rfl); have lth := blk_lt (sl_blk HS.out 2 rfl); have lts := blk_lt (sl_blk HS.out 3 rfl))
        | (go_at_call 19; refine (within_c (by repeat (with_reducible first | exact HS.out | exact (sl_put (sl_put HS.out 3 rfl 0 (.int .i64 CA)) 3 rfl 1 (.int .i64 CB)) | apply sl_drewN | apply sl_drew | apply sl_box | apply sl_alloc)) _ _ _ _ _ _ HWb.out).mono ?_; rintro e w1 ⟨rfl, hs⟩; (try simp only [World.size_alloc] at hs); replace HS := Aside0.mk hs; clear hs; (try clear hxl); clear x0 x1 x2 x3 x4 x5 x6 x7 x8 x9; obtain ⟨x0, x1, x2, x3, x4, x5, x6, x7, x8, x9⟩ := HX.out _ (sl_below0 HS.out); have hxl := World.block_lt_of_cell? _ _ x0; (try clear rA rB rC rE); (try clear nr nr' nl nl' nh nh'); (try (have rA := c_at HS.out 4 rfl 0 rfl; have rB := c_at HS.out 4 rfl 1 rfl; have rC := c_at HS.out 4 rfl 2 rfl; have rE := c_at HS.out 4 rfl 3 rfl; have rl := blk_lt (sl_blk HS.out 4 rfl); have nr := sl_ne HS.out 3 4 (by decide) rfl rfl; have nr' := Ne.symm nr; have nl := sl_ne HS.out 3 1 (by decide) rfl rfl; have nl' := Ne.symm nl; have nh := sl_ne HS.out 3 2 (by decide) rfl rfl; have nh' := Ne.symm nh)); (try clear bl0 bl1 bh0 bh1 bs0 bs1 fl0 fl1 fh0 fh1 fs0 fs1 ltl lth lts); have bl0 := c_at HS.out 1 rfl 0 rfl; have fl0 := f_at HS.out 1 rfl 0; have bl1 := c_at HS.out 1 rfl 1 rfl; have fl1 := f_at HS.out 1 rfl 1; have bh0 := c_at HS.out 2 rfl 0 rfl; have fh0 := f_at HS.out 2 rfl 0; have bh1 := c_at HS.out 2 rfl 1 rfl; have fh1 := f_at HS.out 2 rfl 1; have bs0 := c_at HS.out 3 rfl 0 rfl; have fs0 := f_at HS.out 3 rfl 0; have bs1 := c_at HS.out 3 rfl 1 rfl; have fs1 := f_at HS.out 3 rfl 1; have ltl := blk_lt (sl_blk HS.out 1 rfl); have lth := blk_lt (sl_blk HS.out 2 rfl); have lts := blk_lt (sl_blk HS.out 3 rfl))
        | (go_at_call 20; refine (Geo_sl (by repeat (with_reducible first | exact HS.out | apply sl_drewN | apply sl_drew | apply sl_box | apply sl_alloc)) 0 (by rfl)).mono ?_; rintro e w1 ⟨rfl, hs⟩; (try simp only [World.size_alloc] at hs); replace HS := Aside0.mk hs; clear hs; (try clear hxl); clear x0 x1 x2 x3 x4 x5 x6 x7 x8 x9; obtain ⟨x0, x1, x2, x3, x4, x5, x6, x7, x8, x9⟩ := HX.out _ (sl_below0 HS.out); have hxl := World.block_lt_of_cell? _ _ x0; (try clear rA rB rC rE); (try clear nr nr' nl nl' nh nh'); (try (have rA := c_at HS.out 4 rfl 0 rfl; have rB := c_at HS.out 4 rfl 1 rfl; have rC := c_at HS.out 4 rfl 2 rfl; have rE := c_at HS.out 4 rfl 3 rfl; have rl := blk_lt (sl_blk HS.out 4 rfl); have nr := sl_ne HS.out 3 4 (by decide) rfl rfl; have nr' := Ne.symm nr; have nl := sl_ne HS.out 3 1 (by decide) rfl rfl; have nl' := Ne.symm nl; have nh := sl_ne HS.out 3 2 (by decide) rfl rfl; have nh' := Ne.symm nh)); (try clear bl0 bl1 bh0 bh1 bs0 bs1 fl0 fl1 fh0 fh1 fs0 fs1 ltl lth lts); have bl0 := c_at HS.out 1 rfl 0 rfl; have fl0 := f_at HS.out 1 rfl 0; have bl1 := c_at HS.out 1 rfl 1 rfl; have fl1 := f_at HS.out 1 rfl 1; have bh0 := c_at HS.out 2 rfl 0 rfl; have fh0 := f_at HS.out 2 rfl 0; have bh1 := c_at HS.out 2 rfl 1 rfl; have fh1 := f_at HS.out 2 rfl 1; have bs0 := c_at HS.out 3 rfl 0 rfl; have fs0 := f_at HS.out 3 rfl 0; have bs1 := c_at HS.out 3 rfl 1 rfl; have fs1 := f_at HS.out 3 rfl 1; have ltl := blk_lt (sl_blk HS.out 1 rfl); have lth := blk_lt (sl_blk HS.out 2 rfl); have lts := blk_lt (sl_blk HS.out 3 rfl)))
          go_roundg kq
          case measure => omega
          case rel =>
            refine ⟨i + 1, S, rfl, ⟨by have := HI.out; omega⟩, HWj, ⟨?_⟩⟩
            rw [HK.out.1, HK.out.2.1, HK.out.2.2.1, HK.out.2.2.2.1, HK.out.2.2.2.2.1, HK.out.2.2.2.2.2.1]
            exact (by first | exact HS.out | exact sl_take HS.out 4 | exact sl_take (sl_put (sl_put HS.out 3 rfl 0 (.int .i64 CA)) 3 rfl 1 (.int .i64 CB)) 4)
      by_cases k3 : x.f0 = 3
      · have d3 : (x.f0 == 3) = true := beq_iff_eq.2 k3
        have d0 : (x.f0 == 0) = false := beq_eq_false_iff_ne.2 (by omega)
        have d1 : (x.f0 == 1) = false := beq_eq_false_iff_ne.2 (by omega)
        have d2 : (x.f0 == 2) = false := beq_eq_false_iff_ne.2 (by omega)
        have hk := hlf23 c1 (by omega)
        have HK := Aside0.mk hk
        have hwi := hk.2.2.2.2.2.2
        clear hlf hlf23 hlf5 c1 k0 k1 k2 hfb hk k3
        cases fb
        · replace a3 : (X3 == 0) = true := a3
          have HWb := Aside0.mk (hwi rfl)
          clear hwi
          go_wp2_with (first
        | (go_at_call 16; refine (call_eqw (by repeat (with_reducible first | exact HS.out | apply sl_drewN | apply sl_drew | apply sl_box | apply sl_alloc)) 0 x HD.out.1 HD.out.2.1 HD.out.2.2.1 HD.out.2.2.2.1 HD.out.2.2.2.2 (by rfl) (by first | exact rfl | (rw [← HOn.out]; done))).mono ?_; rintro e w1 ⟨rfl, hs⟩; (try simp only [World.size_alloc] at hs); replace HS := Aside0.mk hs; clear hs; (try clear hxl); clear x0 x1 x2 x3 x4 x5 x6 x7 x8 x9; obtain ⟨x0, x1, x2, x3, x4, x5, x6, x7, x8, x9⟩ := HX.out _ (sl_below0 HS.out); have hxl := World.block_lt_of_cell? _ _ x0; (try clear rA rB rC rE); (try clear nr nr' nl nl' nh nh'); (try (have rA := c_at HS.out 4 rfl 0 rfl; have rB := c_at HS.out 4 rfl 1 rfl; have rC := c_at HS.out 4 rfl 2 rfl; have rE := c_at HS.out 4 rfl 3 rfl; have rl := blk_lt (sl_blk HS.out 4 rfl); have nr := sl_ne HS.out 3 4 (by decide) rfl rfl; have nr' := Ne.symm nr; have nl := sl_ne HS.out 3 1 (by decide) rfl rfl; have nl' := Ne.symm nl; have nh := sl_ne HS.out 3 2 (by decide) rfl rfl; have nh' := Ne.symm nh)); (try clear bl0 bl1 bh0 bh1 bs0 bs1 fl0 fl1 fh0 fh1 fs0 fs1 ltl lth lts); have bl0 := c_at HS.out 1 rfl 0 rfl; have fl0 := f_at HS.out 1 rfl 0; have bl1 := c_at HS.out 1 rfl 1 rfl; have fl1 := f_at HS.out 1 rfl 1; have bh0 := c_at HS.out 2 rfl 0 rfl; have fh0 := f_at HS.out 2 rfl 0; have bh1 := c_at HS.out 2 rfl 1 rfl; have fh1 := f_at HS.out 2 rfl 1; have bs0 := c_at HS.out 3 rfl 0 rfl; have fs0 := f_at HS.out 3 rfl 0; have bs1 := c_at HS.out 3 rfl 1 rfl; have fs1 := f_at HS.out 3 rfl 1; have ltl := blk_lt (sl_blk HS.out 1 rfl); have lth := blk_lt (sl_blk HS.out 2 rfl); have lts := blk_lt (sl_blk HS.out 3 rfl))
        | (go_at_call 18; refine (Sta_sl (by repeat (with_reducible first | exact HS.out | apply sl_drewN | apply sl_drew | apply sl_box | apply sl_alloc)) 0 HN.out (by rfl)).mono ?_; rintro e w1 ⟨rfl, hs⟩; (try simp only [World.size_alloc] at hs); replace HS := Aside0.mk hs; clear hs; (try clear hxl); clear x0 x1 x2 x3 x4 x5 x6 x7 x8 x9; obtain ⟨x0, x1, x2, x3, x4, x5, x6, x7, x8, x9⟩ := HX.out _ (sl_below0 HS.out); have hxl := World.block_lt_of_cell? _ _ x0; (try clear rA rB rC rE); (try clear nr nr' nl nl' nh nh'); (try (have rA := c_at HS.out 4 rfl 0 rfl; have rB := c_at HS.out 4 rfl 1 rfl; have rC := c_at HS.out 4 rfl 2 rfl; have rE := c_at HS.out 4 rfl 3 rfl; have rl := blk_lt (sl_blk HS.out 4 rfl); have nr := sl_ne HS.out 3 4 (by decide) rfl rfl; have nr' := Ne.symm nr; have nl := sl_ne HS.out 3 1 (by decide) rfl rfl; have nl' := Ne.symm nl; have nh := sl_ne HS.out 3 2 (by decide) rfl rfl; have nh' := Ne.symm nh)); (try clear bl0 bl1 bh0 bh1 bs0 bs1 fl0 fl1 fh0 fh1 fs0 fs1 ltl lth lts); have bl0 := c_at HS.out 1 rfl 0 rfl; have fl0 := f_at HS.out 1 rfl 0; have bl1 := c_at HS.out 1 rfl 1 rfl; have fl1 := f_at HS.out 1 rfl 1; have bh0 := c_at HS.out 2 rfl 0 rfl; have fh0 := f_at HS.out 2 rfl 0; have bh1 := c_at HS.out 2 rfl 1 rfl; have fh1 := f_at HS.out 2 rfl 1; have bs0 := c_at HS.out 3 rfl 0 rfl; have fs0 := f_at HS.out 3 rfl 0; have bs1 := c_at HS.out 3 rfl 1 rfl; have fs1 := f_at HS.out 3 rfl 1; have ltl := blk_lt (sl_blk HS.out 1 rfl); have lth := blk_lt (sl_blk HS.out 2 rfl); have lts := blk_lt (sl_blk HS.out 3 rfl))
        | (go_at_call 19; refine (within_c (by repeat (with_reducible first | exact HS.out | exact (sl_put (sl_put HS.out 3 rfl 0 (.int .i64 CA)) 3 rfl 1 (.int .i64 CB)) | apply sl_drewN | apply sl_drew | apply sl_box | apply sl_alloc)) _ _ _ _ _ _ HWb.out).mono ?_; rintro e w1 ⟨rfl, hs⟩; (try simp only [World.size_alloc] at hs); replace HS := Aside0.mk hs; clear hs; (try clear hxl); clear x0 x1 x2 x3 x4 x5 x6 x7 x8 x9; obtain ⟨x0, x1, x2, x3, x4, x5, x6, x7, x8, x9⟩ := HX.out _ (sl_below0 HS.out); have hxl := World.block_lt_of_cell? _ _ x0; (try clear rA rB rC rE); (try clear nr nr' nl nl' nh nh'); (try (have rA := c_at HS.out 4 rfl 0 rfl; have rB := c_at HS.out 4 rfl 1 rfl; have rC := c_at HS.out 4 rfl 2 rfl; have rE := c_at HS.out 4 rfl 3 rfl; have rl := blk_lt (sl_blk HS.out 4 rfl); have nr := sl_ne HS.out 3 4 (by decide) rfl rfl; have nr' := Ne.symm nr; have nl := sl_ne HS.out 3 1 (by decide) rfl rfl; have nl' := Ne.symm nl; have nh := sl_ne HS.out 3 2 (by decide) rfl rfl; have nh' := Ne.symm nh)); (try clear bl0 bl1 bh0 bh1 bs0 bs1 fl0 fl1 fh0 fh1 fs0 fs1 ltl lth lts); have bl0 := c_at HS.out 1 rfl 0 rfl; have fl0 := f_at HS.out 1 rfl 0; have bl1 := c_at HS.out 1 rfl 1 rfl; have fl1 := f_at HS.out 1 rfl 1; have bh0 := c_at HS.out 2 rfl 0 rfl; have fh0 := f_at HS.out 2 rfl 0; have bh1 := c_at HS.out 2 rfl 1 rfl; have fh1 := f_at HS.out 2 rfl 1; have bs0 := c_at HS.out 3 rfl 0 rfl; have fs0 := f_at HS.out 3 rfl 0; have bs1 := c_at HS.out 3 rfl 1 rfl; have fs1 := f_at HS.out 3 rfl 1; have ltl := blk_lt (sl_blk HS.out 1 rfl); have lth := blk_lt (sl_blk HS.out 2 rfl); have lts := blk_lt (sl_blk HS.out 3 rfl))
        | (go_at_call 20; refine (Geo_sl (by repeat (with_reducible first | exact HS.out | apply sl_drewN | apply sl_drew | apply sl_box | apply sl_alloc)) 0 (by rfl)).mono ?_; rintro e w1 ⟨rfl, hs⟩; (try simp only [World.size_alloc] at hs); replace HS := Aside0.mk hs; clear hs; (try clear hxl); clear x0 x1 x2 x3 x4 x5 x6 x7 x8 x9; obtain ⟨x0, x1, x2, x3, x4, x5, x6, x7, x8, x9⟩ := HX.out _ (sl_below0 HS.out); have hxl := World.block_lt_of_cell? _ _ x0; (try clear rA rB rC rE); (try clear nr nr' nl nl' nh nh'); (try (have rA := c_at HS.out 4 rfl 0 rfl; have rB := c_at HS.out 4 rfl 1 rfl; have rC := c_at HS.out 4 rfl 2 rfl; have rE := c_at HS.out 4 rfl 3 rfl; have rl := blk_lt (sl_blk HS.out 4 rfl); have nr := sl_ne HS.out 3 4 (by decide) rfl rfl; have nr' := Ne.symm nr; have nl := sl_ne HS.out 3 1 (by decide) rfl rfl; have nl' := Ne.symm nl; have nh := sl_ne HS.out 3 2 (by decide) rfl rfl; have nh' := Ne.symm nh)); (try clear bl0 bl1 bh0 bh1 bs0 bs1 fl0 fl1 fh0 fh1 fs0 fs1 ltl lth lts); have bl0 := c_at HS.out 1 rfl 0 rfl; have fl0 := f_at HS.out 1 rfl 0; have bl1 := c_at HS.out 1 rfl 1 rfl; have fl1 := f_at HS.out 1 rfl 1; have bh0 := c_at HS.out 2 rfl 0 rfl; have fh0 := f_at HS.out 2 rfl 0; have bh1 := c_at HS.out 2 rfl 1 rfl; have fh1 := f_at HS.out 2 rfl 1; have bs0 := c_at HS.out 3 rfl 0 rfl; have fs0 := f_at HS.out 3 rfl 0; have bs1 := c_at HS.out 3 rfl 1 rfl; have fs1 := f_at HS.out 3 rfl 1; have ltl := blk_lt (sl_blk HS.out 1 rfl); have lth := blk_lt (sl_blk HS.out 2 rfl); have lts := blk_lt (sl_blk HS.out 3 rfl)))
          go_roundg kq
          case measure => omega
          case rel =>
            refine ⟨i + 1, S, rfl, ⟨by have := HI.out; omega⟩, HWj, ⟨?_⟩⟩
            rw [HK.out.1, HK.out.2.1, HK.out.2.2.1, HK.out.2.2.2.1, HK.out.2.2.2.2.1, HK.out.2.2.2.2.2.1]
            exact (by first | exact HS.out | exact sl_take HS.out 4 | exact sl_take (sl_put (sl_put HS.out 3 rfl 0 (.int .i64 CA)) 3 rfl 1 (.int .i64 CB)) 4)
        · replace a3 : (X3 == 0) = false := a3
          have HWb := 0
          clear hwi
          go_wp2_with (first
        | (go_at_call 16; refine (call_eqw (by repeat (with_reducible first | exact HS.out | apply sl_drewN | apply sl_drew | apply sl_box | apply sl_alloc)) 0 x HD.out.1 HD.out.2.1 HD.out.2.2.1 HD.out.2.2.2.1 HD.out.2.2.2.2 (by rfl) (by first | exact rfl | (rw [← HOn.out]; done))).mono ?_; rintro e w1 ⟨rfl, hs⟩; (try simp only [World.size_alloc] at hs); replace HS := Aside0.mk hs; clear hs; (try clear hxl); clear x0 x1 x2 x3 x4 x5 x6 x7 x8 x9; obtain ⟨x0, x1, x2, x3, x4, x5, x6, x7, x8, x9⟩ := HX.out _ (sl_below0 HS.out); have hxl := World.block_lt_of_cell? _ _ x0; (try clear rA rB rC rE); (try clear nr nr' nl nl' nh nh'); (try (have rA := c_at HS.out 4 rfl 0 rfl; have rB := c_at HS.out 4 rfl 1 rfl; have rC := c_at HS.out 4 rfl 2 rfl; have rE := c_at HS.out 4 rfl 3 rfl; have rl := blk_lt (sl_blk HS.out 4 rfl); have nr := sl_ne HS.out 3 4 (by decide) rfl rfl; have nr' := Ne.symm nr; have nl := sl_ne HS.out 3 1 (by decide) rfl rfl; have nl' := Ne.symm nl; have nh := sl_ne HS.out 3 2 (by decide) rfl rfl; have nh' := Ne.symm nh)); (try clear bl0 bl1 bh0 bh1 bs0 bs1 fl0 fl1 fh0 fh1 fs0 fs1 ltl lth lts); have bl0 := c_at HS.out 1 rfl 0 rfl; have fl0 := f_at HS.out 1 rfl 0; have bl1 := c_at HS.out 1 rfl 1 rfl; have fl1 := f_at HS.out 1 rfl 1; have bh0 := c_at HS.out 2 rfl 0 rfl; have fh0 := f_at HS.out 2 rfl 0; have bh1 := c_at HS.out 2 rfl 1 rfl; have fh1 := f_at HS.out 2 rfl 1; have bs0 := c_at HS.out 3 rfl 0 rfl; have fs0 := f_at HS.out 3 rfl 0; have bs1 := c_at HS.out 3 rfl 1 rfl; have fs1 := f_at HS.out 3 rfl 1; have ltl := blk_lt (sl_blk HS.out 1 rfl); have lth := blk_lt (sl_blk HS.out 2 rfl); have lts := blk_lt (sl_blk HS.out 3 rfl))
        | (go_at_call 18; refine (Sta_sl (by repeat (with_reducible first | exact HS.out | apply sl_drewN | apply sl_drew | apply sl_box | apply sl_alloc)) 0 HN.out (by rfl)).mono ?_; rintro e w1 ⟨rfl, hs⟩; (try simp only [World.size_alloc] at hs); replace HS := Aside0.mk hs; clear hs; (try clear hxl); clear x0 x1 x2 x3 x4 x5 x6 x7 x8 x9; obtain ⟨x0, x1, x2, x3, x4, x5, x6, x7, x8, x9⟩ := HX.out _ (sl_below0 HS.out); have hxl := World.block_lt_of_cell? _ _ x0; (try clear rA rB rC rE); (try clear nr nr' nl nl' nh nh'); (try (have rA := c_at HS.out 4 rfl 0 rfl; have rB := c_at HS.out 4 rfl 1 rfl; have rC := c_at HS.out 4 rfl 2 rfl; have rE := c_at HS.out 4 rfl 3 rfl; have rl := blk_lt (sl_blk HS.out 4 rfl); have nr := sl_ne HS.out 3 4 (by decide) rfl rfl; have nr' := Ne.symm nr; have nl := sl_ne HS.out 3 1 (by decide) rfl rfl; have nl' := Ne.symm nl; have nh := sl_ne HS.out 3 2 (by decide) rfl rfl; have nh' := Ne.symm nh)); (try clear bl0 bl1 bh0 bh1 bs0 bs1 fl0 fl1 fh0 fh1 fs0 fs1 ltl lth lts); have bl0 := c_at HS.out 1 rfl 0 rfl; have fl0 := f_at HS.out 1 rfl 0; have bl1 := c_at HS.out 1 rfl 1 rfl; have fl1 := f_at HS.out 1 rfl 1; have bh0 := c_at HS.out 2 rfl 0 rfl; have fh0 := f_at HS.out 2 rfl 0; have bh1 := c_at HS.out 2 rfl 1 rfl; have fh1 := f_at HS.out 2 rfl 1; have bs0 := c_at HS.out 3 rfl 0 rfl; have fs0 := f_at HS.out 3 rfl 0; have bs1 := c_at HS.out 3 rfl 1 rfl; have fs1 := f_at HS.out 3 rfl 1; have ltl := blk_lt (sl_blk HS.out 1 rfl); have lth := blk_lt (sl_blk HS.out 2 rfl); have lts := blk_lt (sl_blk HS.out 3 rfl))
        | (go_at_call 19; refine (within_c (by repeat (with_reducible first | exact HS.out | exact (sl_put (sl_put HS.out 3 rfl 0 (.int .i64 CA)) 3 rfl 1 (.int .i64 CB)) | apply sl_drewN | apply sl_drew | apply sl_box | apply sl_alloc)) _ _ _ _ _ _ HWb.out).mono ?_; rintro e w1 ⟨rfl, hs⟩; (try simp only [World.size_alloc] at hs); replace HS := Aside0.mk hs; clear hs; (try clear hxl); clear x0 x1 x2 x3 x4 x5 x6 x7 x8 x9; obtain ⟨x0, x1, x2, x3, x4, x5, x6, x7, x8, x9⟩ := HX.out _ (sl_below0 HS.out); have hxl := World.block_lt_of_cell? _ _ x0; (try clear rA rB rC rE); (try clear nr nr' nl nl' nh nh'); (try (have rA := c_at HS.out 4 rfl 0 rfl; have rB := c_at HS.out 4 rfl 1 rfl; have rC := c_at HS.out 4 rfl 2 rfl; have rE := c_at HS.out 4 rfl 3 rfl; have rl := blk_lt (sl_blk HS.out 4 rfl); have nr := sl_ne HS.out 3 4 (by decide) rfl rfl; have nr' := Ne.symm nr; have nl := sl_ne HS.out 3 1 (by decide) rfl rfl; have nl' := Ne.symm nl; have nh := sl_ne HS.out 3 2 (by decide) rfl rfl; have nh' := Ne.symm nh)); (try clear bl0 bl1 bh0 bh1 bs0 bs1 fl0 fl1 fh0 fh1 fs0 fs1 ltl lth lts); have bl0 := c_at HS.out 1 rfl 0 rfl; have fl0 := f_at HS.out 1 rfl 0; have bl1 := c_at HS.out 1 rfl 1 rfl; have fl1 := f_at HS.out 1 rfl 1; have bh0 := c_at HS.out 2 rfl 0 rfl; have fh0 := f_at HS.out 2 rfl 0; have bh1 := c_at HS.out 2 rfl 1 rfl; have fh1 := f_at HS.out 2 rfl 1; have bs0 := c_at HS.out 3 rfl 0 rfl; have fs0 := f_at HS.out 3 rfl 0; have bs1 := c_at HS.out 3 rfl 1 rfl; have fs1 := f_at HS.out 3 rfl 1; have ltl := blk_lt (sl_blk HS.out 1 rfl); have lth := blk_lt (sl_blk HS.out 2 rfl); have lts := blk_lt (sl_blk HS.out 3 rfl))
        | (go_at_call 20; refine (Geo_sl (by repeat (with_reducible first | exact HS.out | apply sl_drewN | apply sl_drew | apply sl_box | apply sl_alloc)) 0 (by rfl)).mono ?_; rintro e w1 ⟨rfl, hs⟩; (try simp only [World.size_alloc] at hs); replace HS := Aside0.mk hs; clear hs; (try clear hxl); clear x0 x1 x2 x3 x4 x5 x6 x7 x8 x9; obtain ⟨x0, x1, x2, x3, x4, x5, x6, x7, x8, x9⟩ := HX.out _ (sl_below0 HS.out); have hxl := World.block_lt_of_cell? _ _ x0; (try clear rA rB rC rE); (try clear nr nr' nl nl' nh nh'); (try (have rA := c_at HS.out 4 rfl 0 rfl; have rB := c_at HS.out 4 rfl 1 rfl; have rC := c_at HS.out 4 rfl 2 rfl; have rE := c_at HS.out 4 rfl 3 rfl; have rl := blk_lt (sl_blk HS.out 4 rfl); have nr := sl_ne HS.out 3 4 (by decide) rfl rfl; have nr' := Ne.symm nr; have nl := sl_ne HS.out 3 1 (by decide) rfl rfl; have nl' := Ne.symm nl; have nh := sl_ne HS.out 3 2 (by decide) rfl rfl; have nh' := Ne.symm nh)); (try clear bl0 bl1 bh0 bh1 bs0 bs1 fl0 fl1 fh0 fh1 fs0 fs1 ltl lth lts); have bl0 := c_at HS.out 1 rfl 0 rfl; have fl0 := f_at HS.out 1 rfl 0; have bl1 := c_at HS.out 1 rfl 1 rfl; have fl1 := f_at HS.out 1 rfl 1; have bh0 := c_at HS.out 2 rfl 0 rfl; have fh0 := f_at HS.out 2 rfl 0; have bh1 := c_at HS.out 2 rfl 1 rfl; have fh1 := f_at HS.out 2 rfl 1; have bs0 := c_at HS.out 3 rfl 0 rfl; have fs0 := f_at HS.out 3 rfl 0; have bs1 := c_at HS.out 3 rfl 1 rfl; have fs1 := f_at HS.out 3 rfl 1; have ltl := blk_lt (sl_blk HS.out 1 rfl); have lth := blk_lt (sl_blk HS.out 2 rfl); have lts := blk_lt (sl_blk HS.out 3 rfl)))
          go_roundg kq
          case measure => omega
          case rel =>
            refine ⟨i + 1, S, rfl, ⟨by have := HI.out; omega⟩, HWj, ⟨?_⟩⟩
            rw [HK.out.1, HK.out.2.1, HK.out.2.2.1, HK.out.2.2.2.1, HK.out.2.2.2.2.1, HK.out.2.2.2.2.2.1]
            exact (by first | exact HS.out | exact sl_take HS.out 4 | exact sl_take (sl_put (sl_put HS.out 3 rfl 0 (.int .i64 CA)) 3 rfl 1 (.int .i64 CB)) 4)
      by_cases k4 : x.f0 = 4
      · have d4 : (x.f0 == 4) = true := beq_iff_eq.2 k4
        have d0 : (x.f0 == 0) = false := beq_eq_false_iff_ne.2 (by omega)
        have d1 : (x.f0 == 1) = false := beq_eq_false_iff_ne.2 (by omega)
        have d2 : (x.f0 == 2) = false := beq_eq_false_iff_ne.2 (by omega)
        have d3 : (x.f0 == 3) = false := beq_eq_false_iff_ne.2 (by omega)
        obtain rfl : S = s := hlf.k4 (.inr k4)
        clear hlf hlf23 hlf5 c1 k0 k1 k2 k3 k4 hfb
        go_wp2_with (first
        | (go_at_call 16; refine (call_eqw (by repeat (with_reducible first | exact HS.out | apply sl_drewN | apply sl_drew | apply sl_box | apply sl_alloc)) 0 x HD.out.1 HD.out.2.1 HD.out.2.2.1 HD.out.2.2.2.1 HD.out.2.2.2.2 (by rfl) (by first | exact rfl | (rw [← HOn.out]; done))).mono ?_; rintro e w1 ⟨rfl, hs⟩; (try simp only [World.size_alloc] at hs); replace HS := Aside0.mk hs; clear hs; (try clear hxl); clear x0 x1 x2 x3 x4 x5 x6 x7 x8 x9; obtain ⟨x0, x1, x2, x3, x4, x5, x6, x7, x8, x9⟩ := HX.out _ (sl_below0 HS.out); have hxl := World.block_lt_of_cell? _ _ x0; (try clear rA rB rC rE); (try clear nr nr' nl nl' nh nh'); (try (have rA := c_at HS.out 4 rfl 0 rfl; have rB := c_at HS.out 4 rfl 1 rfl; have rC := c_at HS.out 4 rfl 2 rfl; have rE := c_at HS.out 4 rfl 3 rfl; have rl := blk_lt (sl_blk HS.out 4 rfl); have nr := sl_ne HS.out 3 4 (by decide) rfl rfl; have nr' := Ne.symm nr; have nl := sl_ne HS.out 3 1 (by decide) rfl rfl; have nl' := Ne.symm nl; have nh := sl_ne HS.out 3 2 (by decide) rfl rfl; have nh' := Ne.symm nh)); (try clear bl0 bl1 bh0 bh1 bs0 bs1 fl0 fl1 fh0 fh1 fs0 fs1 ltl lth lts); have bl0 := c_at HS.out 1 rfl 0 rfl; have fl0 := f_at HS.out 1 rfl 0; have bl1 := c_at HS.out 1 rfl 1 rfl; have fl1 := f_at HS.out 1 rfl 1; have bh0 := c_at HS.out 2 rfl 0 rfl; have fh0 := f_at HS.out 2 rfl 0; have bh1 := c_at HS.out 2 rfl 1 rfl; have fh1 := f_at HS.out 2 rfl 1; have bs0 := c_at HS.out 3 rfl 0 rfl; have fs0 := f_at HS.out 3 rfl 0; have bs1 := c_at HS.out 3 rfl 1 rfl; have fs1 := f_at HS.out 3 rfl 1; have ltl := blk_lt (sl_blk HS.out 1 rfl); have lth := blk_lt (sl_blk HS.out 2 rfl); have lts := blk_lt (sl_blk HS.out 3 rfl))
        | (go_at_call 18; refine (Sta_sl (by repeat (with_reducible first | exact HS.out | apply sl_drewN | apply sl_drew | apply sl_box | apply sl_alloc)) 0 HN.out (by rfl)).mono ?_; rintro e w1 ⟨rfl, hs⟩; (try simp only [World.size_alloc] at hs); replace HS := Aside0.mk hs; clear hs; (try clear hxl); clear x0 x1 x2 x3 x4 x5 x6 x7 x8 x9; obtain ⟨x0, x1, x2, x3, x4, x5, x6, x7, x8, x9⟩ := HX.out _ (sl_below0 HS.out); have hxl := World.block_lt_of_cell? _ _ x0; (try clear rA rB rC rE); (try clear nr nr' nl nl' nh nh'); (try (have rA := c_at HS.out 4 rfl 0 rfl; have rB := c_at HS.out 4 rfl 1 rfl; have rC := c_at HS.out 4 rfl 2 rfl; have rE := c_at HS.out 4 rfl 3 rfl; have rl := blk_lt (sl_blk HS.out 4 rfl); have nr := sl_ne HS.out 3 4 (by decide) rfl rfl; have nr' := Ne.symm nr; have nl := sl_ne HS.out 3 1 (by decide) rfl rfl; have nl' := Ne.symm nl; have nh := sl_ne HS.out 3 2 (by decide) rfl rfl; have nh' := Ne.symm nh)); (try clear bl0 bl1 bh0 bh1 bs0 bs1 fl0 fl1 fh0 fh1 fs0 fs1 ltl lth lts); have bl0 := c_at HS.out 1 rfl 0 rfl; have fl0 := f_at HS.out 1 rfl 0; have bl1 := c_at HS.out 1 rfl 1 rfl; have fl1 := f_at HS.out 1 rfl 1; have bh0 := c_at HS.out 2 rfl 0 rfl; have fh0 := f_at HS.out 2 rfl 0; have bh1 := c_at HS.out 2 rfl 1 rfl; have fh1 := f_at HS.out 2 rfl 1; have bs0 := c_at HS.out 3 rfl 0 rfl; have fs0 := f_at HS.out 3 rfl 0; have bs1 := c_at HS.out 3 rfl 1 rfl; have fs1 := f_at HS.out 3 rfl 1; have ltl := blk_lt (sl_blk HS.out 1 rfl); have lth := blk_lt (sl_blk HS.out 2 rfl); have lts := blk_lt (sl_blk HS.out 3 rfl))
        | (go_at_call 19; refine (within_c (by repeat (with_reducible first | exact HS.out | exact (sl_put (sl_put HS.out 3 rfl 0 (.int .i64 CA)) 3 rfl 1 (.int .i64 CB)) | apply sl_drewN | apply sl_drew | apply sl_box | apply sl_alloc)) _ _ _ _ _ _ HWb.out).mono ?_; rintro e w1 ⟨rfl, hs⟩; (try simp only [World.size_alloc] at hs); replace HS := Aside0.mk hs; clear hs; (try clear hxl); clear x0 x1 x2 x3 x4 x5 x6 x7 x8 x9; obtain ⟨x0, x1, x2, x3, x4, x5, x6, x7, x8, x9⟩ := HX.out _ (sl_below0 HS.out); have hxl := World.block_lt_of_cell? _ _ x0; (try clear rA rB rC rE); (try clear nr nr' nl nl' nh nh'); (try (have rA := c_at HS.out 4 rfl 0 rfl; have rB := c_at HS.out 4 rfl 1 rfl; have rC := c_at HS.out 4 rfl 2 rfl; have rE := c_at HS.out 4 rfl 3 rfl; have rl := blk_lt (sl_blk HS.out 4 rfl); have nr := sl_ne HS.out 3 4 (by decide) rfl rfl; have nr' := Ne.symm nr; have nl := sl_ne HS.out 3 1 (by decide) rfl rfl; have nl' := Ne.symm nl; have nh := sl_ne HS.out 3 2 (by decide) rfl rfl; have nh' := Ne.symm nh)); (try clear bl0 bl1 bh0 bh1 bs0 bs1 fl0 fl1 fh0 fh1 fs0 fs1 ltl lth lts); have bl0 := c_at HS.out 1 rfl 0 rfl; have fl0 := f_at HS.out 1 rfl 0; have bl1 := c_at HS.out 1 rfl 1 rfl; have fl1 := f_at HS.out 1 rfl 1; have bh0 := c_at HS.out 2 rfl 0 rfl; have fh0 := f_at HS.out 2 rfl 0; have bh1 := c_at HS.out 2 rfl 1 rfl; have fh1 := f_at HS.out 2 rfl 1; have bs0 := c_at HS.out 3 rfl 0 rfl; have fs0 := f_at HS.out 3 rfl 0; have bs1 := c_at HS.out 3 rfl 1 rfl; have fs1 := f_at HS.out 3 rfl 1; have ltl := blk_lt (sl_blk HS.out 1 rfl); have lth := blk_lt (sl_blk HS.out 2 rfl); have lts := blk_lt (sl_blk HS.out 3 rfl))
        | (go_at_call 20; refine (Geo_sl (by repeat (with_reducible first | exact HS.out | apply sl_drewN | apply sl_drew | apply sl_box | apply sl_alloc)) 0 (by rfl)).mono ?_; rintro e w1 ⟨rfl, hs⟩; (try simp only [World.size_alloc] at hs); replace HS := Aside0.mk hs; clear hs; (try clear hxl); clear x0 x1 x2 x3 x4 x5 x6 x7 x8 x9; obtain ⟨x0, x1, x2, x3, x4, x5, x6, x7, x8, x9⟩ := HX.out _ (sl_below0 HS.out); have hxl := World.block_lt_of_cell? _ _ x0; (try clear rA rB rC rE); (try clear nr nr' nl nl' nh nh'); (try (have rA := c_at HS.out 4 rfl 0 rfl; have rB := c_at HS.out 4 rfl 1 rfl; have rC := c_at HS.out 4 rfl 2 rfl; have rE := c_at HS.out 4 rfl 3 rfl; have rl := blk_lt (sl_blk HS.out 4 rfl); have nr := sl_ne HS.out 3 4 (by decide) rfl rfl; have nr' := Ne.symm nr; have nl := sl_ne HS.out 3 1 (by decide) rfl rfl; have nl' := Ne.symm nl; have nh := sl_ne HS.out 3 2 (by decide) rfl rfl; have nh' := Ne.symm nh)); (try clear bl0 bl1 bh0 bh1 bs0 bs1 fl0 fl1 fh0 fh1 fs0 fs1 ltl lth lts); have bl0 := c_at HS.out 1 rfl 0 rfl; have fl0 := f_at HS.out 1 rfl 0; have bl1 := c_at HS.out 1 rfl 1 rfl; have fl1 := f_at HS.out 1 rfl 1; have bh0 := c_at HS.out 2 rfl 0 rfl; have fh0 := f_at HS.out 2 rfl 0; have bh1 := c_at HS.out 2 rfl 1 rfl; have fh1 := f_at HS.out 2 rfl 1; have bs0 := c_at HS.out 3 rfl 0 rfl; have fs0 := f_at HS.out 3 rfl 0; have bs1 := c_at HS.out 3 rfl 1 rfl; have fs1 := f_at HS.out 3 rfl 1; have ltl := blk_lt (sl_blk HS.out 1 rfl); have lth := blk_lt (sl_blk HS.out 2 rfl); have lts := blk_lt (sl_blk HS.out 3 rfl)))
        go_roundg kq
        case measure => omega
        case rel =>
          refine ⟨i + 1, S, rfl, ⟨by have := HI.out; omega⟩, HWj, ⟨?_⟩⟩
          skip
          exact (by first | exact HS.out | exact sl_take HS.out 4 | exact sl_alloc HS.out _ | (repeat (with_reducible first | exact HS.out | apply sl_drewN | apply sl_drew | apply sl_alloc)))
      have d0 : (x.f0 == 0) = false := beq_eq_false_iff_ne.2 (by omega)
      have d1 : (x.f0 == 1) = false := beq_eq_false_iff_ne.2 (by omega)
      have d2 : (x.f0 == 2) = false := beq_eq_false_iff_ne.2 (by omega)
      have d3 : (x.f0 == 3) = false := beq_eq_false_iff_ne.2 (by omega)
      have d4 : (x.f0 == 4) = false := beq_eq_false_iff_ne.2 (by omega)
      have hk := hlf5 c1 k0 k1 k2 k3 k4
      have HK := Aside0.mk hk
      obtain ⟨g1, g2, e1, e2, e3, e4, e5, e6, hf, ht⟩ := hk
      have g1' : (S.gx != x.f2) = false := bne_eq_false_iff_eq.2 g1
      have g2' : (S.gy != x.f3) = false := bne_eq_false_iff_eq.2 g2
      clear hlf hlf23 hlf5 c1 k0 k1 k2 k3 k4 hfb e1 e2 e3 e4 e5 e6
      cases fb
      · replace a3 : (X3 == 0) = true := a3
        have HWb := Aside0.mk (show wiB S.gx S.gy s.lx s.ly s.mx s.my = true by rw [g1, g2]; exact hf rfl)
        clear hf ht g1 g2
        go_wp2_with (first
        | (go_at_call 16; refine (call_eqw (by repeat (with_reducible first | exact HS.out | apply sl_drewN | apply sl_drew | apply sl_box | apply sl_alloc)) 0 x HD.out.1 HD.out.2.1 HD.out.2.2.1 HD.out.2.2.2.1 HD.out.2.2.2.2 (by rfl) (by first | exact rfl | (rw [← HOn.out]; done))).mono ?_; rintro e w1 ⟨rfl, hs⟩; (try simp only [World.size_alloc] at hs); replace HS := Aside0.mk hs; clear hs; (try clear hxl); clear x0 x1 x2 x3 x4 x5 x6 x7 x8 x9; obtain ⟨x0, x1, x2, x3, x4, x5, x6, x7, x8, x9⟩ := HX.out _ (sl_below0 HS.out); have hxl := World.block_lt_of_cell? _ _ x0; (try clear rA rB rC rE); (try clear nr nr' nl nl' nh nh'); (try (have rA := c_at HS.out 4 rfl 0 rfl; have rB := c_at HS.out 4 rfl 1 rfl; have rC := c_at HS.out 4 rfl 2 rfl; have rE := c_at HS.out 4 rfl 3 rfl; have rl := blk_lt (sl_blk HS.out 4 rfl); have nr := sl_ne HS.out 3 4 (by decide) rfl rfl; have nr' := Ne.symm nr; have nl := sl_ne HS.out 3 1 (by decide) rfl rfl; have nl' := Ne.symm nl; have nh := sl_ne HS.out 3 2 (by decide) rfl rfl; have nh' := Ne.symm nh)); (try clear bl0 bl1 bh0 bh1 bs0 bs1 fl0 fl1 fh0 fh1 fs0 fs1 ltl lth lts); have bl0 := c_at HS.out 1 rfl 0 rfl; have fl0 := f_at HS.out 1 rfl 0; have bl1 := c_at HS.out 1 rfl 1 rfl; have fl1 := f_at HS.out 1 rfl 1; have bh0 := c_at HS.out 2 rfl 0 rfl; have fh0 := f_at HS.out 2 rfl 0; have bh1 := c_at HS.out 2 rfl 1 rfl; have fh1 := f_at HS.out 2 rfl 1; have bs0 := c_at HS.out 3 rfl 0 rfl; have fs0 := f_at HS.out 3 rfl 0; have bs1 := c_at HS.out 3 rfl 1 rfl; have fs1 := f_at HS.out 3 rfl 1; have ltl := blk_lt (sl_blk HS.out 1 rfl); have lth := blk_lt (sl_blk HS.out 2 rfl); have lts := blk_lt (sl_blk HS.out 3 rfl))
        | (go_at_call 18; refine (Sta_sl (by repeat (with_reducible first | exact HS.out | apply sl_drewN | apply sl_drew | apply sl_box | apply sl_alloc)) 0 HN.out (by rfl)).mono ?_; rintro e w1 ⟨rfl, hs⟩; (try simp only [World.size_alloc] at hs); replace HS := Aside0.mk hs; clear hs; (try clear hxl); clear x0 x1 x2 x3 x4 x5 x6 x7 x8 x9; obtain ⟨x0, x1, x2, x3, x4, x5, x6, x7, x8, x9⟩ := HX.out _ (sl_below0 HS.out); have hxl := World.block_lt_of_cell? _ _ x0; (try clear rA rB rC rE); (try clear nr nr' nl nl' nh nh'); (try (have rA := c_at HS.out 4 rfl 0 rfl; have rB := c_at HS.out 4 rfl 1 rfl; have rC := c_at HS.out 4 rfl 2 rfl; have rE := c_at HS.out 4 rfl 3 rfl; have rl := blk_lt (sl_blk HS.out 4 rfl); have nr := sl_ne HS.out 3 4 (by decide) rfl rfl; have nr' := Ne.symm nr; have nl := sl_ne HS.out 3 1 (by decide) rfl rfl; have nl' := Ne.symm nl; have nh := sl_ne HS.out 3 2 (by decide) rfl rfl; have nh' := Ne.symm nh)); (try clear bl0 bl1 bh0 bh1 bs0 bs1 fl0 fl1 fh0 fh1 fs0 fs1 ltl lth lts); have bl0 := c_at HS.out 1 rfl 0 rfl; have fl0 := f_at HS.out 1 rfl 0; have bl1 := c_at HS.out 1 rfl 1 rfl; have fl1 := f_at HS.out 1 rfl 1; have bh0 := c_at HS.out 2 rfl 0 rfl; have fh0 := f_at HS.out 2 rfl 0; have bh1 := c_at HS.out 2 rfl 1 rfl; have fh1 := f_at HS.out 2 rfl 1; have bs0 := c_at HS.out 3 rfl 0 rfl; have fs0 := f_at HS.out 3 rfl 0; have bs1 := c_at HS.out 3 rfl 1 rfl; have fs1 := f_at HS.out 3 rfl 1; have ltl := blk_lt (sl_blk HS.out 1 rfl); have lth := blk_lt (sl_blk HS.out 2 rfl); have lts := blk_lt (sl_blk HS.out 3 rfl))
        | (go_at_call 19; refine (within_c (by repeat (with_reducible first | exact HS.out | exact (sl_put (sl_put HS.out 3 rfl 0 (.int .i64 CA)) 3 rfl 1 (.int .i64 CB)) | apply sl_drewN | apply sl_drew | apply sl_box | apply sl_alloc)) _ _ _ _ _ _ HWb.out).mono ?_; rintro e w1 ⟨rfl, hs⟩; (try simp only [World.size_alloc] at hs); replace HS := Aside0.mk hs; clear hs; (try clear hxl); clear x0 x1 x2 x3 x4 x5 x6 x7 x8 x9; obtain ⟨x0, x1, x2, x3, x4, x5, x6, x7, x8, x9⟩ := HX.out _ (sl_below0 HS.out); have hxl := World.block_lt_of_cell? _ _ x0; (try clear rA rB rC rE); (try clear nr nr' nl nl' nh nh'); (try (have rA := c_at HS.out 4 rfl 0 rfl; have rB := c_at HS.out 4 rfl 1 rfl; have rC := c_at HS.out 4 rfl 2 rfl; have rE := c_at HS.out 4 rfl 3 rfl; have rl := blk_lt (sl_blk HS.out 4 rfl); have nr := sl_ne HS.out 3 4 (by decide) rfl rfl; have nr' := Ne.symm nr; have nl := sl_ne HS.out 3 1 (by decide) rfl rfl; have nl' := Ne.symm nl; have nh := sl_ne HS.out 3 2 (by decide) rfl rfl; have nh' := Ne.symm nh)); (try clear bl0 bl1 bh0 bh1 bs0 bs1 fl0 fl1 fh0 fh1 fs0 fs1 ltl lth lts); have bl0 := c_at HS.out 1 rfl 0 rfl; have fl0 := f_at HS.out 1 rfl 0; have bl1 := c_at HS.out 1 rfl 1 rfl; have fl1 := f_at HS.out 1 rfl 1; have bh0 := c_at HS.out 2 rfl 0 rfl; have fh0 := f_at HS.out 2 rfl 0; have bh1 := c_at HS.out 2 rfl 1 rfl; have fh1 := f_at HS.out 2 rfl 1; have bs0 := c_at HS.out 3 rfl 0 rfl; have fs0 := f_at HS.out 3 rfl 0; have bs1 := c_at HS.out 3 rfl 1 rfl; have fs1 := f_at HS.out 3 rfl 1; have ltl := blk_lt (sl_blk HS.out 1 rfl); have lth := blk_lt (sl_blk HS.out 2 rfl); have lts := blk_lt (sl_blk HS.out 3 rfl))
        | (go_at_call 20; refine (Geo_sl (by repeat (with_reducible first | exact HS.out | apply sl_drewN | apply sl_drew | apply sl_box | apply sl_alloc)) 0 (by rfl)).mono ?_; rintro e w1 ⟨rfl, hs⟩; (try simp only [World.size_alloc] at hs); replace HS := Aside0.mk hs; clear hs; (try clear hxl); clear x0 x1 x2 x3 x4 x5 x6 x7 x8 x9; obtain ⟨x0, x1, x2, x3, x4, x5, x6, x7, x8, x9⟩ := HX.out _ (sl_below0 HS.out); have hxl := World.block_lt_of_cell? _ _ x0; (try clear rA rB rC rE); (try clear nr nr' nl nl' nh nh'); (try (have rA := c_at HS.out 4 rfl 0 rfl; have rB := c_at HS.out 4 rfl 1 rfl; have rC := c_at HS.out 4 rfl 2 rfl; have rE := c_at HS.out 4 rfl 3 rfl; have rl := blk_lt (sl_blk HS.out 4 rfl); have nr := sl_ne HS.out 3 4 (by decide) rfl rfl; have nr' := Ne.symm nr; have nl := sl_ne HS.out 3 1 (by decide) rfl rfl; have nl' := Ne.symm nl; have nh := sl_ne HS.out 3 2 (by decide) rfl rfl; have nh' := Ne.symm nh)); (try clear bl0 bl1 bh0 bh1 bs0 bs1 fl0 fl1 fh0 fh1 fs0 fs1 ltl lth lts); have bl0 := c_at HS.out 1 rfl 0 rfl; have fl0 := f_at HS.out 1 rfl 0; have bl1 := c_at HS.out 1 rfl 1 rfl; have fl1 := f_at HS.out 1 rfl 1; have bh0 := c_at HS.out 2 rfl 0 rfl; have fh0 := f_at HS.out 2 rfl 0; have bh1 := c_at HS.out 2 rfl 1 rfl; have fh1 := f_at HS.out 2 rfl 1; have bs0 := c_at HS.out 3 rfl 0 rfl; have fs0 := f_at HS.out 3 rfl 0; have bs1 := c_at HS.out 3 rfl 1 rfl; have fs1 := f_at HS.out 3 rfl 1; have ltl := blk_lt (sl_blk HS.out 1 rfl); have lth := blk_lt (sl_blk HS.out 2 rfl); have lts := blk_lt (sl_blk HS.out 3 rfl)))
        go_roundg kq
        case measure => omega
        case rel =>
          refine ⟨i + 1, S, rfl, ⟨by have := HI.out; omega⟩, HWj, ⟨?_⟩⟩
          rw [HK.out.2.2.1, HK.out.2.2.2.1, HK.out.2.2.2.2.1, HK.out.2.2.2.2.2.1, HK.out.2.2.2.2.2.2.1, HK.out.2.2.2.2.2.2.2.1]
          exact (by first | exact HS.out | exact sl_take HS.out 4 | exact sl_alloc HS.out _ | (repeat (with_reducible first | exact HS.out | apply sl_drewN | apply sl_drew | apply sl_alloc)))
      · replace a3 : (X3 == 0) = false := a3
        have HWb := 0
        obtain ⟨t1, t2⟩ := ht rfl
        have t1' : (S.gx != s.sx) = false := bne_eq_false_iff_eq.2 (g1.trans t1)
        have t2' : (S.gy != s.sy) = false := bne_eq_false_iff_eq.2 (g2.trans t2)
        clear hf ht g1 g2 t1 t2
        go_wp2_with (first
        | (go_at_call 16; refine (call_eqw (by repeat (with_reducible first | exact HS.out | apply sl_drewN | apply sl_drew | apply sl_box | apply sl_alloc)) 0 x HD.out.1 HD.out.2.1 HD.out.2.2.1 HD.out.2.2.2.1 HD.out.2.2.2.2 (by rfl) (by first | exact rfl | (rw [← HOn.out]; done))).mono ?_; rintro e w1 ⟨rfl, hs⟩; (try simp only [World.size_alloc] at hs); replace HS := Aside0.mk hs; clear hs; (try clear hxl); clear x0 x1 x2 x3 x4 x5 x6 x7 x8 x9; obtain ⟨x0, x1, x2, x3, x4, x5, x6, x7, x8, x9⟩ := HX.out _ (sl_below0 HS.out); have hxl := World.block_lt_of_cell? _ _ x0; (try clear rA rB rC rE); (try clear nr nr' nl nl' nh nh'); (try (have rA := c_at HS.out 4 rfl 0 rfl; have rB := c_at HS.out 4 rfl 1 rfl; have rC := c_at HS.out 4 rfl 2 rfl; have rE := c_at HS.out 4 rfl 3 rfl; have rl := blk_lt (sl_blk HS.out 4 rfl); have nr := sl_ne HS.out 3 4 (by decide) rfl rfl; have nr' := Ne.symm nr; have nl := sl_ne HS.out 3 1 (by decide) rfl rfl; have nl' := Ne.symm nl; have nh := sl_ne HS.out 3 2 (by decide) rfl rfl; have nh' := Ne.symm nh)); (try clear bl0 bl1 bh0 bh1 bs0 bs1 fl0 fl1 fh0 fh1 fs0 fs1 ltl lth lts); have bl0 := c_at HS.out 1 rfl 0 rfl; have fl0 := f_at HS.out 1 rfl 0; have bl1 := c_at HS.out 1 rfl 1 rfl; have fl1 := f_at HS.out 1 rfl 1; have bh0 := c_at HS.out 2 rfl 0 rfl; have fh0 := f_at HS.out 2 rfl 0; have bh1 := c_at HS.out 2 rfl 1 rfl; have fh1 := f_at HS.out 2 rfl 1; have bs0 := c_at HS.out 3 rfl 0 rfl; have fs0 := f_at HS.out 3 rfl 0; have bs1 := c_at HS.out 3 rfl 1 rfl; have fs1 := f_at HS.out 3 rfl 1; have ltl := blk_lt (sl_blk HS.out 1 rfl); have lth := blk_lt (sl_blk HS.out 2 rfl); have lts := blk_lt (sl_blk HS.out 3 rfl))
        | (go_at_call 18; refine (Sta_sl (by repeat (with_reducible first | exact HS.out | apply sl_drewN | apply sl_drew | apply sl_box | apply sl_alloc)) 0 HN.out (by rfl)).mono ?_; rintro e w1 ⟨rfl, hs⟩; (try simp only [World.size_alloc] at hs); replace HS := Aside0.mk hs; clear hs; (try clear hxl); clear x0 x1 x2 x3 x4 x5 x6 x7 x8 x9; obtain ⟨x0, x1, x2, x3, x4, x5, x6, x7, x8, x9⟩ := HX.out _ (sl_below0 HS.out); have hxl := World.block_lt_of_cell? _ _ x0; (try clear rA rB rC rE); (try clear nr nr' nl nl' nh nh'); (try (have rA := c_at HS.out 4 rfl 0 rfl; have rB := c_at HS.out 4 rfl 1 rfl; have rC := c_at HS.out 4 rfl 2 rfl; have rE := c_at HS.out 4 rfl 3 rfl; have rl := blk_lt (sl_blk HS.out 4 rfl); have nr := sl_ne HS.out 3 4 (by decide) rfl rfl; have nr' := Ne.symm nr; have nl := sl_ne HS.out 3 1 (by decide) rfl rfl; have nl' := Ne.symm nl; have nh := sl_ne HS.out 3 2 (by decide) rfl rfl; have nh' := Ne.symm nh)); (try clear bl0 bl1 bh0 bh1 bs0 bs1 fl0 fl1 fh0 fh1 fs0 fs1 ltl lth lts); have bl0 := c_at HS.out 1 rfl 0 rfl; have fl0 := f_at HS.out 1 rfl 0; have bl1 := c_at HS.out 1 rfl 1 rfl; have fl1 := f_at HS.out 1 rfl 1; have bh0 := c_at HS.out 2 rfl 0 rfl; have fh0 := f_at HS.out 2 rfl 0; have bh1 := c_at HS.out 2 rfl 1 rfl; have fh1 := f_at HS.out 2 rfl 1; have bs0 := c_at HS.out 3 rfl 0 rfl; have fs0 := f_at HS.out 3 rfl 0; have bs1 := c_at HS.out 3 rfl 1 rfl; have fs1 := f_at HS.out 3 rfl 1; have ltl := blk_lt (sl_blk HS.out 1 rfl); have lth := blk_lt (sl_blk HS.out 2 rfl); have lts := blk_lt (sl_blk HS.out 3 rfl))
        | (go_at_call 19; refine (within_c (by repeat (with_reducible first | exact HS.out | exact (sl_put (sl_put HS.out 3 rfl 0 (.int .i64 CA)) 3 rfl 1 (.int .i64 CB)) | apply sl_drewN | apply sl_drew | apply sl_box | apply sl_alloc)) _ _ _ _ _ _ HWb.out).mono ?_; rintro e w1 ⟨rfl, hs⟩; (try simp only [World.size_alloc] at hs); replace HS := Aside0.mk hs; clear hs; (try clear hxl); clear x0 x1 x2 x3 x4 x5 x6 x7 x8 x9; obtain ⟨x0, x1, x2, x3, x4, x5, x6, x7, x8, x9⟩ := HX.out _ (sl_below0 HS.out); have hxl := World.block_lt_of_cell? _ _ x0; (try clear rA rB rC rE); (try clear nr nr' nl nl' nh nh'); (try (have rA := c_at HS.out 4 rfl 0 rfl; have rB := c_at HS.out 4 rfl 1 rfl; have rC := c_at HS.out 4 rfl 2 rfl; have rE := c_at HS.out 4 rfl 3 rfl; have rl := blk_lt (sl_blk HS.out 4 rfl); have nr := sl_ne HS.out 3 4 (by decide) rfl rfl; have nr' := Ne.symm nr; have nl := sl_ne HS.out 3 1 (by decide) rfl rfl; have nl' := Ne.symm nl; have nh := sl_ne HS.out 3 2 (by decide) rfl rfl; have nh' := Ne.symm nh)); (try clear bl0 bl1 bh0 bh1 bs0 bs1 fl0 fl1 fh0 fh1 fs0 fs1 ltl lth lts); have bl0 := c_at HS.out 1 rfl 0 rfl; have fl0 := f_at HS.out 1 rfl 0; have bl1 := c_at HS.out 1 rfl 1 rfl; have fl1 := f_at HS.out 1 rfl 1; have bh0 := c_at HS.out 2 rfl 0 rfl; have fh0 := f_at HS.out 2 rfl 0; have bh1 := c_at HS.out 2 rfl 1 rfl; have fh1 := f_at HS.out 2 rfl 1; have bs0 := c_at HS.out 3 rfl 0 rfl; have fs0 := f_at HS.out 3 rfl 0; have bs1 := c_at HS.out 3 rfl 1 rfl; have fs1 := f_at HS.out 3 rfl 1; have ltl := blk_lt (sl_blk HS.out 1 rfl); have lth := blk_lt (sl_blk HS.out 2 rfl); have lts := blk_lt (sl_blk HS.out 3 rfl))
        | (go_at_call 20; refine (Geo_sl (by repeat (with_reducible first | exact HS.out | apply sl_drewN | apply sl_drew | apply sl_box | apply sl_alloc)) 0 (by rfl)).mono ?_; rintro e w1 ⟨rfl, hs⟩; (try simp only [World.size_alloc] at hs); replace HS := Aside0.mk hs; clear hs; (try clear hxl); clear x0 x1 x2 x3 x4 x5 x6 x7 x8 x9; obtain ⟨x0, x1, x2, x3, x4, x5, x6, x7, x8, x9⟩ := HX.out _ (sl_below0 HS.out); have hxl := World.block_lt_of_cell? _ _ x0; (try clear rA rB rC rE); (try clear nr nr' nl nl' nh nh'); (try (have rA := c_at HS.out 4 rfl 0 rfl; have rB := c_at HS.out 4 rfl 1 rfl; have rC := c_at HS.out 4 rfl 2 rfl; have rE := c_at HS.out 4 rfl 3 rfl; have rl := blk_lt (sl_blk HS.out 4 rfl); have nr := sl_ne HS.out 3 4 (by decide) rfl rfl; have nr' := Ne.symm nr; have nl := sl_ne HS.out 3 1 (by decide) rfl rfl; have nl' := Ne.symm nl; have nh := sl_ne HS.out 3 2 (by decide) rfl rfl; have nh' := Ne.symm nh)); (try clear bl0 bl1 bh0 bh1 bs0 bs1 fl0 fl1 fh0 fh1 fs0 fs1 ltl lth lts); have bl0 := c_at HS.out 1 rfl 0 rfl; have fl0 := f_at HS.out 1 rfl 0; have bl1 := c_at HS.out 1 rfl 1 rfl; have fl1 := f_at HS.out 1 rfl 1; have bh0 := c_at HS.out 2 rfl 0 rfl; have fh0 := f_at HS.out 2 rfl 0; have bh1 := c_at HS.out 2 rfl 1 rfl; have fh1 := f_at HS.out 2 rfl 1; have bs0 := c_at HS.out 3 rfl 0 rfl; have fs0 := f_at HS.out 3 rfl 0; have bs1 := c_at HS.out 3 rfl 1 rfl; have fs1 := f_at HS.out 3 rfl 1; have ltl := blk_lt (sl_blk HS.out 1 rfl); have lth := blk_lt (sl_blk HS.out 2 rfl); have lts := blk_lt (sl_blk HS.out 3 rfl)))
        go_roundg kq
        case measure => omega
        case rel =>
          refine ⟨i + 1, S, rfl, ⟨by have := HI.out; omega⟩, HWj, ⟨?_⟩⟩
          rw [HK.out.2.2.1, HK.out.2.2.2.1, HK.out.2.2.2.2.1, HK.out.2.2.2.2.2.1, HK.out.2.2.2.2.2.2.1, HK.out.2.2.2.2.2.2.2.1]
          exact (by first | exact HS.out | exact sl_take HS.out 4 | exact sl_alloc HS.out _ | (repeat (with_reducible first | exact HS.out | apply sl_drewN | apply sl_drew | apply sl_alloc)))
    · have b1 : decide (i < l.length) = false := decide_eq_false hlt
      clear hlt hi
      go_wp2_with (first
    | (go_at_call 13; refine (light_c (by repeat (with_reducible first | exact HS.out | apply sl_drewN | apply sl_drew | apply sl_alloc)) HR.out HLc.out HLi.out).mono ?_; rintro e w1 ⟨rfl, hs⟩; (try simp only [World.size_alloc] at hs); replace HS := Aside0.mk hs; clear hs)
    | (go_at_call 8; refine (ex_c (by repeat (with_reducible first | exact HS.out | apply sl_drewN | apply sl_drew | apply sl_alloc))).mono ?_; rintro e w1 ⟨rfl, hs⟩; (try simp only [World.size_alloc] at hs); replace HS := Aside0.mk hs; clear hs))
      try rw [Exit.noGoto_ret]
      go_ret
      exact ⟨rfl, sl_below0 HS.out⟩
end Go.Proofs.Ytckpgccbhaejgaa.Q
