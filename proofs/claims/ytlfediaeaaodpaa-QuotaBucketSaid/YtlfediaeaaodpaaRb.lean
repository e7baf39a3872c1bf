import Derived.Test.YtlfediaeaaodpaaP15
namespace Go.Proofs.Ytlfediaeaaodpaa.Q
open Go.RowKit Go.Proofs.YtlfediaeaaodpaaW.PrintWords Go.Proofs.YtlfediaeaaodpaaW.PrintLast Go.Proofs.YtlfediaeaaodpaaW.PrintMore Go.Proofs.Ytlfediaeaaodpaa.Sl Go.Proofs.Ytlfediaeaaodpaa.Hand 
attribute [local go_sem] max2_int min2_int max_two min_two max_three min_three max_four min_four 
set_option linter.unusedVariables false
set_option linter.unusedSimpArgs false

theorem cell_drew {w : World} {a : Addr} {v : Value} (h : w.cell? a = some v) : w.drew.cell? a = some v := h
theorem far_cell {w : World} {p : Addr} {g i : Nat} {v : Value} (h : w.cell? ⟨g, i, none⟩ = some v) (hne : g ≠ p.block) (u : Value) : (w.setCell p u).cell? ⟨g, i, none⟩ = some v :=
  (World.cell?_setCell_other w p ⟨g, i, none⟩ u (fun e => hne (by rw [e]))).trans h
def mcells (b : BSt) : Array Value := #[.bool true, .bool b.started, .int .i64 b.rate, .int .i64 b.burst, .int .i64 b.level, .int .i64 b.now]
def mzero : Array Value := #[.bool false, .bool false, .int .i64 0, .int .i64 0, .int .i64 0, .int .i64 0]
set_option maxHeartbeats 4000000 in
set_option maxRecDepth 100000 in
theorem rAdv_calls {b : BSt} (h : Bok b) {t : Int} (h0 : -9223372036854775808 ≤ t) (h1 : t < 9223372036854775808) (w : World) :
    Calls Try.prog 27 #[.agg (mcells b), .int .i64 t] w fun e w' => e = .returned (.agg (mcells (advB b t))) ∧ Below w.heap.size w w' := by
  obtain ⟨ra, bu, le, st, nw⟩ := b
  obtain ⟨a1, a2, a3, a4, a5, a6, a7, a8⟩ := h
  simp only at a1 a2 a3 a4 a5 a6 a7 a8
  unfold mcells
  simp only
  go_enter Try.func27, Try.ntmps27
  go_upto_region 1 with (first | ((with_reducible refine gate_dst (N := 2) rfl ?_); refine box_event ?hg (N := 2) ?hd (cs := #[.bool true, .bool st, .int .i64 ra, .int .i64 bu, .int .i64 le, .int .i64 nw]) (t := 27) ?hr ?_; (case hd => rfl); (case hg => rfl); (case hr => first | (go_simp; done) | (go_simp; rfl)); intro g2 hg w1 hbox hb; have HX := Aside0.mk hbox; have HB := Aside0.mk hb; have GE0 := Aside0.mk (show w.heap.size ≤ g2 by omega); clear hbox hb hg) | ((with_reducible refine gate_dst (N := 4) rfl ?_); refine box_event ?hg (N := 4) ?hd (cs := #[.bool false, .bool false, .int .i64 0, .int .i64 0, .int .i64 0, .int .i64 0]) (t := 27) ?hr ?_; (case hd => rfl); (case hg => rfl); (case hr => first | (go_simp; done) | (go_simp; rfl)); intro g4 hg w2 hbox hb; have HY := Aside0.mk hbox; have GN := Aside0.mk (show g4 ≠ g2 by have := blk_lt HX.out; omega); have GE := Aside0.mk (show w.heap.size ≤ g2 ∧ w.heap.size ≤ g4 by have := GE0.out; have := HB.out.size; omega); replace HX := Aside0.mk (blk_below HX.out hb); replace HB := Aside0.mk (below_step HB.out hb); have x0 := (blk_cell HX.out 0).trans (show _ = some (Value.bool true) from rfl); have x1 := (blk_cell HX.out 1).trans (show _ = some (Value.bool st) from rfl); have x2 := (blk_cell HX.out 2).trans (show _ = some (Value.int .i64 ra) from rfl); have x3 := (blk_cell HX.out 3).trans (show _ = some (Value.int .i64 bu) from rfl); have x4 := (blk_cell HX.out 4).trans (show _ = some (Value.int .i64 le) from rfl); have x5 := (blk_cell HX.out 5).trans (show _ = some (Value.int .i64 nw) from rfl); have xf0 := blk_frozen HX.out 0; have xf1 := blk_frozen HX.out 1; have xf2 := blk_frozen HX.out 2; have xf3 := blk_frozen HX.out 3; have xf4 := blk_frozen HX.out 4; have xf5 := blk_frozen HX.out 5; have y0 := (blk_cell HY.out 0).trans (show _ = some (Value.bool false) from rfl); have y1 := (blk_cell HY.out 1).trans (show _ = some (Value.bool false) from rfl); have y2 := (blk_cell HY.out 2).trans (show _ = some (Value.int .i64 0) from rfl); have y3 := (blk_cell HY.out 3).trans (show _ = some (Value.int .i64 0) from rfl); have y4 := (blk_cell HY.out 4).trans (show _ = some (Value.int .i64 0) from rfl); have y5 := (blk_cell HY.out 5).trans (show _ = some (Value.int .i64 0) from rfl); have yf0 := blk_frozen HY.out 0; have yf1 := blk_frozen HY.out 1; have yf2 := blk_frozen HY.out 2; have yf3 := blk_frozen HY.out 3; have yf4 := blk_frozen HY.out 4; have yf5 := blk_frozen HY.out 5; have gn := GN.out; have gn2 := Ne.symm gn; have hl1 := blk_lt HX.out; have hl2 := blk_lt HY.out; clear hbox hb hg))
  cases st
  · go_upto_region 3 with (fail)
    refine world_gen (F := fun w_ => Code.wp Try.prog _ _ _ w_) (fun w_ => w_.heap[g2]? = some (.cells #[.bool true, .bool true, .int .i64 ra, .int .i64 bu, .int .i64 le, .int .i64 t] 27 (0, 0)) ∧ w_.heap[g4]? = some (.cells mzero 27 (0, 0)) ∧ Below w.heap.size w w_) ⟨by exact blk_set (blk_set HX.out 1 _) 5 _, by exact blk_far (blk_far HY.out GN.out _) GN.out _, (by repeat (with_reducible first | exact HB.out | apply below_drew | refine below_set ?_ GE.out.1 | refine below_set ?_ GE.out.2))⟩ ?_
    clear x0 xf0 y0 yf0 x1 xf1 y1 yf1 x2 xf2 y2 yf2 x3 xf3 y3 yf3 x4 xf4 y4 yf4 x5 xf5 y5 yf5
    clear hl1 hl2 HX HY HB
    intro w3 ⟨hx, hy, hb⟩
    have HX := Aside0.mk hx
    have HY := Aside0.mk hy
    have HB := Aside0.mk hb
    clear hx hy hb
    have x0 := (blk_cell HX.out 0).trans (show _ = some (Value.bool true) from rfl)
    have x1 := (blk_cell HX.out 1).trans (show _ = some (Value.bool true) from rfl)
    have x2 := (blk_cell HX.out 2).trans (show _ = some (Value.int .i64 ra) from rfl)
    have x3 := (blk_cell HX.out 3).trans (show _ = some (Value.int .i64 bu) from rfl)
    have x4 := (blk_cell HX.out 4).trans (show _ = some (Value.int .i64 le) from rfl)
    have x5 := (blk_cell HX.out 5).trans (show _ = some (Value.int .i64 t) from rfl)
    have xf0 := blk_frozen HX.out 0
    have xf1 := blk_frozen HX.out 1
    have xf2 := blk_frozen HX.out 2
    have xf3 := blk_frozen HX.out 3
    have xf4 := blk_frozen HX.out 4
    have xf5 := blk_frozen HX.out 5
    have y0 := (blk_cell HY.out 0).trans (show _ = some (Value.bool false) from rfl)
    have y1 := (blk_cell HY.out 1).trans (show _ = some (Value.bool false) from rfl)
    have y2 := (blk_cell HY.out 2).trans (show _ = some (Value.int .i64 0) from rfl)
    have y3 := (blk_cell HY.out 3).trans (show _ = some (Value.int .i64 0) from rfl)
    have y4 := (blk_cell HY.out 4).trans (show _ = some (Value.int .i64 0) from rfl)
    have y5 := (blk_cell HY.out 5).trans (show _ = some (Value.int .i64 0) from rfl)
    have yf0 := blk_frozen HY.out 0
    have yf1 := blk_frozen HY.out 1
    have yf2 := blk_frozen HY.out 2
    have yf3 := blk_frozen HY.out 3
    have yf4 := blk_frozen HY.out 4
    have yf5 := blk_frozen HY.out 5
    have hl1 := blk_lt HX.out
    have hl2 := blk_lt HY.out
    go_wp2
    (try simp only [Exit.inBlock, Exit.then])
    refine bodyPost_ret (results_cell_row rfl _ _ g4 27 #[.bool true, .bool true, .int .i64 ra, .int .i64 bu, .int .i64 le, .int .i64 t] (0, 0) _ rfl (by exact blk_set (blk_set (blk_set (blk_set (blk_set (blk_set HY.out 0 _) 1 _) 2 _) 3 _) 4 _) 5 _) Try.underlying27 rfl (by kernel_rfl)) rfl ?_
    exact ⟨rfl, (by repeat (with_reducible first | exact HB.out | apply below_drew | refine below_set ?_ GE.out.1 | refine below_set ?_ GE.out.2))⟩
  by_cases d1 : t ≤ nw
  · have b1 : decide (t ≤ nw) = true := decide_eq_true d1
    have E := Aside0.mk (show advB ⟨ra, bu, le, true, nw⟩ t = ⟨ra, bu, le, true, nw⟩ by unfold advB; simp [d1])
    clear d1
    go_wp2
    (try simp only [Exit.inBlock, Exit.then])
    refine bodyPost_ret (results_cell_row rfl _ _ g4 27 #[.bool true, .bool true, .int .i64 ra, .int .i64 bu, .int .i64 le, .int .i64 nw] (0, 0) _ rfl (by exact blk_set (blk_set (blk_set (blk_set (blk_set (blk_set HY.out 0 _) 1 _) 2 _) 3 _) 4 _) 5 _) Try.underlying27 rfl (by kernel_rfl)) rfl ?_
    rw [E.out]
    exact ⟨rfl, (by repeat (with_reducible first | exact HB.out | apply below_drew | refine below_set ?_ GE.out.1 | refine below_set ?_ GE.out.2))⟩
  have b1 : decide (t ≤ nw) = false := decide_eq_false d1
  have u1 : IntKind.u64.wrap (IntKind.u64.wrap t - IntKind.u64.wrap nw) = t - nw := u64_sub (by omega) a7 h1
  have E := Aside0.mk (show advB ⟨ra, bu, le, true, nw⟩ t = ⟨ra, bu, lvl ⟨ra, bu, le, true, nw⟩ t, true, t⟩ by unfold advB; simp [d1])
  have hl : (lvl ⟨ra, bu, le, true, nw⟩ t) = if bu * 1000 ≤ le + (t - nw) * ra then bu * 1000 else le + (t - nw) * ra := rfl
  have e1 : 1 ≤ t - nw := by omega
  have e2 : t - nw < 18446744073709551616 := by omega
  generalize t - nw = e at u1 hl e1 e2
  by_cases d2 : 0 < ra
  · have b2 : decide (0 < ra) = true := decide_eq_true d2
    have hm : e ≤ e * ra := by
      have := Int.mul_le_mul_of_nonneg_left (show (1 : Int) ≤ ra by omega) (show 0 ≤ e by omega)
      rwa [Int.mul_one] at this
    by_cases d3 : bu * 1000 ≤ e
    · have b3 : decide (bu * 1000 ≤ e) = true := decide_eq_true d3
      rw [if_pos (by omega)] at hl
      rw [hl] at E
      clear hl hm d1 d3
      go_upto_region 13 with (fail)
      refine world_gen (F := fun w_ => Code.wp Try.prog _ _ _ w_) (fun w_ => w_.heap[g2]? = some (.cells #[.bool true, .bool true, .int .i64 ra, .int .i64 bu, .int .i64 (bu * 1000), .int .i64 t] 27 (0, 0)) ∧ w_.heap[g4]? = some (.cells mzero 27 (0, 0)) ∧ Below w.heap.size w w_) ⟨by exact blk_set (blk_set HX.out 4 _) 5 _, by exact blk_far (blk_far HY.out GN.out _) GN.out _, (by repeat (with_reducible first | exact HB.out | apply below_drew | refine below_set ?_ GE.out.1 | refine below_set ?_ GE.out.2))⟩ ?_
      clear x0 xf0 y0 yf0 x1 xf1 y1 yf1 x2 xf2 y2 yf2 x3 xf3 y3 yf3 x4 xf4 y4 yf4 x5 xf5 y5 yf5
      clear hl1 hl2 HX HY HB
      intro w3 ⟨hx, hy, hb⟩
      have HX := Aside0.mk hx
      have HY := Aside0.mk hy
      have HB := Aside0.mk hb
      clear hx hy hb
      have x0 := (blk_cell HX.out 0).trans (show _ = some (Value.bool true) from rfl)
      have x1 := (blk_cell HX.out 1).trans (show _ = some (Value.bool true) from rfl)
      have x2 := (blk_cell HX.out 2).trans (show _ = some (Value.int .i64 ra) from rfl)
      have x3 := (blk_cell HX.out 3).trans (show _ = some (Value.int .i64 bu) from rfl)
      have x4 := (blk_cell HX.out 4).trans (show _ = some (Value.int .i64 (bu * 1000)) from rfl)
      have x5 := (blk_cell HX.out 5).trans (show _ = some (Value.int .i64 t) from rfl)
      have xf0 := blk_frozen HX.out 0
      have xf1 := blk_frozen HX.out 1
      have xf2 := blk_frozen HX.out 2
      have xf3 := blk_frozen HX.out 3
      have xf4 := blk_frozen HX.out 4
      have xf5 := blk_frozen HX.out 5
      have y0 := (blk_cell HY.out 0).trans (show _ = some (Value.bool false) from rfl)
      have y1 := (blk_cell HY.out 1).trans (show _ = some (Value.bool false) from rfl)
      have y2 := (blk_cell HY.out 2).trans (show _ = some (Value.int .i64 0) from rfl)
      have y3 := (blk_cell HY.out 3).trans (show _ = some (Value.int .i64 0) from rfl)
      have y4 := (blk_cell HY.out 4).trans (show _ = some (Value.int .i64 0) from rfl)
      have y5 := (blk_cell HY.out 5).trans (show _ = some (Value.int .i64 0) from rfl)
      have yf0 := blk_frozen HY.out 0
      have yf1 := blk_frozen HY.out 1
      have yf2 := blk_frozen HY.out 2
      have yf3 := blk_frozen HY.out 3
      have yf4 := blk_frozen HY.out 4
      have yf5 := blk_frozen HY.out 5
      have hl1 := blk_lt HX.out
      have hl2 := blk_lt HY.out
      go_wp2
      (try simp only [Exit.inBlock, Exit.then])
      refine bodyPost_ret (results_cell_row rfl _ _ g4 27 #[.bool true, .bool true, .int .i64 ra, .int .i64 bu, .int .i64 (bu * 1000), .int .i64 t] (0, 0) _ rfl (by exact blk_set (blk_set (blk_set (blk_set (blk_set (blk_set HY.out 0 _) 1 _) 2 _) 3 _) 4 _) 5 _) Try.underlying27 rfl (by kernel_rfl)) rfl ?_
      rw [E.out]
      exact ⟨rfl, (by repeat (with_reducible first | exact HB.out | apply below_drew | refine below_set ?_ GE.out.1 | refine below_set ?_ GE.out.2))⟩
    · have b3 : decide (bu * 1000 ≤ e) = false := decide_eq_false d3
      have hm2 : e * ra ≤ 1048576000 * 1048576 := Int.mul_le_mul (by omega) a2 (by omega) (by omega)
      obtain ⟨m, hem⟩ : ∃ m, e * ra = m := ⟨_, rfl⟩
      rw [hem] at hl hm hm2
      obtain ⟨lv, hlv⟩ : ∃ lv, lvl ⟨ra, bu, le, true, nw⟩ t = lv := ⟨_, rfl⟩
      rw [hlv] at E hl
      have hM : (if le + m < bu * 1000 then le + m else bu * 1000) = lv := by
        rw [hl]
        by_cases d4 : bu * 1000 ≤ le + m
        · rw [if_pos d4, if_neg (by omega)]
        · rw [if_neg d4, if_pos (by omega)]
      clear hl hlv d1
      go_upto_region 13 with (fail)
      refine world_gen (F := fun w_ => Code.wp Try.prog _ _ _ w_) (fun w_ => w_.heap[g2]? = some (.cells #[.bool true, .bool true, .int .i64 ra, .int .i64 bu, .int .i64 lv, .int .i64 t] 27 (0, 0)) ∧ w_.heap[g4]? = some (.cells mzero 27 (0, 0)) ∧ Below w.heap.size w w_) ⟨by exact blk_set (blk_set HX.out 4 _) 5 _, by exact blk_far (blk_far HY.out GN.out _) GN.out _, (by repeat (with_reducible first | exact HB.out | apply below_drew | refine below_set ?_ GE.out.1 | refine below_set ?_ GE.out.2))⟩ ?_
      clear x0 xf0 y0 yf0 x1 xf1 y1 yf1 x2 xf2 y2 yf2 x3 xf3 y3 yf3 x4 xf4 y4 yf4 x5 xf5 y5 yf5
      clear hl1 hl2 HX HY HB
      intro w3 ⟨hx, hy, hb⟩
      have HX := Aside0.mk hx
      have HY := Aside0.mk hy
      have HB := Aside0.mk hb
      clear hx hy hb
      have x0 := (blk_cell HX.out 0).trans (show _ = some (Value.bool true) from rfl)
      have x1 := (blk_cell HX.out 1).trans (show _ = some (Value.bool true) from rfl)
      have x2 := (blk_cell HX.out 2).trans (show _ = some (Value.int .i64 ra) from rfl)
      have x3 := (blk_cell HX.out 3).trans (show _ = some (Value.int .i64 bu) from rfl)
      have x4 := (blk_cell HX.out 4).trans (show _ = some (Value.int .i64 lv) from rfl)
      have x5 := (blk_cell HX.out 5).trans (show _ = some (Value.int .i64 t) from rfl)
      have xf0 := blk_frozen HX.out 0
      have xf1 := blk_frozen HX.out 1
      have xf2 := blk_frozen HX.out 2
      have xf3 := blk_frozen HX.out 3
      have xf4 := blk_frozen HX.out 4
      have xf5 := blk_frozen HX.out 5
      have y0 := (blk_cell HY.out 0).trans (show _ = some (Value.bool false) from rfl)
      have y1 := (blk_cell HY.out 1).trans (show _ = some (Value.bool false) from rfl)
      have y2 := (blk_cell HY.out 2).trans (show _ = some (Value.int .i64 0) from rfl)
      have y3 := (blk_cell HY.out 3).trans (show _ = some (Value.int .i64 0) from rfl)
      have y4 := (blk_cell HY.out 4).trans (show _ = some (Value.int .i64 0) from rfl)
      have y5 := (blk_cell HY.out 5).trans (show _ = some (Value.int .i64 0) from rfl)
      have yf0 := blk_frozen HY.out 0
      have yf1 := blk_frozen HY.out 1
      have yf2 := blk_frozen HY.out 2
      have yf3 := blk_frozen HY.out 3
      have yf4 := blk_frozen HY.out 4
      have yf5 := blk_frozen HY.out 5
      have hl1 := blk_lt HX.out
      have hl2 := blk_lt HY.out
      go_wp2
      (try simp only [Exit.inBlock, Exit.then])
      refine bodyPost_ret (results_cell_row rfl _ _ g4 27 #[.bool true, .bool true, .int .i64 ra, .int .i64 bu, .int .i64 lv, .int .i64 t] (0, 0) _ rfl (by exact blk_set (blk_set (blk_set (blk_set (blk_set (blk_set HY.out 0 _) 1 _) 2 _) 3 _) 4 _) 5 _) Try.underlying27 rfl (by kernel_rfl)) rfl ?_
      rw [E.out]
      exact ⟨rfl, (by repeat (with_reducible first | exact HB.out | apply below_drew | refine below_set ?_ GE.out.1 | refine below_set ?_ GE.out.2))⟩
  · have b2 : decide (0 < ra) = false := decide_eq_false d2
    obtain rfl : ra = 0 := by omega
    rw [Int.mul_zero] at hl
    have hl2 : lvl ⟨0, bu, le, true, nw⟩ t = le := by rw [hl]; split <;> omega
    rw [hl2] at E
    clear hl hl2 d1 d2
    go_upto_region 13 with (fail)
    refine world_gen (F := fun w_ => Code.wp Try.prog _ _ _ w_) (fun w_ => w_.heap[g2]? = some (.cells #[.bool true, .bool true, .int .i64 0, .int .i64 bu, .int .i64 le, .int .i64 t] 27 (0, 0)) ∧ w_.heap[g4]? = some (.cells mzero 27 (0, 0)) ∧ Below w.heap.size w w_) ⟨by exact blk_set HX.out 5 _, by exact blk_far HY.out GN.out _, (by repeat (with_reducible first | exact HB.out | apply below_drew | refine below_set ?_ GE.out.1 | refine below_set ?_ GE.out.2))⟩ ?_
    clear x0 xf0 y0 yf0 x1 xf1 y1 yf1 x2 xf2 y2 yf2 x3 xf3 y3 yf3 x4 xf4 y4 yf4 x5 xf5 y5 yf5
    clear hl1 hl2 HX HY HB
    intro w3 ⟨hx, hy, hb⟩
    have HX := Aside0.mk hx
    have HY := Aside0.mk hy
    have HB := Aside0.mk hb
    clear hx hy hb
    have x0 := (blk_cell HX.out 0).trans (show _ = some (Value.bool true) from rfl)
    have x1 := (blk_cell HX.out 1).trans (show _ = some (Value.bool true) from rfl)
    have x2 := (blk_cell HX.out 2).trans (show _ = some (Value.int .i64 0) from rfl)
    have x3 := (blk_cell HX.out 3).trans (show _ = some (Value.int .i64 bu) from rfl)
    have x4 := (blk_cell HX.out 4).trans (show _ = some (Value.int .i64 le) from rfl)
    have x5 := (blk_cell HX.out 5).trans (show _ = some (Value.int .i64 t) from rfl)
    have xf0 := blk_frozen HX.out 0
    have xf1 := blk_frozen HX.out 1
    have xf2 := blk_frozen HX.out 2
    have xf3 := blk_frozen HX.out 3
    have xf4 := blk_frozen HX.out 4
    have xf5 := blk_frozen HX.out 5
    have y0 := (blk_cell HY.out 0).trans (show _ = some (Value.bool false) from rfl)
    have y1 := (blk_cell HY.out 1).trans (show _ = some (Value.bool false) from rfl)
    have y2 := (blk_cell HY.out 2).trans (show _ = some (Value.int .i64 0) from rfl)
    have y3 := (blk_cell HY.out 3).trans (show _ = some (Value.int .i64 0) from rfl)
    have y4 := (blk_cell HY.out 4).trans (show _ = some (Value.int .i64 0) from rfl)
    have y5 := (blk_cell HY.out 5).trans (show _ = some (Value.int .i64 0) from rfl)
    have yf0 := blk_frozen HY.out 0
    have yf1 := blk_frozen HY.out 1
    have yf2 := blk_frozen HY.out 2
    have yf3 := blk_frozen HY.out 3
    have yf4 := blk_frozen HY.out 4
    have yf5 := blk_frozen HY.out 5
    have hl1 := blk_lt HX.out
    have hl2 := blk_lt HY.out
    go_wp2
    (try simp only [Exit.inBlock, Exit.then])
    refine bodyPost_ret (results_cell_row rfl _ _ g4 27 #[.bool true, .bool true, .int .i64 0, .int .i64 bu, .int .i64 le, .int .i64 t] (0, 0) _ rfl (by exact blk_set (blk_set (blk_set (blk_set (blk_set (blk_set HY.out 0 _) 1 _) 2 _) 3 _) 4 _) 5 _) Try.underlying27 rfl (by kernel_rfl)) rfl ?_
    rw [E.out]
    exact ⟨rfl, (by repeat (with_reducible first | exact HB.out | apply below_drew | refine below_set ?_ GE.out.1 | refine below_set ?_ GE.out.2))⟩

set_option maxHeartbeats 4000000 in
set_option maxRecDepth 100000 in
theorem rLevel_calls {b : BSt} (h : Bok b) {t : Int} (h0 : -9223372036854775808 ≤ t) (h1 : t < 9223372036854775808) (w : World) :
    Calls Try.prog 14 #[.agg (mcells b), .int .i64 t] w fun e w' => e = .returned (.tuple #[.agg (mcells (advB b t)), .int .i64 (levE b t)]) ∧ Below w.heap.size w w' := by
  have ho := advB_ok h h0 h1
  obtain ⟨l0, l1, l2⟩ : 0 ≤ (advB b t).level ∧ (advB b t).level ≤ (advB b t).burst * 1000 ∧ (advB b t).burst ≤ 1048576 := ⟨ho.l0, ho.l1, ho.b1⟩
  have HO := Aside0.mk h
  have hE : levE b t = (advB b t).level / 1000 := rfl
  rw [hE]
  generalize hd : advB b t = d at l0 l1 l2 ⊢
  have HD := Aside0.mk hd
  clear hd hE ho h
  unfold mcells
  go_enter Try.func14, Try.ntmps14
  go_upto_region 1 with (first | ((with_reducible refine gate_dst (N := 2) rfl ?_); refine box_event ?hg (N := 2) ?hd (cs := #[.bool true, .bool b.started, .int .i64 b.rate, .int .i64 b.burst, .int .i64 b.level, .int .i64 b.now]) (t := 27) ?hr ?_; (case hd => rfl); (case hg => rfl); (case hr => first | (go_simp; done) | (go_simp; rfl)); intro g2 hg w1 hbox hb; have HX := Aside0.mk hbox; have HB := Aside0.mk hb; have GE0 := Aside0.mk (show w.heap.size ≤ g2 by omega); clear hbox hb hg) | ((with_reducible refine gate_dst (N := 4) rfl ?_); refine box_event ?hg (N := 4) ?hd (cs := #[.bool false, .bool false, .int .i64 0, .int .i64 0, .int .i64 0, .int .i64 0]) (t := 27) ?hr ?_; (case hd => rfl); (case hg => rfl); (case hr => first | (go_simp; done) | (go_simp; rfl)); intro g4 hg w2 hbox hb; have HY := Aside0.mk hbox; have GN := Aside0.mk (show g4 ≠ g2 by have := blk_lt HX.out; omega); have GE := Aside0.mk (show w.heap.size ≤ g2 ∧ w.heap.size ≤ g4 by have := GE0.out; have := HB.out.size; omega); replace HX := Aside0.mk (blk_below HX.out hb); replace HB := Aside0.mk (below_step HB.out hb); have x0 := (blk_cell HX.out 0).trans (show _ = some (Value.bool true) from rfl); have x1 := (blk_cell HX.out 1).trans (show _ = some (Value.bool b.started) from rfl); have x2 := (blk_cell HX.out 2).trans (show _ = some (Value.int .i64 b.rate) from rfl); have x3 := (blk_cell HX.out 3).trans (show _ = some (Value.int .i64 b.burst) from rfl); have x4 := (blk_cell HX.out 4).trans (show _ = some (Value.int .i64 b.level) from rfl); have x5 := (blk_cell HX.out 5).trans (show _ = some (Value.int .i64 b.now) from rfl); have xf0 := blk_frozen HX.out 0; have xf1 := blk_frozen HX.out 1; have xf2 := blk_frozen HX.out 2; have xf3 := blk_frozen HX.out 3; have xf4 := blk_frozen HX.out 4; have xf5 := blk_frozen HX.out 5; have y0 := (blk_cell HY.out 0).trans (show _ = some (Value.bool false) from rfl); have y1 := (blk_cell HY.out 1).trans (show _ = some (Value.bool false) from rfl); have y2 := (blk_cell HY.out 2).trans (show _ = some (Value.int .i64 0) from rfl); have y3 := (blk_cell HY.out 3).trans (show _ = some (Value.int .i64 0) from rfl); have y4 := (blk_cell HY.out 4).trans (show _ = some (Value.int .i64 0) from rfl); have y5 := (blk_cell HY.out 5).trans (show _ = some (Value.int .i64 0) from rfl); have yf0 := blk_frozen HY.out 0; have yf1 := blk_frozen HY.out 1; have yf2 := blk_frozen HY.out 2; have yf3 := blk_frozen HY.out 3; have yf4 := blk_frozen HY.out 4; have yf5 := blk_frozen HY.out 5; have gn := GN.out; have gn2 := Ne.symm gn; have hl1 := blk_lt HX.out; have hl2 := blk_lt HY.out; clear hbox hb hg))
  go_upto_region 4 with (first | (go_at_call 27; refine (rAdv_calls HO.out h0 h1 _).mono ?_; rintro e w3 ⟨rfl, hb⟩; rw [HD.out]; unfold mcells; clear x0 xf0 y0 yf0 x1 xf1 y1 yf1 x2 xf2 y2 yf2 x3 xf3 y3 yf3 x4 xf4 y4 yf4 x5 xf5 y5 yf5 hl1 hl2; replace HX := Aside0.mk (blk_below HX.out hb); replace HY := Aside0.mk (blk_below HY.out hb); replace HB := Aside0.mk (below_step HB.out hb); clear hb; have x0 := (blk_cell HX.out 0).trans (show _ = some (Value.bool true) from rfl); have x1 := (blk_cell HX.out 1).trans (show _ = some (Value.bool b.started) from rfl); have x2 := (blk_cell HX.out 2).trans (show _ = some (Value.int .i64 b.rate) from rfl); have x3 := (blk_cell HX.out 3).trans (show _ = some (Value.int .i64 b.burst) from rfl); have x4 := (blk_cell HX.out 4).trans (show _ = some (Value.int .i64 b.level) from rfl); have x5 := (blk_cell HX.out 5).trans (show _ = some (Value.int .i64 b.now) from rfl); have xf0 := blk_frozen HX.out 0; have xf1 := blk_frozen HX.out 1; have xf2 := blk_frozen HX.out 2; have xf3 := blk_frozen HX.out 3; have xf4 := blk_frozen HX.out 4; have xf5 := blk_frozen HX.out 5; have y0 := (blk_cell HY.out 0).trans (show _ = some (Value.bool false) from rfl); have y1 := (blk_cell HY.out 1).trans (show _ = some (Value.bool false) from rfl); have y2 := (blk_cell HY.out 2).trans (show _ = some (Value.int .i64 0) from rfl); have y3 := (blk_cell HY.out 3).trans (show _ = some (Value.int .i64 0) from rfl); have y4 := (blk_cell HY.out 4).trans (show _ = some (Value.int .i64 0) from rfl); have y5 := (blk_cell HY.out 5).trans (show _ = some (Value.int .i64 0) from rfl); have yf0 := blk_frozen HY.out 0; have yf1 := blk_frozen HY.out 1; have yf2 := blk_frozen HY.out 2; have yf3 := blk_frozen HY.out 3; have yf4 := blk_frozen HY.out 4; have yf5 := blk_frozen HY.out 5; have hl1 := blk_lt HX.out; have hl2 := blk_lt HY.out))
  refine world_gen (F := fun w_ => Code.wp Try.prog _ _ _ w_) (fun w_ => w_.heap[g2]? = some (.cells #[.bool true, .bool d.started, .int .i64 d.rate, .int .i64 d.burst, .int .i64 d.level, .int .i64 d.now] 27 (0, 0)) ∧ w_.heap[g4]? = some (.cells mzero 27 (0, 0)) ∧ Below w.heap.size w w_) ⟨by exact blk_set (blk_set (blk_set (blk_set (blk_set (blk_set HX.out 0 _) 1 _) 2 _) 3 _) 4 _) 5 _, by exact blk_far (blk_far (blk_far (blk_far (blk_far (blk_far HY.out GN.out _) GN.out _) GN.out _) GN.out _) GN.out _) GN.out _, (by repeat (with_reducible first | exact HB.out | apply below_drew | refine below_set ?_ GE.out.1 | refine below_set ?_ GE.out.2))⟩ ?_
  clear x0 xf0 y0 yf0 x1 xf1 y1 yf1 x2 xf2 y2 yf2 x3 xf3 y3 yf3 x4 xf4 y4 yf4 x5 xf5 y5 yf5
  clear hl1 hl2 HX HY HB
  intro w3 ⟨hx, hy, hb⟩
  have HX := Aside0.mk hx
  have HY := Aside0.mk hy
  have HB := Aside0.mk hb
  clear hx hy hb
  have x0 := (blk_cell HX.out 0).trans (show _ = some (Value.bool true) from rfl)
  have x1 := (blk_cell HX.out 1).trans (show _ = some (Value.bool d.started) from rfl)
  have x2 := (blk_cell HX.out 2).trans (show _ = some (Value.int .i64 d.rate) from rfl)
  have x3 := (blk_cell HX.out 3).trans (show _ = some (Value.int .i64 d.burst) from rfl)
  have x4 := (blk_cell HX.out 4).trans (show _ = some (Value.int .i64 d.level) from rfl)
  have x5 := (blk_cell HX.out 5).trans (show _ = some (Value.int .i64 d.now) from rfl)
  have xf0 := blk_frozen HX.out 0
  have xf1 := blk_frozen HX.out 1
  have xf2 := blk_frozen HX.out 2
  have xf3 := blk_frozen HX.out 3
  have xf4 := blk_frozen HX.out 4
  have xf5 := blk_frozen HX.out 5
  have y0 := (blk_cell HY.out 0).trans (show _ = some (Value.bool false) from rfl)
  have y1 := (blk_cell HY.out 1).trans (show _ = some (Value.bool false) from rfl)
  have y2 := (blk_cell HY.out 2).trans (show _ = some (Value.int .i64 0) from rfl)
  have y3 := (blk_cell HY.out 3).trans (show _ = some (Value.int .i64 0) from rfl)
  have y4 := (blk_cell HY.out 4).trans (show _ = some (Value.int .i64 0) from rfl)
  have y5 := (blk_cell HY.out 5).trans (show _ = some (Value.int .i64 0) from rfl)
  have yf0 := blk_frozen HY.out 0
  have yf1 := blk_frozen HY.out 1
  have yf2 := blk_frozen HY.out 2
  have yf3 := blk_frozen HY.out 3
  have yf4 := blk_frozen HY.out 4
  have yf5 := blk_frozen HY.out 5
  have hl1 := blk_lt HX.out
  have hl2 := blk_lt HY.out
  refine start_ (n := 6) (S := fun w' => w'.cell? ⟨g2, 0, none⟩ = some (.bool true) ∧ w'.cell? ⟨g2, 1, none⟩ = some (.bool d.started) ∧ w'.cell? ⟨g2, 2, none⟩ = some (.int .i64 d.rate) ∧ w'.cell? ⟨g2, 3, none⟩ = some (.int .i64 d.burst) ∧ w'.cell? ⟨g2, 4, none⟩ = some (.int .i64 d.level) ∧ w'.cell? ⟨g2, 5, none⟩ = some (.int .i64 d.now)) (ds := []) #[false, false, false, false, false, false] (by kernel_rfl) rfl rfl ⟨x0, x1, x2, x3, x4, x5⟩ (fun hHeld => ?_)
  refine pure_ (i := 1) (N := some 14) (v := ?_) (a' := ?_) #[false, true, false, false, false, false] rfl rfl (by kernel_rfl) (fun _ _ _ h => h) (Or.inl ⟨by rfl, ?_⟩) ?_ ?_
  rotate_left
  · intro w'
    go_simp
    with_reducible rfl
  rotate_left
  · simp only [Act.put, List.setIfInBounds_toArray, List.set_cons_zero, List.set_cons_succ, i64_w, i32_w, IntKind.wrap_u32, IntKind.wrap_u8, IntKind.wrap_u16]
    rfl
  refine take_ (i := 0) (N := some 13) (v := ?_) (a' := ?_) #[true, true, false, false, false, false] rfl rfl (by kernel_rfl) (fun _ _ _ h => h) (Or.inl ⟨by rfl, ?_⟩) hHeld ?_ ?_
  rotate_left
  · rintro w' ⟨s0, s1, s2, s3, s4, s5⟩
    go_simp
    with_reducible rfl
  rotate_left
  · simp only [Act.put, List.setIfInBounds_toArray, List.set_cons_zero, List.set_cons_succ, i64_w, i32_w, IntKind.wrap_u32, IntKind.wrap_u8, IntKind.wrap_u16]
    rfl
  refine take_ (i := 2) (N := some 15) (v := ?_) (a' := ?_) #[true, true, true, false, false, false] rfl rfl (by kernel_rfl) (fun _ _ _ h => h) (Or.inl ⟨by rfl, ?_⟩) hHeld ?_ ?_
  rotate_left
  · rintro w' ⟨s0, s1, s2, s3, s4, s5⟩
    go_simp
    with_reducible rfl
  rotate_left
  · simp only [Act.put, List.setIfInBounds_toArray, List.set_cons_zero, List.set_cons_succ, i64_w, i32_w, IntKind.wrap_u32, IntKind.wrap_u8, IntKind.wrap_u16]
    rfl
  refine pure_ (i := 3) (N := some 16) (v := ?_) (a' := ?_) #[true, true, true, true, false, false] rfl rfl (by kernel_rfl) (fun _ _ _ h => h) (Or.inl ⟨by rfl, ?_⟩) ?_ ?_
  rotate_left
  · intro w'
    go_simp
    with_reducible rfl
  rotate_left
  · simp only [Act.put, List.setIfInBounds_toArray, List.set_cons_zero, List.set_cons_succ, i64_w, i32_w, IntKind.wrap_u32, IntKind.wrap_u8, IntKind.wrap_u16]
    rfl
  refine one_ (i := 4) (N := none) #[true, true, true, true, true, false] rfl rfl (by kernel_rfl) (by decide) (fun K hK => ?_)
  refine skip_ (w1 := ?_) (by rfl) rfl ?_ ?_
  rotate_left
  · go_simp
    rfl
  refine hK.out _ _ ⟨(by repeat (with_reducible first | exact x0 | apply cell_drew | refine far_cell ?_ (by exact gn2) _)), (by repeat (with_reducible first | exact x1 | apply cell_drew | refine far_cell ?_ (by exact gn2) _)), (by repeat (with_reducible first | exact x2 | apply cell_drew | refine far_cell ?_ (by exact gn2) _)), (by repeat (with_reducible first | exact x3 | apply cell_drew | refine far_cell ?_ (by exact gn2) _)), (by repeat (with_reducible first | exact x4 | apply cell_drew | refine far_cell ?_ (by exact gn2) _)), (by repeat (with_reducible first | exact x5 | apply cell_drew | refine far_cell ?_ (by exact gn2) _))⟩ (fun hHeld => ?_)
  clear hK K
  refine pure_ (i := 5) (N := some 5) (v := ?_) (a' := ?_) #[true, true, true, true, true, true] rfl rfl (by kernel_rfl) (fun _ _ _ h => h) (Or.inl ⟨by rfl, ?_⟩) ?_ ?_
  rotate_left
  · intro w'
    go_simp
    with_reducible rfl
  rotate_left
  · simp only [Act.put, List.setIfInBounds_toArray, List.set_cons_zero, List.set_cons_succ, i64_w, i32_w, IntKind.wrap_u32, IntKind.wrap_u8, IntKind.wrap_u16]
    rfl
  refine done_ (by kernel_rfl) ?_
  go_wp2
  refine bodyPost_ret (results_ct rfl _ _ g4 27 #[.bool true, .bool d.started, .int .i64 d.rate, .int .i64 d.burst, .int .i64 d.level, .int .i64 d.now] (0, 0) _ rfl (by exact blk_drew (blk_set (blk_set (blk_set (blk_set (blk_set (blk_set HY.out 0 _) 1 _) 2 _) 3 _) 4 _) 5 _)) Try.underlying27 rfl (by kernel_rfl)) rfl ?_
  have q : Go.RowKit.wrap64 (Int.tdiv d.level 1000) = d.level / 1000 := by rw [Int.tdiv_eq_ediv_of_nonneg l0]; exact w64 _ (by omega)
  refine ⟨?_, (by repeat (with_reducible first | exact HB.out | apply below_drew | refine below_set ?_ GE.out.1 | refine below_set ?_ GE.out.2))⟩
  show Ending.returned (.tuple #[.agg #[.bool true, .bool d.started, .int .i64 d.rate, .int .i64 d.burst, .int .i64 d.level, .int .i64 d.now], .int .i64 (Go.RowKit.wrap64 (Int.tdiv d.level 1000))]) = _
  rw [q]
set_option maxHeartbeats 4000000 in
set_option maxRecDepth 100000 in
theorem rTake_calls {b : BSt} (h : Bok b) {t n : Int} (h0 : -9223372036854775808 ≤ t) (h1 : t < 9223372036854775808) (w : World) :
    Calls Try.prog 16 #[.agg (mcells b), .int .i64 t, .int .i64 n] w fun e w' => e = .returned (.tuple #[.agg (mcells (takS b t n)), .bool (takE b t n)]) ∧ Below w.heap.size w w' := by
  have ho := advB_ok h h0 h1
  obtain ⟨l0, l1, l2⟩ : 0 ≤ (advB b t).level ∧ (advB b t).level ≤ (advB b t).burst * 1000 ∧ (advB b t).burst ≤ 1048576 := ⟨ho.l0, ho.l1, ho.b1⟩
  have HO := Aside0.mk h
  have hE : takE b t n = decide (0 ≤ n ∧ n * 1000 ≤ (advB b t).level) := rfl
  have hS : takS b t n = if 0 ≤ n ∧ n * 1000 ≤ (advB b t).level then { advB b t with level := (advB b t).level - n * 1000 } else advB b t := rfl
  rw [hE, hS]
  generalize hd : advB b t = d at l0 l1 l2 ⊢
  have HD := Aside0.mk hd
  clear hd hE hS ho h
  by_cases hn : 0 ≤ n ∧ n * 1000 ≤ d.level
  · rw [if_pos hn, decide_eq_true hn]
    obtain ⟨n0, n1⟩ := hn
    unfold mcells
    go_enter Try.func16, Try.ntmps16
    go_upto_region 1 with (first | ((with_reducible refine gate_dst (N := 3) rfl ?_); refine box_event ?hg (N := 3) ?hd (cs := #[.bool true, .bool b.started, .int .i64 b.rate, .int .i64 b.burst, .int .i64 b.level, .int .i64 b.now]) (t := 27) ?hr ?_; (case hd => rfl); (case hg => rfl); (case hr => first | (go_simp; done) | (go_simp; rfl)); intro g2 hg w1 hbox hb; have HX := Aside0.mk hbox; have HB := Aside0.mk hb; have GE0 := Aside0.mk (show w.heap.size ≤ g2 by omega); clear hbox hb hg) | ((with_reducible refine gate_dst (N := 6) rfl ?_); refine box_event ?hg (N := 6) ?hd (cs := #[.bool false, .bool false, .int .i64 0, .int .i64 0, .int .i64 0, .int .i64 0]) (t := 27) ?hr ?_; (case hd => rfl); (case hg => rfl); (case hr => first | (go_simp; done) | (go_simp; rfl)); intro g4 hg w2 hbox hb; have HY := Aside0.mk hbox; have GN := Aside0.mk (show g4 ≠ g2 by have := blk_lt HX.out; omega); have GE := Aside0.mk (show w.heap.size ≤ g2 ∧ w.heap.size ≤ g4 by have := GE0.out; have := HB.out.size; omega); replace HX := Aside0.mk (blk_below HX.out hb); replace HB := Aside0.mk (below_step HB.out hb); have x0 := (blk_cell HX.out 0).trans (show _ = some (Value.bool true) from rfl); have x1 := (blk_cell HX.out 1).trans (show _ = some (Value.bool b.started) from rfl); have x2 := (blk_cell HX.out 2).trans (show _ = some (Value.int .i64 b.rate) from rfl); have x3 := (blk_cell HX.out 3).trans (show _ = some (Value.int .i64 b.burst) from rfl); have x4 := (blk_cell HX.out 4).trans (show _ = some (Value.int .i64 b.level) from rfl); have x5 := (blk_cell HX.out 5).trans (show _ = some (Value.int .i64 b.now) from rfl); have xf0 := blk_frozen HX.out 0; have xf1 := blk_frozen HX.out 1; have xf2 := blk_frozen HX.out 2; have xf3 := blk_frozen HX.out 3; have xf4 := blk_frozen HX.out 4; have xf5 := blk_frozen HX.out 5; have y0 := (blk_cell HY.out 0).trans (show _ = some (Value.bool false) from rfl); have y1 := (blk_cell HY.out 1).trans (show _ = some (Value.bool false) from rfl); have y2 := (blk_cell HY.out 2).trans (show _ = some (Value.int .i64 0) from rfl); have y3 := (blk_cell HY.out 3).trans (show _ = some (Value.int .i64 0) from rfl); have y4 := (blk_cell HY.out 4).trans (show _ = some (Value.int .i64 0) from rfl); have y5 := (blk_cell HY.out 5).trans (show _ = some (Value.int .i64 0) from rfl); have yf0 := blk_frozen HY.out 0; have yf1 := blk_frozen HY.out 1; have yf2 := blk_frozen HY.out 2; have yf3 := blk_frozen HY.out 3; have yf4 := blk_frozen HY.out 4; have yf5 := blk_frozen HY.out 5; have gn := GN.out; have gn2 := Ne.symm gn; have hl1 := blk_lt HX.out; have hl2 := blk_lt HY.out; clear hbox hb hg))
    go_upto_region 4 with (first | (go_at_call 27; refine (rAdv_calls HO.out h0 h1 _).mono ?_; rintro e w3 ⟨rfl, hb⟩; rw [HD.out]; unfold mcells; clear x0 xf0 y0 yf0 x1 xf1 y1 yf1 x2 xf2 y2 yf2 x3 xf3 y3 yf3 x4 xf4 y4 yf4 x5 xf5 y5 yf5 hl1 hl2; replace HX := Aside0.mk (blk_below HX.out hb); replace HY := Aside0.mk (blk_below HY.out hb); replace HB := Aside0.mk (below_step HB.out hb); clear hb; have x0 := (blk_cell HX.out 0).trans (show _ = some (Value.bool true) from rfl); have x1 := (blk_cell HX.out 1).trans (show _ = some (Value.bool b.started) from rfl); have x2 := (blk_cell HX.out 2).trans (show _ = some (Value.int .i64 b.rate) from rfl); have x3 := (blk_cell HX.out 3).trans (show _ = some (Value.int .i64 b.burst) from rfl); have x4 := (blk_cell HX.out 4).trans (show _ = some (Value.int .i64 b.level) from rfl); have x5 := (blk_cell HX.out 5).trans (show _ = some (Value.int .i64 b.now) from rfl); have xf0 := blk_frozen HX.out 0; have xf1 := blk_frozen HX.out 1; have xf2 := blk_frozen HX.out 2; have xf3 := blk_frozen HX.out 3; have xf4 := blk_frozen HX.out 4; have xf5 := blk_frozen HX.out 5; have y0 := (blk_cell HY.out 0).trans (show _ = some (Value.bool false) from rfl); have y1 := (blk_cell HY.out 1).trans (show _ = some (Value.bool false) from rfl); have y2 := (blk_cell HY.out 2).trans (show _ = some (Value.int .i64 0) from rfl); have y3 := (blk_cell HY.out 3).trans (show _ = some (Value.int .i64 0) from rfl); have y4 := (blk_cell HY.out 4).trans (show _ = some (Value.int .i64 0) from rfl); have y5 := (blk_cell HY.out 5).trans (show _ = some (Value.int .i64 0) from rfl); have yf0 := blk_frozen HY.out 0; have yf1 := blk_frozen HY.out 1; have yf2 := blk_frozen HY.out 2; have yf3 := blk_frozen HY.out 3; have yf4 := blk_frozen HY.out 4; have yf5 := blk_frozen HY.out 5; have hl1 := blk_lt HX.out; have hl2 := blk_lt HY.out))
    refine world_gen (F := fun w_ => Code.wp Try.prog _ _ _ w_) (fun w_ => w_.heap[g2]? = some (.cells #[.bool true, .bool d.started, .int .i64 d.rate, .int .i64 d.burst, .int .i64 d.level, .int .i64 d.now] 27 (0, 0)) ∧ w_.heap[g4]? = some (.cells mzero 27 (0, 0)) ∧ Below w.heap.size w w_) ⟨by exact blk_set (blk_set (blk_set (blk_set (blk_set (blk_set HX.out 0 _) 1 _) 2 _) 3 _) 4 _) 5 _, by exact blk_far (blk_far (blk_far (blk_far (blk_far (blk_far HY.out GN.out _) GN.out _) GN.out _) GN.out _) GN.out _) GN.out _, (by repeat (with_reducible first | exact HB.out | apply below_drew | refine below_set ?_ GE.out.1 | refine below_set ?_ GE.out.2))⟩ ?_
    clear x0 xf0 y0 yf0 x1 xf1 y1 yf1 x2 xf2 y2 yf2 x3 xf3 y3 yf3 x4 xf4 y4 yf4 x5 xf5 y5 yf5
    clear hl1 hl2 HX HY HB
    intro w3 ⟨hx, hy, hb⟩
    have HX := Aside0.mk hx
    have HY := Aside0.mk hy
    have HB := Aside0.mk hb
    clear hx hy hb
    have x0 := (blk_cell HX.out 0).trans (show _ = some (Value.bool true) from rfl)
    have x1 := (blk_cell HX.out 1).trans (show _ = some (Value.bool d.started) from rfl)
    have x2 := (blk_cell HX.out 2).trans (show _ = some (Value.int .i64 d.rate) from rfl)
    have x3 := (blk_cell HX.out 3).trans (show _ = some (Value.int .i64 d.burst) from rfl)
    have x4 := (blk_cell HX.out 4).trans (show _ = some (Value.int .i64 d.level) from rfl)
    have x5 := (blk_cell HX.out 5).trans (show _ = some (Value.int .i64 d.now) from rfl)
    have xf0 := blk_frozen HX.out 0
    have xf1 := blk_frozen HX.out 1
    have xf2 := blk_frozen HX.out 2
    have xf3 := blk_frozen HX.out 3
    have xf4 := blk_frozen HX.out 4
    have xf5 := blk_frozen HX.out 5
    have y0 := (blk_cell HY.out 0).trans (show _ = some (Value.bool false) from rfl)
    have y1 := (blk_cell HY.out 1).trans (show _ = some (Value.bool false) from rfl)
    have y2 := (blk_cell HY.out 2).trans (show _ = some (Value.int .i64 0) from rfl)
    have y3 := (blk_cell HY.out 3).trans (show _ = some (Value.int .i64 0) from rfl)
    have y4 := (blk_cell HY.out 4).trans (show _ = some (Value.int .i64 0) from rfl)
    have y5 := (blk_cell HY.out 5).trans (show _ = some (Value.int .i64 0) from rfl)
    have yf0 := blk_frozen HY.out 0
    have yf1 := blk_frozen HY.out 1
    have yf2 := blk_frozen HY.out 2
    have yf3 := blk_frozen HY.out 3
    have yf4 := blk_frozen HY.out 4
    have yf5 := blk_frozen HY.out 5
    have hl1 := blk_lt HX.out
    have hl2 := blk_lt HY.out
    go_upto_region 7 with (fail)
    refine world_gen (F := fun w_ => Code.wp Try.prog _ _ _ w_) (fun w_ => w_.heap[g2]? = some (.cells #[.bool true, .bool d.started, .int .i64 d.rate, .int .i64 d.burst, .int .i64 (d.level - n * 1000), .int .i64 d.now] 27 (0, 0)) ∧ w_.heap[g4]? = some (.cells mzero 27 (0, 0)) ∧ Below w.heap.size w w_) ⟨by exact blk_set HX.out 4 _, by exact blk_far HY.out GN.out _, (by repeat (with_reducible first | exact HB.out | apply below_drew | refine below_set ?_ GE.out.1 | refine below_set ?_ GE.out.2))⟩ ?_
    clear x0 xf0 y0 yf0 x1 xf1 y1 yf1 x2 xf2 y2 yf2 x3 xf3 y3 yf3 x4 xf4 y4 yf4 x5 xf5 y5 yf5
    clear hl1 hl2 HX HY HB
    intro w3 ⟨hx, hy, hb⟩
    have HX := Aside0.mk hx
    have HY := Aside0.mk hy
    have HB := Aside0.mk hb
    clear hx hy hb
    have x0 := (blk_cell HX.out 0).trans (show _ = some (Value.bool true) from rfl)
    have x1 := (blk_cell HX.out 1).trans (show _ = some (Value.bool d.started) from rfl)
    have x2 := (blk_cell HX.out 2).trans (show _ = some (Value.int .i64 d.rate) from rfl)
    have x3 := (blk_cell HX.out 3).trans (show _ = some (Value.int .i64 d.burst) from rfl)
    have x4 := (blk_cell HX.out 4).trans (show _ = some (Value.int .i64 (d.level - n * 1000)) from rfl)
    have x5 := (blk_cell HX.out 5).trans (show _ = some (Value.int .i64 d.now) from rfl)
    have xf0 := blk_frozen HX.out 0
    have xf1 := blk_frozen HX.out 1
    have xf2 := blk_frozen HX.out 2
    have xf3 := blk_frozen HX.out 3
    have xf4 := blk_frozen HX.out 4
    have xf5 := blk_frozen HX.out 5
    have y0 := (blk_cell HY.out 0).trans (show _ = some (Value.bool false) from rfl)
    have y1 := (blk_cell HY.out 1).trans (show _ = some (Value.bool false) from rfl)
    have y2 := (blk_cell HY.out 2).trans (show _ = some (Value.int .i64 0) from rfl)
    have y3 := (blk_cell HY.out 3).trans (show _ = some (Value.int .i64 0) from rfl)
    have y4 := (blk_cell HY.out 4).trans (show _ = some (Value.int .i64 0) from rfl)
    have y5 := (blk_cell HY.out 5).trans (show _ = some (Value.int .i64 0) from rfl)
    have yf0 := blk_frozen HY.out 0
    have yf1 := blk_frozen HY.out 1
    have yf2 := blk_frozen HY.out 2
    have yf3 := blk_frozen HY.out 3
    have yf4 := blk_frozen HY.out 4
    have yf5 := blk_frozen HY.out 5
    have hl1 := blk_lt HX.out
    have hl2 := blk_lt HY.out
    go_wp2
    (try simp only [Exit.inBlock, Exit.then])
    refine bodyPost_ret (results_ct rfl _ _ g4 27 #[.bool true, .bool d.started, .int .i64 d.rate, .int .i64 d.burst, .int .i64 (d.level - n * 1000), .int .i64 d.now] (0, 0) _ rfl (by exact blk_set (blk_set (blk_set (blk_set (blk_set (blk_set HY.out 0 _) 1 _) 2 _) 3 _) 4 _) 5 _) Try.underlying27 rfl (by kernel_rfl)) rfl ?_
    exact ⟨rfl, (by repeat (with_reducible first | exact HB.out | apply below_drew | refine below_set ?_ GE.out.1 | refine below_set ?_ GE.out.2))⟩
  · rw [if_neg hn, decide_eq_false hn]
    rcases (show n < 0 ∨ (0 ≤ n ∧ d.burst < n) ∨ (0 ≤ n ∧ n ≤ d.burst ∧ d.level < n * 1000) by omega) with k | ⟨k0, k⟩ | ⟨k0, k1, k⟩
    all_goals
      clear hn
      unfold mcells
      go_enter Try.func16, Try.ntmps16
      go_upto_region 1 with (first | ((with_reducible refine gate_dst (N := 3) rfl ?_); refine box_event ?hg (N := 3) ?hd (cs := #[.bool true, .bool b.started, .int .i64 b.rate, .int .i64 b.burst, .int .i64 b.level, .int .i64 b.now]) (t := 27) ?hr ?_; (case hd => rfl); (case hg => rfl); (case hr => first | (go_simp; done) | (go_simp; rfl)); intro g2 hg w1 hbox hb; have HX := Aside0.mk hbox; have HB := Aside0.mk hb; have GE0 := Aside0.mk (show w.heap.size ≤ g2 by omega); clear hbox hb hg) | ((with_reducible refine gate_dst (N := 6) rfl ?_); refine box_event ?hg (N := 6) ?hd (cs := #[.bool false, .bool false, .int .i64 0, .int .i64 0, .int .i64 0, .int .i64 0]) (t := 27) ?hr ?_; (case hd => rfl); (case hg => rfl); (case hr => first | (go_simp; done) | (go_simp; rfl)); intro g4 hg w2 hbox hb; have HY := Aside0.mk hbox; have GN := Aside0.mk (show g4 ≠ g2 by have := blk_lt HX.out; omega); have GE := Aside0.mk (show w.heap.size ≤ g2 ∧ w.heap.size ≤ g4 by have := GE0.out; have := HB.out.size; omega); replace HX := Aside0.mk (blk_below HX.out hb); replace HB := Aside0.mk (below_step HB.out hb); have x0 := (blk_cell HX.out 0).trans (show _ = some (Value.bool true) from rfl); have x1 := (blk_cell HX.out 1).trans (show _ = some (Value.bool b.started) from rfl); have x2 := (blk_cell HX.out 2).trans (show _ = some (Value.int .i64 b.rate) from rfl); have x3 := (blk_cell HX.out 3).trans (show _ = some (Value.int .i64 b.burst) from rfl); have x4 := (blk_cell HX.out 4).trans (show _ = some (Value.int .i64 b.level) from rfl); have x5 := (blk_cell HX.out 5).trans (show _ = some (Value.int .i64 b.now) from rfl); have xf0 := blk_frozen HX.out 0; have xf1 := blk_frozen HX.out 1; have xf2 := blk_frozen HX.out 2; have xf3 := blk_frozen HX.out 3; have xf4 := blk_frozen HX.out 4; have xf5 := blk_frozen HX.out 5; have y0 := (blk_cell HY.out 0).trans (show _ = some (Value.bool false) from rfl); have y1 := (blk_cell HY.out 1).trans (show _ = some (Value.bool false) from rfl); have y2 := (blk_cell HY.out 2).trans (show _ = some (Value.int .i64 0) from rfl); have y3 := (blk_cell HY.out 3).trans (show _ = some (Value.int .i64 0) from rfl); have y4 := (blk_cell HY.out 4).trans (show _ = some (Value.int .i64 0) from rfl); have y5 := (blk_cell HY.out 5).trans (show _ = some (Value.int .i64 0) from rfl); have yf0 := blk_frozen HY.out 0; have yf1 := blk_frozen HY.out 1; have yf2 := blk_frozen HY.out 2; have yf3 := blk_frozen HY.out 3; have yf4 := blk_frozen HY.out 4; have yf5 := blk_frozen HY.out 5; have gn := GN.out; have gn2 := Ne.symm gn; have hl1 := blk_lt HX.out; have hl2 := blk_lt HY.out; clear hbox hb hg))
      go_upto_region 4 with (first | (go_at_call 27; refine (rAdv_calls HO.out h0 h1 _).mono ?_; rintro e w3 ⟨rfl, hb⟩; rw [HD.out]; unfold mcells; clear x0 xf0 y0 yf0 x1 xf1 y1 yf1 x2 xf2 y2 yf2 x3 xf3 y3 yf3 x4 xf4 y4 yf4 x5 xf5 y5 yf5 hl1 hl2; replace HX := Aside0.mk (blk_below HX.out hb); replace HY := Aside0.mk (blk_below HY.out hb); replace HB := Aside0.mk (below_step HB.out hb); clear hb; have x0 := (blk_cell HX.out 0).trans (show _ = some (Value.bool true) from rfl); have x1 := (blk_cell HX.out 1).trans (show _ = some (Value.bool b.started) from rfl); have x2 := (blk_cell HX.out 2).trans (show _ = some (Value.int .i64 b.rate) from rfl); have x3 := (blk_cell HX.out 3).trans (show _ = some (Value.int .i64 b.burst) from rfl); have x4 := (blk_cell HX.out 4).trans (show _ = some (Value.int .i64 b.level) from rfl); have x5 := (blk_cell HX.out 5).trans (show _ = some (Value.int .i64 b.now) from rfl); have xf0 := blk_frozen HX.out 0; have xf1 := blk_frozen HX.out 1; have xf2 := blk_frozen HX.out 2; have xf3 := blk_frozen HX.out 3; have xf4 := blk_frozen HX.out 4; have xf5 := blk_frozen HX.out 5; have y0 := (blk_cell HY.out 0).trans (show _ = some (Value.bool false) from rfl); have y1 := (blk_cell HY.out 1).trans (show _ = some (Value.bool false) from rfl); have y2 := (blk_cell HY.out 2).trans (show _ = some (Value.int .i64 0) from rfl); have y3 := (blk_cell HY.out 3).trans (show _ = some (Value.int .i64 0) from rfl); have y4 := (blk_cell HY.out 4).trans (show _ = some (Value.int .i64 0) from rfl); have y5 := (blk_cell HY.out 5).trans (show _ = some (Value.int .i64 0) from rfl); have yf0 := blk_frozen HY.out 0; have yf1 := blk_frozen HY.out 1; have yf2 := blk_frozen HY.out 2; have yf3 := blk_frozen HY.out 3; have yf4 := blk_frozen HY.out 4; have yf5 := blk_frozen HY.out 5; have hl1 := blk_lt HX.out; have hl2 := blk_lt HY.out))
      refine world_gen (F := fun w_ => Code.wp Try.prog _ _ _ w_) (fun w_ => w_.heap[g2]? = some (.cells #[.bool true, .bool d.started, .int .i64 d.rate, .int .i64 d.burst, .int .i64 d.level, .int .i64 d.now] 27 (0, 0)) ∧ w_.heap[g4]? = some (.cells mzero 27 (0, 0)) ∧ Below w.heap.size w w_) ⟨by exact blk_set (blk_set (blk_set (blk_set (blk_set (blk_set HX.out 0 _) 1 _) 2 _) 3 _) 4 _) 5 _, by exact blk_far (blk_far (blk_far (blk_far (blk_far (blk_far HY.out GN.out _) GN.out _) GN.out _) GN.out _) GN.out _) GN.out _, (by repeat (with_reducible first | exact HB.out | apply below_drew | refine below_set ?_ GE.out.1 | refine below_set ?_ GE.out.2))⟩ ?_
      clear x0 xf0 y0 yf0 x1 xf1 y1 yf1 x2 xf2 y2 yf2 x3 xf3 y3 yf3 x4 xf4 y4 yf4 x5 xf5 y5 yf5
      clear hl1 hl2 HX HY HB
      intro w3 ⟨hx, hy, hb⟩
      have HX := Aside0.mk hx
      have HY := Aside0.mk hy
      have HB := Aside0.mk hb
      clear hx hy hb
      have x0 := (blk_cell HX.out 0).trans (show _ = some (Value.bool true) from rfl)
      have x1 := (blk_cell HX.out 1).trans (show _ = some (Value.bool d.started) from rfl)
      have x2 := (blk_cell HX.out 2).trans (show _ = some (Value.int .i64 d.rate) from rfl)
      have x3 := (blk_cell HX.out 3).trans (show _ = some (Value.int .i64 d.burst) from rfl)
      have x4 := (blk_cell HX.out 4).trans (show _ = some (Value.int .i64 d.level) from rfl)
      have x5 := (blk_cell HX.out 5).trans (show _ = some (Value.int .i64 d.now) from rfl)
      have xf0 := blk_frozen HX.out 0
      have xf1 := blk_frozen HX.out 1
      have xf2 := blk_frozen HX.out 2
      have xf3 := blk_frozen HX.out 3
      have xf4 := blk_frozen HX.out 4
      have xf5 := blk_frozen HX.out 5
      have y0 := (blk_cell HY.out 0).trans (show _ = some (Value.bool false) from rfl)
      have y1 := (blk_cell HY.out 1).trans (show _ = some (Value.bool false) from rfl)
      have y2 := (blk_cell HY.out 2).trans (show _ = some (Value.int .i64 0) from rfl)
      have y3 := (blk_cell HY.out 3).trans (show _ = some (Value.int .i64 0) from rfl)
      have y4 := (blk_cell HY.out 4).trans (show _ = some (Value.int .i64 0) from rfl)
      have y5 := (blk_cell HY.out 5).trans (show _ = some (Value.int .i64 0) from rfl)
      have yf0 := blk_frozen HY.out 0
      have yf1 := blk_frozen HY.out 1
      have yf2 := blk_frozen HY.out 2
      have yf3 := blk_frozen HY.out 3
      have yf4 := blk_frozen HY.out 4
      have yf5 := blk_frozen HY.out 5
      have hl1 := blk_lt HX.out
      have hl2 := blk_lt HY.out
      go_wp2
      (try simp only [Exit.inBlock, Exit.then])
      refine bodyPost_ret (results_ct rfl _ _ g4 27 #[.bool true, .bool d.started, .int .i64 d.rate, .int .i64 d.burst, .int .i64 d.level, .int .i64 d.now] (0, 0) _ rfl (by exact blk_set (blk_set (blk_set (blk_set (blk_set (blk_set HY.out 0 _) 1 _) 2 _) 3 _) 4 _) 5 _) Try.underlying27 rfl (by kernel_rfl)) rfl ?_
      exact ⟨rfl, (by repeat (with_reducible first | exact HB.out | apply below_drew | refine below_set ?_ GE.out.1 | refine below_set ?_ GE.out.2))⟩
end Go.Proofs.Ytlfediaeaaodpaa.Q
