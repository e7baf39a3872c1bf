import Derived.Test.YtmihibikhmldgaaWe
namespace Go.Proofs.Ytmihibikhmldgaa.Q
open Go.RowKit Go.Proofs.YtmihibikhmldgaaW.PrintWords Go.Proofs.YtmihibikhmldgaaW.PrintLast Go.Proofs.YtmihibikhmldgaaW.PrintMore Go.Proofs.Ytmihibikhmldgaa.Sl Go.Proofs.Ytmihibikhmldgaa.Hand 
attribute [local go_sem] max2_int min2_int max_two min_two max_three min_three max_four min_four 
set_option linter.unusedVariables false
set_option linter.unusedSimpArgs false

theorem one25 {w : World} {n_ : Nat} (x : S25) (B : Option Addr) (m e : Nat) (hm : m = x.f2.length) (hn : n_ = w.heap.size) (hr : Kd.C (Kd.int .u8) w B x.f2.length x.f2) (he : x.f2.length ≤ e) : Kd.C k25 (w.alloc (.cells #[.int .i64 x.f0, .int .u32 x.f1, .slice B m e] 25)) (some ⟨n_, 0, none⟩) ([x] : List S25).length [x] := by
  subst hm
  subst hn
  refine ⟨rfl, (by show 1 ≤ 9223372036854775807; decide), fun _ => ⟨_, rfl, fun j p hj => ⟨[.int .i64 x.f0, .int .u32 x.f1, .slice B x.f2.length e], rfl, ?_, fun i u hu => ?_⟩⟩⟩
  · have hj0 : j = 0 := by
      have h_ := (List.getElem?_eq_some_iff.1 hj).1
      exact Nat.lt_one_iff.1 h_
    subst hj0
    obtain rfl : x = p := Option.some.inj hj
    exact k25_mk _ x he (Kd.C_alloc hr _)
  · have hj0 : j = 0 := by
      have h_ := (List.getElem?_eq_some_iff.1 hj).1
      exact Nat.lt_one_iff.1 h_
    subst hj0
    refine World.news_of_block (cs := #[.int .i64 x.f0, .int .u32 x.f1, .slice B x.f2.length e]) (t := 25) (fr := (0, 0)) (heap_alloc_new w _) _ _ ?_
    rw [Nat.zero_mul, Nat.zero_add, ← hu]
theorem sl_readF' {w0 w : World} {L : List Res} {A : Option Addr} {n c : Nat} {u : List Int} (h : SL w0 w L) (i : Nat) (hi : L[i]? = some (frR8 (.slice A n c) u)) : n = u.length ∧ u.length ≤ c ∧ Kd.C (Kd.int .u8) w A u.length u := by
  obtain ⟨A', c', e, hc, hC⟩ := sl_readF h i hi
  injection e with e1 e2 e3
  subst e1; subst e2; subst e3
  exact ⟨rfl, hc, hC⟩
/-- read, its answer known. -/
theorem read_eq {w0 w : World} {L : List Res} (h : SL w0 w L) (i : Nat) {g : Nat} {u : List Int} {er : Int} (kind most : Int) {N E : Int} {B U : List Int} (hN : readN ⟨u, er⟩ kind = N) (hB : readB ⟨u, er⟩ kind most = B) (hS : readS ⟨u, er⟩ kind most = ⟨U, E⟩) (ho : RdOk ⟨u, er⟩) (hb : Byt u) (hi : L[i]? = some (rdR g u er)) :
    Calls Try.prog 34 #[.pointer (some ⟨g, 0, none⟩), .int .i64 kind, .int .i64 most] w fun e w' => ∃ A c, e = .returned (.agg #[.int .i64 kind, .int .u32 N, .slice A B.length c]) ∧ SL w0 w' (L.set i (rdR g U E) ++ [frR8 (.slice A B.length c) B]) := by
  have := read_sl (s := ⟨u, er⟩) h i hi kind most ho (strV_byt most hb)
  rw [hN, hB, hS] at this
  exact this
set_option maxHeartbeats 8000000 in
set_option maxRecDepth 100000 in
theorem Limits_law (kind n most : Int) (bs : List Int) (B : Option Addr) (e : Nat) (w : World) (hr : Kd.C (Kd.int .u8) w B bs.length bs) (he : bs.length ≤ e) (h0 : 0 ≤ n) (h1 : n < 4294967296) (hb : Byt bs) :
    Calls Try.prog 8 #[.agg #[.int .i64 kind, .int .u32 n, .slice B bs.length e], .int .i64 most] w fun e w' => e = .returned (.bool true) ∧ Below w.heap.size w w' := by
  have HS := Aside0.mk (sl_start w)
  have HR := Aside0.mk hr
  have HE := Aside0.mk he
  have HN := Aside0.mk (And.intro h0 h1)
  have HB := Aside0.mk hb
  have HX := Aside0.mk (show ∀ {w' : World} {m_ : Nat}, m_ = w'.heap.size → Below w.heap.size w w' → Kd.C k25 (w'.alloc (.cells #[.int .i64 kind, .int .u32 n, .slice B bs.length e] 25)) (some ⟨m_, 0, none⟩) 1 [(⟨kind, n, bs⟩ : S25)] from fun h1 h2 => one25 (⟨kind, n, bs⟩ : S25) B bs.length e rfl h1 (Kd.C_below hr h2) he)
  have e0 : ([] : List Int) ++ item kind n bs = item kind n bs := rfl
  have hml := item_len kind n bs
  by_cases l : lightB [(⟨kind, n, bs⟩ : S25)] = true
  rotate_left
  · have l : lightB [(⟨kind, n, bs⟩ : S25)] = false := Bool.eq_false_iff.2 l
    have HL := Aside0.mk l
    clear hr he h0 h1 hb l e0 hml
    go_enter Try.func8, Try.ntmps8
    go_wp2_with (first
    | (go_at_call 10; refine (light_c (by repeat (with_reducible first | exact HS.out | apply sl_drewN | apply sl_drew | apply sl_box | apply sl_alloc)) _ 1 1 [(⟨kind, n, bs⟩ : S25)] rfl (HX.out (by first | rfl | simp) (sl_below0 (by repeat (with_reducible first | exact HS.out | apply sl_drewN | apply sl_drew | apply sl_box | apply sl_alloc)))) (Nat.le_refl 1)).mono ?_; rw [HL.out]; rintro e w1 ⟨rfl, hs⟩; (try simp only [World.size_alloc] at hs); replace HS := Aside0.mk hs; clear hs; (try clear hm0 hm1 hm2 hlt0); have hlt0 := blk_lt (sl_blk HS.out 0 rfl); have hm0 := c_at HS.out 0 rfl 0 rfl; have hm1 := c_at HS.out 0 rfl 1 rfl; have hm2 := c_at HS.out 0 rfl 2 rfl)
    | (go_at_call 11; refine (ex_c (by repeat (with_reducible first | exact HS.out | apply sl_drewN | apply sl_drew | apply sl_box | apply sl_alloc))).mono ?_; rintro e w1 ⟨rfl, hs⟩; (try simp only [World.size_alloc] at hs); replace HS := Aside0.mk hs; clear hs))
    go_ret
    exact ⟨rfl, sl_below0 HS.out⟩
  have HL := Aside0.mk l
  have hb3 : bs.length ≤ 300 := (light_t l).2 (⟨kind, n, bs⟩ : S25) (by simp)
  have HB3 := Aside0.mk hb3
  by_cases r : Rdb kind bs = true
  rotate_left
  · have HRd := Aside0.mk (show Rdb kind bs = false from Bool.eq_false_iff.2 r)
    clear hr he h0 h1 hb l r e0 hml hb3
    go_enter Try.func8, Try.ntmps8
    go_wp2_with (first
    | (go_at_call 10; refine (light_c (by repeat (with_reducible first | exact HS.out | apply sl_drewN | apply sl_drew | apply sl_box | apply sl_alloc)) _ 1 1 [(⟨kind, n, bs⟩ : S25)] rfl (HX.out (by first | rfl | simp) (sl_below0 (by repeat (with_reducible first | exact HS.out | apply sl_drewN | apply sl_drew | apply sl_box | apply sl_alloc)))) (Nat.le_refl 1)).mono ?_; rw [HL.out]; rintro e w1 ⟨rfl, hs⟩; (try simp only [World.size_alloc] at hs); replace HS := Aside0.mk hs; clear hs; (try clear hm0 hm1 hm2 hlt0); have hlt0 := blk_lt (sl_blk HS.out 0 rfl); have hm0 := c_at HS.out 0 rfl 0 rfl; have hm1 := c_at HS.out 0 rfl 1 rfl; have hm2 := c_at HS.out 0 rfl 2 rfl)
    | (go_at_call 33; refine (readable_c (by repeat (with_reducible first | exact HS.out | apply sl_drewN | apply sl_drew | apply sl_box | apply sl_alloc)) kind n B e _ bs rfl (Kd.C_below HR.out (sl_below0 (by repeat (with_reducible first | exact HS.out | apply sl_drewN | apply sl_drew | apply sl_box | apply sl_alloc)))) HE.out (by have := HB3.out; omega)).mono ?_; rw [HRd.out]; rintro e w1 ⟨rfl, hs⟩; (try simp only [World.size_alloc] at hs); replace HS := Aside0.mk hs; clear hs; (try clear hm0 hm1 hm2 hlt0); have hlt0 := blk_lt (sl_blk HS.out 0 rfl); have hm0 := c_at HS.out 0 rfl 0 rfl; have hm1 := c_at HS.out 0 rfl 1 rfl; have hm2 := c_at HS.out 0 rfl 2 rfl)
    | (go_at_call 11; refine (ex_c (by repeat (with_reducible first | exact HS.out | apply sl_drewN | apply sl_drew | apply sl_box | apply sl_alloc))).mono ?_; rintro e w1 ⟨rfl, hs⟩; (try simp only [World.size_alloc] at hs); replace HS := Aside0.mk hs; clear hs))
    go_ret
    exact ⟨rfl, sl_below0 HS.out⟩
  have HRd := Aside0.mk r
  by_cases k0 : kind = 0
  · have z0 : (kind == 0) = true := beq_iff_eq.2 k0
    clear hr he h0 h1 hb l r e0 hml hb3 k0
    go_enter Try.func8, Try.ntmps8
    go_wp2_with (first
    | (go_at_call 10; refine (light_c (by repeat (with_reducible first | exact HS.out | apply sl_drewN | apply sl_drew | apply sl_box | apply sl_alloc)) _ 1 1 [(⟨kind, n, bs⟩ : S25)] rfl (HX.out (by first | rfl | simp) (sl_below0 (by repeat (with_reducible first | exact HS.out | apply sl_drewN | apply sl_drew | apply sl_box | apply sl_alloc)))) (Nat.le_refl 1)).mono ?_; rw [HL.out]; rintro e w1 ⟨rfl, hs⟩; (try simp only [World.size_alloc] at hs); replace HS := Aside0.mk hs; clear hs; (try clear hm0 hm1 hm2 hlt0); have hlt0 := blk_lt (sl_blk HS.out 0 rfl); have hm0 := c_at HS.out 0 rfl 0 rfl; have hm1 := c_at HS.out 0 rfl 1 rfl; have hm2 := c_at HS.out 0 rfl 2 rfl)
    | (go_at_call 33; refine (readable_c (by repeat (with_reducible first | exact HS.out | apply sl_drewN | apply sl_drew | apply sl_box | apply sl_alloc)) kind n B e _ bs rfl (Kd.C_below HR.out (sl_below0 (by repeat (with_reducible first | exact HS.out | apply sl_drewN | apply sl_drew | apply sl_box | apply sl_alloc)))) HE.out (by have := HB3.out; omega)).mono ?_; rw [HRd.out]; rintro e w1 ⟨rfl, hs⟩; (try simp only [World.size_alloc] at hs); replace HS := Aside0.mk hs; clear hs; (try clear hm0 hm1 hm2 hlt0); have hlt0 := blk_lt (sl_blk HS.out 0 rfl); have hm0 := c_at HS.out 0 rfl 0 rfl; have hm1 := c_at HS.out 0 rfl 1 rfl; have hm2 := c_at HS.out 0 rfl 2 rfl)
    | (go_at_call 11; refine (ex_c (by repeat (with_reducible first | exact HS.out | apply sl_drewN | apply sl_drew | apply sl_box | apply sl_alloc))).mono ?_; rintro e w1 ⟨rfl, hs⟩; (try simp only [World.size_alloc] at hs); replace HS := Aside0.mk hs; clear hs))
    go_ret
    exact ⟨rfl, sl_below0 HS.out⟩
  have z0 : (kind == 0) = false := beq_eq_false_iff_ne.2 k0
  by_cases k1 : kind = 1
  · have z1 : (kind == 1) = true := beq_iff_eq.2 k1
    clear hr he h0 h1 hb l r e0 hml hb3 k0 k1
    go_enter Try.func8, Try.ntmps8
    go_wp2_with (first
    | (go_at_call 10; refine (light_c (by repeat (with_reducible first | exact HS.out | apply sl_drewN | apply sl_drew | apply sl_box | apply sl_alloc)) _ 1 1 [(⟨kind, n, bs⟩ : S25)] rfl (HX.out (by first | rfl | simp) (sl_below0 (by repeat (with_reducible first | exact HS.out | apply sl_drewN | apply sl_drew | apply sl_box | apply sl_alloc)))) (Nat.le_refl 1)).mono ?_; rw [HL.out]; rintro e w1 ⟨rfl, hs⟩; (try simp only [World.size_alloc] at hs); replace HS := Aside0.mk hs; clear hs; (try clear hm0 hm1 hm2 hlt0); have hlt0 := blk_lt (sl_blk HS.out 0 rfl); have hm0 := c_at HS.out 0 rfl 0 rfl; have hm1 := c_at HS.out 0 rfl 1 rfl; have hm2 := c_at HS.out 0 rfl 2 rfl)
    | (go_at_call 33; refine (readable_c (by repeat (with_reducible first | exact HS.out | apply sl_drewN | apply sl_drew | apply sl_box | apply sl_alloc)) kind n B e _ bs rfl (Kd.C_below HR.out (sl_below0 (by repeat (with_reducible first | exact HS.out | apply sl_drewN | apply sl_drew | apply sl_box | apply sl_alloc)))) HE.out (by have := HB3.out; omega)).mono ?_; rw [HRd.out]; rintro e w1 ⟨rfl, hs⟩; (try simp only [World.size_alloc] at hs); replace HS := Aside0.mk hs; clear hs; (try clear hm0 hm1 hm2 hlt0); have hlt0 := blk_lt (sl_blk HS.out 0 rfl); have hm0 := c_at HS.out 0 rfl 0 rfl; have hm1 := c_at HS.out 0 rfl 1 rfl; have hm2 := c_at HS.out 0 rfl 2 rfl)
    | (go_at_call 11; refine (ex_c (by repeat (with_reducible first | exact HS.out | apply sl_drewN | apply sl_drew | apply sl_box | apply sl_alloc))).mono ?_; rintro e w1 ⟨rfl, hs⟩; (try simp only [World.size_alloc] at hs); replace HS := Aside0.mk hs; clear hs))
    go_ret
    exact ⟨rfl, sl_below0 HS.out⟩
  have z1 : (kind == 1) = false := beq_eq_false_iff_ne.2 k1
  have hk : ¬ (kind = 0 ∨ kind = 1) := fun h => h.elim k0 k1
  have hit : Byt (item kind n bs) := item_byt hb h0 h1 (by omega)
  have HRk := Aside0.mk (And.intro (RdOk_of (er := 0) hit (by omega)) hit)
  have HIl := Aside0.mk (show (item kind n bs).length ≤ 1000000 by omega)
  by_cases hm : most < (bs.length : Int) ∧ 0 < bs.length
  · obtain ⟨m1, m2⟩ := hm
    have d1 : decide (most < (bs.length : Int)) = true := decide_eq_true m1
    have d2 : decide (0 < bs.length) = true := decide_eq_true m2
    have d3 : decide ((0 : Int) < (bs.length : Int)) = true := decide_eq_true (by omega)
    obtain ⟨v2, v3⟩ := read_limit (n := n) hk (by omega) most (show mx most 0 < (bs.length : Int) by unfold mx; omega)
    have v1 : readN ⟨item kind n bs, 0⟩ kind = 0 := if_neg hk
    have HV := Aside0.mk (And.intro v1 (And.intro v2 v3))
    clear hr he h0 h1 hb l r e0 hml hb3 k0 k1 hk hit m1 m2 v1 v2 v3
    go_enter Try.func8, Try.ntmps8
    go_wp2_with (first
    | (go_at_call 10; refine (light_c (by repeat (with_reducible first | exact HS.out | apply sl_drewN | apply sl_drew | apply sl_box | apply sl_alloc)) _ 1 1 [(⟨kind, n, bs⟩ : S25)] rfl (HX.out (by first | rfl | simp) (sl_below0 (by repeat (with_reducible first | exact HS.out | apply sl_drewN | apply sl_drew | apply sl_box | apply sl_alloc)))) (Nat.le_refl 1)).mono ?_; rw [HL.out]; rintro e w1 ⟨rfl, hs⟩; (try simp only [World.size_alloc] at hs); replace HS := Aside0.mk hs; clear hs; (try clear hm0 hm1 hm2 hlt0); have hlt0 := blk_lt (sl_blk HS.out 0 rfl); have hm0 := c_at HS.out 0 rfl 0 rfl; have hm1 := c_at HS.out 0 rfl 1 rfl; have hm2 := c_at HS.out 0 rfl 2 rfl)
    | (go_at_call 33; refine (readable_c (by repeat (with_reducible first | exact HS.out | apply sl_drewN | apply sl_drew | apply sl_box | apply sl_alloc)) kind n B e _ bs rfl (Kd.C_below HR.out (sl_below0 (by repeat (with_reducible first | exact HS.out | apply sl_drewN | apply sl_drew | apply sl_box | apply sl_alloc)))) HE.out (by have := HB3.out; omega)).mono ?_; rw [HRd.out]; rintro e w1 ⟨rfl, hs⟩; (try simp only [World.size_alloc] at hs); replace HS := Aside0.mk hs; clear hs; (try clear hm0 hm1 hm2 hlt0); have hlt0 := blk_lt (sl_blk HS.out 0 rfl); have hm0 := c_at HS.out 0 rfl 0 rfl; have hm1 := c_at HS.out 0 rfl 1 rfl; have hm2 := c_at HS.out 0 rfl 2 rfl)
    | (go_at_call 12; refine (put_c (by repeat (with_reducible first | exact HS.out | apply sl_drewN | apply sl_drew | apply sl_box | apply sl_alloc)) none B 0 e [] bs kind n (Kd.C_nil _ _) (Nat.le_refl _) (Kd.C_below HR.out (sl_below0 (by repeat (with_reducible first | exact HS.out | apply sl_drewN | apply sl_drew | apply sl_box | apply sl_alloc)))) HN.out.1 HN.out.2 HB.out (Nat.zero_le _) (by have := HB3.out; omega)).mono ?_; rw [List.nil_append]; rintro e w1 ⟨A3, c3, rfl, hs⟩; (try simp only [World.size_alloc] at hs); replace HS := Aside0.mk hs; clear hs; (try clear hm0 hm1 hm2 hlt0); have hlt0 := blk_lt (sl_blk HS.out 0 rfl); have hm0 := c_at HS.out 0 rfl 0 rfl; have hm1 := c_at HS.out 0 rfl 1 rfl; have hm2 := c_at HS.out 0 rfl 2 rfl)
    | (go_at_call 17; refine (From_sl (by repeat (with_reducible first | exact HS.out | apply sl_drewN | apply sl_drew | apply sl_box | apply sl_alloc)) A3 c3 (item kind n bs) (sl_readO (by repeat (with_reducible first | exact HS.out | apply sl_drewN | apply sl_drew | apply sl_box | apply sl_alloc)) 2 (by rfl)).2.2 HIl.out).mono ?_; rintro e w1 ⟨g, rfl, hs⟩; (try simp only [World.size_alloc] at hs); replace HS := Aside0.mk hs; clear hs; (try clear hm0 hm1 hm2 hlt0); have hlt0 := blk_lt (sl_blk HS.out 0 rfl); have hm0 := c_at HS.out 0 rfl 0 rfl; have hm1 := c_at HS.out 0 rfl 1 rfl; have hm2 := c_at HS.out 0 rfl 2 rfl)
    | (go_at_call 34; refine (read_eq (by repeat (with_reducible first | exact HS.out | apply sl_drewN | apply sl_drew | apply sl_box | apply sl_alloc)) 3 kind most HV.out.1 HV.out.2.1 HV.out.2.2 HRk.out.1 HRk.out.2 (by rfl)).mono ?_; rintro e w1 ⟨A4, c4, rfl, hs⟩; (try simp only [World.size_alloc] at hs); replace HS := Aside0.mk hs; clear hs; (try clear hm0 hm1 hm2 hlt0); have hlt0 := blk_lt (sl_blk HS.out 0 rfl); have hm0 := c_at HS.out 0 rfl 0 rfl; have hm1 := c_at HS.out 0 rfl 1 rfl; have hm2 := c_at HS.out 0 rfl 2 rfl)
    | (go_at_call 29; refine (Err_sl (by repeat (with_reducible first | exact HS.out | apply sl_drewN | apply sl_drew | apply sl_box | apply sl_alloc)) 3 (by rfl)).mono ?_; rintro e w2 ⟨rfl, rfl⟩)
    | (go_at_call 11; refine (ex_c (by repeat (with_reducible first | exact HS.out | apply sl_drewN | apply sl_drew | apply sl_box | apply sl_alloc))).mono ?_; rintro e w1 ⟨rfl, hs⟩; (try simp only [World.size_alloc] at hs); replace HS := Aside0.mk hs; clear hs))
    go_ret
    exact ⟨rfl, sl_below0 HS.out⟩
  obtain ⟨v1, v2, v3⟩ := read_item (kind := kind) h0 h1 (show bs.length ≤ 1000000 by omega) most (by unfold mx; omega) r []
  rw [List.append_nil] at v1 v2 v3
  rw [if_neg hk] at v1 v2
  have HV := Aside0.mk (And.intro v1 (And.intro v2 v3))
  by_cases m1 : most < (bs.length : Int)
  · have m2 : ¬ 0 < bs.length := fun h => hm ⟨m1, h⟩
    have d1 : decide (most < (bs.length : Int)) = true := decide_eq_true m1
    have d2 : decide (0 < bs.length) = false := decide_eq_false m2
    have d3 : decide ((0 : Int) < (bs.length : Int)) = false := decide_eq_false (by omega)
    clear hr he h0 h1 hb l r e0 hml hb3 k0 k1 hk hit m1 m2 v1 v2 v3 hm
    go_enter Try.func8, Try.ntmps8
    go_wp2_with (first
    | (go_at_call 10; refine (light_c (by repeat (with_reducible first | exact HS.out | apply sl_drewN | apply sl_drew | apply sl_box | apply sl_alloc)) _ 1 1 [(⟨kind, n, bs⟩ : S25)] rfl (HX.out (by first | rfl | simp) (sl_below0 (by repeat (with_reducible first | exact HS.out | apply sl_drewN | apply sl_drew | apply sl_box | apply sl_alloc)))) (Nat.le_refl 1)).mono ?_; rw [HL.out]; rintro e w1 ⟨rfl, hs⟩; (try simp only [World.size_alloc] at hs); replace HS := Aside0.mk hs; clear hs; (try clear hm0 hm1 hm2 hlt0); have hlt0 := blk_lt (sl_blk HS.out 0 rfl); have hm0 := c_at HS.out 0 rfl 0 rfl; have hm1 := c_at HS.out 0 rfl 1 rfl; have hm2 := c_at HS.out 0 rfl 2 rfl)
    | (go_at_call 33; refine (readable_c (by repeat (with_reducible first | exact HS.out | apply sl_drewN | apply sl_drew | apply sl_box | apply sl_alloc)) kind n B e _ bs rfl (Kd.C_below HR.out (sl_below0 (by repeat (with_reducible first | exact HS.out | apply sl_drewN | apply sl_drew | apply sl_box | apply sl_alloc)))) HE.out (by have := HB3.out; omega)).mono ?_; rw [HRd.out]; rintro e w1 ⟨rfl, hs⟩; (try simp only [World.size_alloc] at hs); replace HS := Aside0.mk hs; clear hs; (try clear hm0 hm1 hm2 hlt0); have hlt0 := blk_lt (sl_blk HS.out 0 rfl); have hm0 := c_at HS.out 0 rfl 0 rfl; have hm1 := c_at HS.out 0 rfl 1 rfl; have hm2 := c_at HS.out 0 rfl 2 rfl)
    | (go_at_call 12; refine (put_c (by repeat (with_reducible first | exact HS.out | apply sl_drewN | apply sl_drew | apply sl_box | apply sl_alloc)) none B 0 e [] bs kind n (Kd.C_nil _ _) (Nat.le_refl _) (Kd.C_below HR.out (sl_below0 (by repeat (with_reducible first | exact HS.out | apply sl_drewN | apply sl_drew | apply sl_box | apply sl_alloc)))) HN.out.1 HN.out.2 HB.out (Nat.zero_le _) (by have := HB3.out; omega)).mono ?_; rw [List.nil_append]; rintro e w1 ⟨A3, c3, rfl, hs⟩; (try simp only [World.size_alloc] at hs); replace HS := Aside0.mk hs; clear hs; (try clear hm0 hm1 hm2 hlt0); have hlt0 := blk_lt (sl_blk HS.out 0 rfl); have hm0 := c_at HS.out 0 rfl 0 rfl; have hm1 := c_at HS.out 0 rfl 1 rfl; have hm2 := c_at HS.out 0 rfl 2 rfl)
    | (go_at_call 17; refine (From_sl (by repeat (with_reducible first | exact HS.out | apply sl_drewN | apply sl_drew | apply sl_box | apply sl_alloc)) A3 c3 (item kind n bs) (sl_readO (by repeat (with_reducible first | exact HS.out | apply sl_drewN | apply sl_drew | apply sl_box | apply sl_alloc)) 2 (by rfl)).2.2 HIl.out).mono ?_; rintro e w1 ⟨g, rfl, hs⟩; (try simp only [World.size_alloc] at hs); replace HS := Aside0.mk hs; clear hs; (try clear hm0 hm1 hm2 hlt0); have hlt0 := blk_lt (sl_blk HS.out 0 rfl); have hm0 := c_at HS.out 0 rfl 0 rfl; have hm1 := c_at HS.out 0 rfl 1 rfl; have hm2 := c_at HS.out 0 rfl 2 rfl)
    | (go_at_call 34; refine (read_eq (by repeat (with_reducible first | exact HS.out | apply sl_drewN | apply sl_drew | apply sl_box | apply sl_alloc)) 3 kind most HV.out.1 HV.out.2.1 HV.out.2.2 HRk.out.1 HRk.out.2 (by rfl)).mono ?_; rintro e w1 ⟨A4, c4, rfl, hs⟩; (try simp only [World.size_alloc] at hs); replace HS := Aside0.mk hs; clear hs; (try clear hm0 hm1 hm2 hlt0); have hlt0 := blk_lt (sl_blk HS.out 0 rfl); have hm0 := c_at HS.out 0 rfl 0 rfl; have hm1 := c_at HS.out 0 rfl 1 rfl; have hm2 := c_at HS.out 0 rfl 2 rfl)
    | (go_at_call 31; refine (End_sl (s := ⟨[], 0⟩) (by repeat (with_reducible first | exact HS.out | apply sl_drewN | apply sl_drew | apply sl_box | apply sl_alloc)) 3 (by rfl)).mono ?_; rintro e w2 ⟨rfl, rfl⟩)
    | (go_at_call 13; refine (same_c (by repeat (with_reducible first | exact HS.out | apply sl_drewN | apply sl_drew | apply sl_box | apply sl_alloc)) A4 B c4 e _ _ bs bs rfl rfl (sl_readF' (by repeat (with_reducible first | exact HS.out | apply sl_drewN | apply sl_drew | apply sl_box | apply sl_alloc)) 4 (by rfl)).2.2 (sl_readF' (by repeat (with_reducible first | exact HS.out | apply sl_drewN | apply sl_drew | apply sl_box | apply sl_alloc)) 4 (by rfl)).2.1 (Kd.C_below HR.out (sl_below0 (by repeat (with_reducible first | exact HS.out | apply sl_drewN | apply sl_drew | apply sl_box | apply sl_alloc)))) HE.out (by have := HB3.out; omega)).mono ?_; rw [decide_eq_true (show bs = bs from rfl)]; rintro e w1 ⟨rfl, hs⟩; (try simp only [World.size_alloc] at hs); replace HS := Aside0.mk hs; clear hs)
    | (go_at_call 11; refine (ex_c (by repeat (with_reducible first | exact HS.out | apply sl_drewN | apply sl_drew | apply sl_box | apply sl_alloc))).mono ?_; rintro e w1 ⟨rfl, hs⟩; (try simp only [World.size_alloc] at hs); replace HS := Aside0.mk hs; clear hs))
    go_ret
    exact ⟨rfl, sl_below0 HS.out⟩
  · have d1 : decide (most < (bs.length : Int)) = false := decide_eq_false m1
    clear hr he h0 h1 hb l r e0 hml hb3 k0 k1 hk hit m1 v1 v2 v3 hm
    go_enter Try.func8, Try.ntmps8
    go_wp2_with (first
    | (go_at_call 10; refine (light_c (by repeat (with_reducible first | exact HS.out | apply sl_drewN | apply sl_drew | apply sl_box | apply sl_alloc)) _ 1 1 [(⟨kind, n, bs⟩ : S25)] rfl (HX.out (by first | rfl | simp) (sl_below0 (by repeat (with_reducible first | exact HS.out | apply sl_drewN | apply sl_drew | apply sl_box | apply sl_alloc)))) (Nat.le_refl 1)).mono ?_; rw [HL.out]; rintro e w1 ⟨rfl, hs⟩; (try simp only [World.size_alloc] at hs); replace HS := Aside0.mk hs; clear hs; (try clear hm0 hm1 hm2 hlt0); have hlt0 := blk_lt (sl_blk HS.out 0 rfl); have hm0 := c_at HS.out 0 rfl 0 rfl; have hm1 := c_at HS.out 0 rfl 1 rfl; have hm2 := c_at HS.out 0 rfl 2 rfl)
    | (go_at_call 33; refine (readable_c (by repeat (with_reducible first | exact HS.out | apply sl_drewN | apply sl_drew | apply sl_box | apply sl_alloc)) kind n B e _ bs rfl (Kd.C_below HR.out (sl_below0 (by repeat (with_reducible first | exact HS.out | apply sl_drewN | apply sl_drew | apply sl_box | apply sl_alloc)))) HE.out (by have := HB3.out; omega)).mono ?_; rw [HRd.out]; rintro e w1 ⟨rfl, hs⟩; (try simp only [World.size_alloc] at hs); replace HS := Aside0.mk hs; clear hs; (try clear hm0 hm1 hm2 hlt0); have hlt0 := blk_lt (sl_blk HS.out 0 rfl); have hm0 := c_at HS.out 0 rfl 0 rfl; have hm1 := c_at HS.out 0 rfl 1 rfl; have hm2 := c_at HS.out 0 rfl 2 rfl)
    | (go_at_call 12; refine (put_c (by repeat (with_reducible first | exact HS.out | apply sl_drewN | apply sl_drew | apply sl_box | apply sl_alloc)) none B 0 e [] bs kind n (Kd.C_nil _ _) (Nat.le_refl _) (Kd.C_below HR.out (sl_below0 (by repeat (with_reducible first | exact HS.out | apply sl_drewN | apply sl_drew | apply sl_box | apply sl_alloc)))) HN.out.1 HN.out.2 HB.out (Nat.zero_le _) (by have := HB3.out; omega)).mono ?_; rw [List.nil_append]; rintro e w1 ⟨A3, c3, rfl, hs⟩; (try simp only [World.size_alloc] at hs); replace HS := Aside0.mk hs; clear hs; (try clear hm0 hm1 hm2 hlt0); have hlt0 := blk_lt (sl_blk HS.out 0 rfl); have hm0 := c_at HS.out 0 rfl 0 rfl; have hm1 := c_at HS.out 0 rfl 1 rfl; have hm2 := c_at HS.out 0 rfl 2 rfl)
    | (go_at_call 17; refine (From_sl (by repeat (with_reducible first | exact HS.out | apply sl_drewN | apply sl_drew | apply sl_box | apply sl_alloc)) A3 c3 (item kind n bs) (sl_readO (by repeat (with_reducible first | exact HS.out | apply sl_drewN | apply sl_drew | apply sl_box | apply sl_alloc)) 2 (by rfl)).2.2 HIl.out).mono ?_; rintro e w1 ⟨g, rfl, hs⟩; (try simp only [World.size_alloc] at hs); replace HS := Aside0.mk hs; clear hs; (try clear hm0 hm1 hm2 hlt0); have hlt0 := blk_lt (sl_blk HS.out 0 rfl); have hm0 := c_at HS.out 0 rfl 0 rfl; have hm1 := c_at HS.out 0 rfl 1 rfl; have hm2 := c_at HS.out 0 rfl 2 rfl)
    | (go_at_call 34; refine (read_eq (by repeat (with_reducible first | exact HS.out | apply sl_drewN | apply sl_drew | apply sl_box | apply sl_alloc)) 3 kind most HV.out.1 HV.out.2.1 HV.out.2.2 HRk.out.1 HRk.out.2 (by rfl)).mono ?_; rintro e w1 ⟨A4, c4, rfl, hs⟩; (try simp only [World.size_alloc] at hs); replace HS := Aside0.mk hs; clear hs; (try clear hm0 hm1 hm2 hlt0); have hlt0 := blk_lt (sl_blk HS.out 0 rfl); have hm0 := c_at HS.out 0 rfl 0 rfl; have hm1 := c_at HS.out 0 rfl 1 rfl; have hm2 := c_at HS.out 0 rfl 2 rfl)
    | (go_at_call 31; refine (End_sl (s := ⟨[], 0⟩) (by repeat (with_reducible first | exact HS.out | apply sl_drewN | apply sl_drew | apply sl_box | apply sl_alloc)) 3 (by rfl)).mono ?_; rintro e w2 ⟨rfl, rfl⟩)
    | (go_at_call 13; refine (same_c (by repeat (with_reducible first | exact HS.out | apply sl_drewN | apply sl_drew | apply sl_box | apply sl_alloc)) A4 B c4 e _ _ bs bs rfl rfl (sl_readF' (by repeat (with_reducible first | exact HS.out | apply sl_drewN | apply sl_drew | apply sl_box | apply sl_alloc)) 4 (by rfl)).2.2 (sl_readF' (by repeat (with_reducible first | exact HS.out | apply sl_drewN | apply sl_drew | apply sl_box | apply sl_alloc)) 4 (by rfl)).2.1 (Kd.C_below HR.out (sl_below0 (by repeat (with_reducible first | exact HS.out | apply sl_drewN | apply sl_drew | apply sl_box | apply sl_alloc)))) HE.out (by have := HB3.out; omega)).mono ?_; rw [decide_eq_true (show bs = bs from rfl)]; rintro e w1 ⟨rfl, hs⟩; (try simp only [World.size_alloc] at hs); replace HS := Aside0.mk hs; clear hs)
    | (go_at_call 11; refine (ex_c (by repeat (with_reducible first | exact HS.out | apply sl_drewN | apply sl_drew | apply sl_box | apply sl_alloc))).mono ?_; rintro e w1 ⟨rfl, hs⟩; (try simp only [World.size_alloc] at hs); replace HS := Aside0.mk hs; clear hs))
    go_ret
    exact ⟨rfl, sl_below0 HS.out⟩
end Go.Proofs.Ytmihibikhmldgaa.Q
