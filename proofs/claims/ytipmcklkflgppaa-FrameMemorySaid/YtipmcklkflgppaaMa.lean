import Derived.Test.YtipmcklkflgppaaSb
namespace Go.Proofs.Ytipmcklkflgppaa.Q
open Go.RowKit Go.Proofs.YtipmcklkflgppaaW.PrintWords Go.Proofs.YtipmcklkflgppaaW.PrintLast Go.Proofs.YtipmcklkflgppaaW.PrintMore Go.Proofs.Ytipmcklkflgppaa.Sl Go.Proofs.Ytipmcklkflgppaa.Hand Go.Proofs.Ytipmcklkflgppaa.Plain
attribute [local go_sem] max2_int min2_int max_two min_two max_three min_three max_four min_four 
set_option linter.unusedVariables false
set_option linter.unusedSimpArgs false

/-! ### The store of a cell of a row -/
theorem l_set {w : World} {n size : Nat} {e : TypeId} {xs : List Value} {ad : Addr} {c : Nat} (h : LRow w e size (.slice (some ad) n c) n xs) (j : Nat) (u : Value) (hj : j < xs.length) :
    LRow (w.setCell (ad.add j) u) e size (.slice (some ad) n c) n (xs.set j u) := by
  obtain ⟨h1, h2⟩ := h
  refine ⟨by rw [List.length_set]; exact h1, ?_⟩
  rcases h2 with ⟨_, h0⟩ | ⟨g, off, cap, cur, he, hh, hnc, hm, hcs, ht⟩
  · injection h0 with h0
    cases h0
  · injection he with ha _ hc
    injection ha with ha
    subst ha; subst hc
    refine .inr ⟨g, off, c, cur.setIfInBounds (off * size + j) u, rfl, ?_, hnc, hm, by simpa using hcs, ?_⟩
    · rw [add_at]
      exact blk_set hh _ u
    · rw [← ht, Array.toList_setIfInBounds, List.drop_set, if_neg (by omega), Nat.add_sub_cancel_left, List.take_set]
theorem flat_set {α : Type} {d : Kd α} {enc : α → List Value} (f : Flat d enc) (q : α) : ∀ (xs : List α) (j i : Nat) (p : α) (u : Value), xs[j]? = some p → i < d.sz → enc q = (enc p).set i u → (xs.set j q).flatMap enc = (xs.flatMap enc).set (j * d.sz + i) u
  | [], _, _, _, _, h, _, _ => by simp at h
  | x :: xs, 0, i, p, u, h, hi, hq => by
    obtain rfl : x = p := by simpa using h
    rw [List.set_cons_zero, List.flatMap_cons, List.flatMap_cons, hq, Nat.zero_mul, Nat.zero_add, List.set_append_left _ _ (by rw [f.len]; exact hi)]
  | x :: xs, j + 1, i, p, u, h, hi, hq => by
    rw [List.set_cons_succ, List.flatMap_cons, List.flatMap_cons, flat_set f q xs j i p u (by simpa using h) hi hq, List.set_append_right _ _ (by rw [f.len, Nat.add_mul]; omega), f.len]
    congr 2
    rw [Nat.add_mul]; omega
theorem LR.set {α : Type} {d : Kd α} {enc : α → List Value} {e : TypeId} {w : World} {F : Nat → Prop} {ad : Addr} {n c : Nat} {xs : List α} (f : Flat d enc) (h : LR d enc e w F (.slice (some ad) n c) xs) (j i : Nat) (p q : α) (u : Value) (hj : xs[j]? = some p) (hi : i < d.sz) (hq : enc q = (enc p).set i u) :
    LR d enc e (w.setCell (ad.add (j * d.sz + i)) u) F (.slice (some ad) n c) (xs.set j q) := by
  obtain ⟨rfl, _, _⟩ := h.reads' f
  refine ⟨h.1, ?_⟩
  rw [List.length_set, flat_set f q xs j i p u hj hi hq]
  refine l_set h.2 _ u ?_
  rw [f.flat_len]
  have hl := (List.getElem?_eq_some_iff.1 hj).1
  have := Nat.mul_le_mul_right d.sz (show j + 1 ≤ xs.length by omega)
  rw [Nat.add_mul] at this
  omega
theorem Split_lenT {w0 w : World} {L : List Res} (h : SL w0 w L) (A : Option Addr) (c m : Nat) (l : List Int) (hm : m = l.length) (hl : l.length ≤ 1000000) (hb : ∀ x ∈ l, 0 ≤ x ∧ x < 256) (hr : Kd.C (Kd.int .u8) w A l.length l) (hc : l.length ≤ c) {fs : List S25} {n er : Int} (hs : sp l = (fs, n, er)) :
    Calls Try.prog 13 #[.slice A m c] w fun e w' => ∃ A' c', e = .returned (.tuple #[.slice A' fs.length c', .int .i64 n, .int .i64 er]) ∧ SL w0 w' (L ++ [rowS w.heap.size k25 25 (.slice A' fs.length c') fs]) := by
  subst hm
  refine (frame_Split.calls (l.length + 1) A c l _ _ _ w hr hc ((Split_f hb hl _ (by omega)).trans (congrArg some ((sp_splitS hb _ (by omega)).trans hs)))).mono ?_
  rintro e w' ⟨v, rfl, h5, h6⟩
  obtain ⟨A', c', rfl⟩ := Kd.S_slice h5
  exact ⟨A', c', rfl, sl_newT h h6 h5⟩
set_option maxHeartbeats 4000000 in
set_option maxRecDepth 100000 in
theorem Feed_inT {w0 w : World} {R : Res} (g : Nat) (q : DSt) (A : Option Addr) (c : Nat) (b : List Int) (hs : SL w0 w [decR g q, R]) (hr : Kd.C (Kd.int .u8) w A b.length b) (hc : b.length ≤ c) (hq : ∀ x ∈ q.bytes, 0 ≤ x ∧ x < 256) (hb : ∀ x ∈ b, 0 ≤ x ∧ x < 256) (hl : q.bytes.length + b.length ≤ 1000000) :
    Calls Try.prog 17 #[.pointer (some ⟨g, 0, none⟩), .slice A b.length c] w fun e w' => ∃ A' c', e = .returned (.tuple #[.slice A' (feedF q b).length c', .int .i64 (feedE q b)]) ∧ ∃ bs, SL w0 w' [decR g (feedS q b), R, rowS bs k25 25 (.slice A' (feedF q b).length c') (feedF q b)] := by
  have HR := Aside0.mk hr
  have HC := Aside0.mk hc
  have HL := Aside0.mk hl
  have HB := Aside0.mk (bytes_app hq hb)
  obtain ⟨A1, c1, hcc, hs1⟩ := dec_open hs 0 rfl
  have HS := Aside0.mk (show SL w0 w [cellsR g 44 #[.bool true, .bool q.closed, .slice A1 q.bytes.length c1], R, row8 (.slice A1 q.bytes.length c1) q.bytes] from hs1)
  have HS0 := Aside0.mk hs
  have m0 := (blk_cell (sl_blk HS.out 0 rfl) 0).trans (show _ = some (Value.bool true) from rfl)
  have m1 := (blk_cell (sl_blk HS.out 0 rfl) 1).trans (show _ = some (Value.bool q.closed) from rfl)
  have m2 := (blk_cell (sl_blk HS.out 0 rfl) 2).trans (show _ = some (Value.slice A1 q.bytes.length c1) from rfl)
  have f2 := blk_frozen (sl_blk HS.out 0 rfl) 2
  have hg_ := blk_lt (sl_blk HS.out 0 rfl)
  clear hr hc hl hq hb hs1 hs hcc
  cases hcl : q.closed
  · have E1 := Aside0.mk (show feedF q b = (sp (q.bytes ++ b)).1 ∧ feedE q b = (sp (q.bytes ++ b)).2.2 by unfold feedF feedE; rw [hcl]; exact ⟨rfl, rfl⟩)
    have E2 := Aside0.mk (show feedS q b = if (sp (q.bytes ++ b)).2.2 = 0 then ⟨false, (q.bytes ++ b).drop (sp (q.bytes ++ b)).2.1.toNat⟩ else ⟨true, []⟩ by unfold feedS; rw [hcl]; rfl)
    rw [hcl] at m1
    replace HS := Aside0.mk (show SL w0 w [cellsR g 44 #[.bool true, .bool false, .slice A1 q.bytes.length c1], R, row8 (.slice A1 q.bytes.length c1) q.bytes] by have := HS.out; rw [hcl] at this; exact this)
    have hsr := sp_range _ (Nat.lt_succ_self (q.bytes ++ b).length) HB.out
    obtain ⟨fs, n, er, hsp⟩ : ∃ fs n er, sp (q.bytes ++ b) = (fs, n, er) := ⟨_, _, _, rfl⟩
    rw [hsp] at E1 E2 hsr
    rw [E1.out.1, E1.out.2, E2.out]
    have HSP := Aside0.mk hsp
    have hlen : (q.bytes ++ b).length = q.bytes.length + b.length := List.length_append
    have HLn := Aside0.mk hlen
    by_cases he : er = 0
    · subst he
      have bn : ((0 : Int) != 0) = false := rfl
      simp only [if_true]
      obtain ⟨s0, s1, _, _⟩ := hsr
      rw [hlen] at s1
      have s0' : (0 : Int) ≤ n := s0
      have s1' : n ≤ ((q.bytes.length + b.length : Nat) : Int) := s1
      clear hlen
      go_enter Try.func17, Try.ntmps17
      go_upto_region 6 with (first
        | (at_builtin; refine app8 (by repeat (with_reducible first | exact HS.out | apply sl_drewN | apply sl_drew | apply sl_alloc)) 2 (.slice A1 q.bytes.length c1) q.bytes b rfl (.tmp 28) (.tmp 29) rfl rfl rfl (by rfl) HR.out (by have := HL.out; omega) ?_; clear m0 m1 m2 f2 hg_; intro A3 c3 w2 hs; (try simp only [World.size_alloc] at hs); replace HS := Aside0.mk hs; clear hs; have m0 := (blk_cell (sl_blk HS.out 0 rfl) 0).trans (show _ = some (Value.bool true) from rfl); have m1 := (blk_cell (sl_blk HS.out 0 rfl) 1).trans (show _ = some (Value.bool false) from rfl); have m2 := (blk_cell (sl_blk HS.out 0 rfl) 2).trans (show _ = some (Value.slice A1 q.bytes.length c1) from rfl); have f2 := blk_frozen (sl_blk HS.out 0 rfl) 2; have hg_ := blk_lt (sl_blk HS.out 0 rfl)))
      refine world_gen (F := fun w_ => Code.wp Try.prog _ _ _ w_) (fun w_ => SL w0 w_ [cellsR g 44 #[.bool true, .bool false, .slice A3 (q.bytes.length + b.length) c3], R, row8 (.slice A3 (q.bytes.length + b.length) c3) (q.bytes ++ b)]) (sl_put HS.out 0 rfl 2 _) ?_
      clear m0 m1 m2 f2 hg_
      intro w3 hs
      replace HS := Aside0.mk hs
      clear hs
      have m0 := (blk_cell (sl_blk HS.out 0 rfl) 0).trans (show _ = some (Value.bool true) from rfl)
      have m1 := (blk_cell (sl_blk HS.out 0 rfl) 1).trans (show _ = some (Value.bool false) from rfl)
      have m2 := (blk_cell (sl_blk HS.out 0 rfl) 2).trans (show _ = some (Value.slice A3 (q.bytes.length + b.length) c3) from rfl)
      have f2 := blk_frozen (sl_blk HS.out 0 rfl) 2
      have hg_ := blk_lt (sl_blk HS.out 0 rfl)
      have f1 := blk_frozen (sl_blk HS.out 0 rfl) 1
      have q1 : (0 : Int) ≤ n := s0'
      have q2 : n ≤ ((q.bytes.length : Int) + (b.length : Int)) := by omega
      go_wp2_with (first
        | (go_at_call 13; refine (Split_lenT (by repeat (with_reducible first | exact HS.out | apply sl_drewN | apply sl_drew | apply sl_alloc)) A3 c3 _ (q.bytes ++ b) HLn.out.symm (by have := HL.out; have := HLn.out; omega) HB.out (by exact sl_reads' flat8 (by repeat (with_reducible first | exact HS.out | apply sl_drewN | apply sl_drew | apply sl_alloc)) 2 (by rfl)) (by have := sl_cap flat8 (by repeat (with_reducible first | exact HS.out | apply sl_drewN | apply sl_drew | apply sl_alloc)) 2 (by rfl); have := HLn.out; omega) HSP.out).mono ?_; rintro e w1 ⟨A5, c5, rfl, hs⟩; clear m0 m1 m2 f1 f2 hg_; (try simp only [World.size_alloc] at hs); replace HS := Aside0.mk hs; clear hs; have m0 := (blk_cell (sl_blk HS.out 0 rfl) 0).trans (show _ = some (Value.bool true) from rfl); have m1 := (blk_cell (sl_blk HS.out 0 rfl) 1).trans (show _ = some (Value.bool false) from rfl); have m2 := (blk_cell (sl_blk HS.out 0 rfl) 2).trans (show _ = some (Value.slice A3 (q.bytes.length + b.length) c3) from rfl); have f2 := blk_frozen (sl_blk HS.out 0 rfl) 2; have hg_ := blk_lt (sl_blk HS.out 0 rfl); have f1 := blk_frozen (sl_blk HS.out 0 rfl) 1)
        | (at_builtin; refine app8n (by repeat (with_reducible first | exact HS.out | apply sl_drewN | apply sl_drew | apply sl_alloc)) ((q.bytes ++ b).drop n.toNat) rfl (.const (.slice none 0 0)) (.tmp 58) rfl rfl rfl ?hy ?hl ?_; (case hy => exact drop8 (by exact sl_reads' flat8 (by repeat (with_reducible first | exact HS.out | apply sl_drewN | apply sl_drew | apply sl_alloc)) 2 (by rfl)) (by have := sl_cap flat8 (by repeat (with_reducible first | exact HS.out | apply sl_drewN | apply sl_drew | apply sl_alloc)) 2 (by rfl); have := HLn.out; omega) (by have := HLn.out; omega) HLn.out.symm); (case hl => have := HL.out; omega); clear m0 m1 m2 f1 f2 hg_; intro A7 c7 w4 hs; (try simp only [World.size_alloc] at hs); replace HS := Aside0.mk hs; clear hs; have m0 := (blk_cell (sl_blk HS.out 0 rfl) 0).trans (show _ = some (Value.bool true) from rfl); have m1 := (blk_cell (sl_blk HS.out 0 rfl) 1).trans (show _ = some (Value.bool false) from rfl); have m2 := (blk_cell (sl_blk HS.out 0 rfl) 2).trans (show _ = some (Value.slice A3 (q.bytes.length + b.length) c3) from rfl); have f2 := blk_frozen (sl_blk HS.out 0 rfl) 2; have hg_ := blk_lt (sl_blk HS.out 0 rfl); have f1 := blk_frozen (sl_blk HS.out 0 rfl) 1))
      all_goals
        go_ret2
        refine ⟨A5, c5, rfl, w3.heap.size, ?_⟩
        have hk : ((q.bytes ++ b).drop n.toNat).length = q.bytes.length + b.length - n.toNat := by rw [List.length_drop, List.length_append]
        rw [← hk]
        have h1 := sl_put HS.out 0 rfl 2 (.slice A7 ((q.bytes ++ b).drop n.toNat).length c7)
        have h2 := sl_close (A := fun v => cellsR g 44 #[.bool true, .bool false, v]) (B := fun v => row8 v ((q.bytes ++ b).drop n.toNat)) (.slice A7 ((q.bytes ++ b).drop n.toNat).length c7) h1 0 4 (by decide) rfl rfl
        exact sl_pick h2 [0, 1, 3] (by decide) rfl
    · have bn : (er != 0) = true := bne_iff_ne.2 he
      simp only [he, if_false]
      clear hlen
      go_enter Try.func17, Try.ntmps17
      go_upto_region 6 with (first
        | (at_builtin; refine app8 (by repeat (with_reducible first | exact HS.out | apply sl_drewN | apply sl_drew | apply sl_alloc)) 2 (.slice A1 q.bytes.length c1) q.bytes b rfl (.tmp 28) (.tmp 29) rfl rfl rfl (by rfl) HR.out (by have := HL.out; omega) ?_; clear m0 m1 m2 f2 hg_; intro A3 c3 w2 hs; (try simp only [World.size_alloc] at hs); replace HS := Aside0.mk hs; clear hs; have m0 := (blk_cell (sl_blk HS.out 0 rfl) 0).trans (show _ = some (Value.bool true) from rfl); have m1 := (blk_cell (sl_blk HS.out 0 rfl) 1).trans (show _ = some (Value.bool false) from rfl); have m2 := (blk_cell (sl_blk HS.out 0 rfl) 2).trans (show _ = some (Value.slice A1 q.bytes.length c1) from rfl); have f2 := blk_frozen (sl_blk HS.out 0 rfl) 2; have hg_ := blk_lt (sl_blk HS.out 0 rfl)))
      refine world_gen (F := fun w_ => Code.wp Try.prog _ _ _ w_) (fun w_ => SL w0 w_ [cellsR g 44 #[.bool true, .bool false, .slice A3 (q.bytes.length + b.length) c3], R, row8 (.slice A3 (q.bytes.length + b.length) c3) (q.bytes ++ b)]) (sl_put HS.out 0 rfl 2 _) ?_
      clear m0 m1 m2 f2 hg_
      intro w3 hs
      replace HS := Aside0.mk hs
      clear hs
      have m0 := (blk_cell (sl_blk HS.out 0 rfl) 0).trans (show _ = some (Value.bool true) from rfl)
      have m1 := (blk_cell (sl_blk HS.out 0 rfl) 1).trans (show _ = some (Value.bool false) from rfl)
      have m2 := (blk_cell (sl_blk HS.out 0 rfl) 2).trans (show _ = some (Value.slice A3 (q.bytes.length + b.length) c3) from rfl)
      have f2 := blk_frozen (sl_blk HS.out 0 rfl) 2
      have hg_ := blk_lt (sl_blk HS.out 0 rfl)
      have f1 := blk_frozen (sl_blk HS.out 0 rfl) 1
      go_wp2_with (first
        | (go_at_call 13; refine (Split_lenT (by repeat (with_reducible first | exact HS.out | apply sl_drewN | apply sl_drew | apply sl_alloc)) A3 c3 _ (q.bytes ++ b) HLn.out.symm (by have := HL.out; have := HLn.out; omega) HB.out (by exact sl_reads' flat8 (by repeat (with_reducible first | exact HS.out | apply sl_drewN | apply sl_drew | apply sl_alloc)) 2 (by rfl)) (by have := sl_cap flat8 (by repeat (with_reducible first | exact HS.out | apply sl_drewN | apply sl_drew | apply sl_alloc)) 2 (by rfl); have := HLn.out; omega) HSP.out).mono ?_; rintro e w1 ⟨A5, c5, rfl, hs⟩; clear m0 m1 m2 f1 f2 hg_; (try simp only [World.size_alloc] at hs); replace HS := Aside0.mk hs; clear hs; have m0 := (blk_cell (sl_blk HS.out 0 rfl) 0).trans (show _ = some (Value.bool true) from rfl); have m1 := (blk_cell (sl_blk HS.out 0 rfl) 1).trans (show _ = some (Value.bool false) from rfl); have m2 := (blk_cell (sl_blk HS.out 0 rfl) 2).trans (show _ = some (Value.slice A3 (q.bytes.length + b.length) c3) from rfl); have f2 := blk_frozen (sl_blk HS.out 0 rfl) 2; have hg_ := blk_lt (sl_blk HS.out 0 rfl); have f1 := blk_frozen (sl_blk HS.out 0 rfl) 1))
      go_ret2
      refine ⟨A5, c5, rfl, w3.heap.size, ?_⟩
      have h1 := sl_nil (sl_put (sl_put HS.out 0 rfl 1 (.bool true)) 0 rfl 2 (.slice none 0 0)) (Kd.int .u8) enc8 5
      have h2 := sl_close (A := fun v => cellsR g 44 #[.bool true, .bool true, v]) (B := fun v => row8 v []) (.slice none 0 0) h1 0 4 (by decide) rfl rfl
      exact sl_pick h2 [0, 1, 3] (by decide) rfl
  · have E1 := Aside0.mk (show feedF q b = [] ∧ feedE q b = 20 ∧ feedS q b = q by unfold feedF feedE feedS; rw [hcl]; exact ⟨rfl, rfl, rfl⟩)
    rw [hcl] at m1
    go_enter Try.func17, Try.ntmps17
    go_wp2
    try rw [Exit.noGoto_ret]

    go_ret2
    refine ⟨none, 0, ?_, 0, ?_⟩
    · rw [E1.out.1, E1.out.2.1]; rfl
    · rw [E1.out.1, E1.out.2.2]
      exact sl_nilS HS0.out 0 k25 25
theorem Feed_T {w0 w : World} {L : List Res} (h : SL w0 w L) (i : Nat) {g : Nat} {q : DSt} (A : Option Addr) (c m : Nat) (b : List Int) (hm : m = b.length) {F : List S25} {E : Int} {Q : DSt} (hF : feedF q b = F) (hE : feedE q b = E) (hQ : feedS q b = Q) (hi : L[i]? = some (decR g q)) (hr : Kd.C (Kd.int .u8) w A b.length b) (hc : b.length ≤ c) (hq : ∀ x ∈ q.bytes, 0 ≤ x ∧ x < 256) (hb : ∀ x ∈ b, 0 ≤ x ∧ x < 256) (hl : q.bytes.length + b.length ≤ 1000000) :
    Calls Try.prog 17 #[.pointer (some ⟨g, 0, none⟩), .slice A m c] w fun e w' => ∃ A' c' bs, e = .returned (.tuple #[.slice A' F.length c', .int .i64 E]) ∧ SL w0 w' (L.set i (decR g Q) ++ [rowS bs k25 25 (.slice A' F.length c') F]) := by
  subst hF; subst hE; subst hQ; subst hm
  obtain ⟨S, h1, h2⟩ := sl_lift h hi
  refine (Feed_inT g q A c b h1 hr hc hq hb hl).mono ?_
  rintro e w' ⟨A', c', h3, bs, h4⟩
  exact ⟨A', c', bs, h3, h2 _ _ _ h4⟩
/-- The store of a byte in the body of a frame of a row of the call's own. -/
theorem S_bset {w : World} {b : Nat} {ok : Nat → Prop} {g n cap : Nat} {fs : List S25} (h : Kd.S k25 25 w b ok (.slice (some ⟨g, 0, none⟩) n cap) fs) (i : Nat) (hi : i < n) (j : Nat) (hj : j < (fs.getD i z25).f2.length) :
    ∃ g2 c2, w.cell? ⟨g, i * 3 + 2, none⟩ = some (.slice (some ⟨g2, 0, none⟩) (fs.getD i z25).f2.length c2) ∧ (∃ old, w.cell? ⟨g2, j, none⟩ = some (.int .u8 old)) ∧ w.frozen? ⟨g2, j, none⟩ = false ∧ g2 < w.heap.size ∧ ok g2 ∧
      ∀ y, Kd.S k25 25 (w.setCell ⟨g2, j, none⟩ (.int .u8 y)) b ok (.slice (some ⟨g, 0, none⟩) n cap) (fs.set i ⟨(fs.getD i z25).f0, (fs.getD i z25).f1, (fs.getD i z25).f2.set j y⟩) := by
  obtain ⟨oki, c, hcl, hM, hcc, hok, hH⟩ := Kd.S_lend h z25 (i : Int) (by omega) (by omega)
  rw [Int.toNat_natCast] at hM hcc
  obtain ⟨v2, rfl, hR⟩ := k25_openM hM
  obtain ⟨A2, c2, rfl, hc2, hC⟩ := Kd.R_reads hR
  obtain ⟨ad2, rfl, hx⟩ := Kd.at_int hC (j : Int) (by omega) (by omega)
  obtain ⟨g2, rfl⟩ := Kd.R_head hR
  have hk2 : oki g2 := hR.1 g2 (by simp [Value.ownBlock])
  obtain ⟨cells, hb2⟩ := Kd.R_typed hR g2 (by simp [Value.ownBlock])
  have hx' : w.cell? ⟨g2, j, none⟩ = some (.int .u8 (rd (fs.getD i z25).f2 j)) := by
    have := hx
    rw [Int.toNat_natCast, add_at, Nat.zero_add] at this
    exact this
  refine ⟨g2, c2, hcc 2 _ rfl, ⟨_, hx'⟩, blk_frozen hb2 j, blk_lt hb2, (hok g2 hk2).1, fun y => ?_⟩
  have hR2 := Kd.R_putn (i := (j : Int)) hR y
  rw [Int.toNat_natCast] at hR2
  have hH2 := Kd.H_step (w1 := w.setCell ⟨g2, j, none⟩ (.int .u8 y)) hH (fun k _ hk _ => Below.heap_setCell w ⟨g2, j, none⟩ _ k (fun he => hk (he ▸ hk2)))
  have := Kd.H_back hH2 (x' := (⟨(fs.getD i z25).f0, (fs.getD i z25).f1, (fs.getD i z25).f2.set j y⟩ : S25)) (k25_mkM _ _ _ _ (v2 := .slice (some ⟨g2, 0, none⟩) (fs.getD i z25).f2.length c2) hR2) (fun k hk => hk)
  rw [Int.toNat_natCast] at this
  exact this
theorem sl_bset {w0 w : World} {L : List Res} (h : SL w0 w L) (p : Nat) {b g n cap : Nat} {fs : List S25} (hp : L[p]? = some (rowS b k25 25 (.slice (some ⟨g, 0, none⟩) n cap) fs)) (i : Nat) (hi : i < n) (j : Nat) (hj : j < (fs.getD i z25).f2.length) :
    ∃ g2 c2, w.cell? ⟨g, i * 3 + 2, none⟩ = some (.slice (some ⟨g2, 0, none⟩) (fs.getD i z25).f2.length c2) ∧ (∃ old, w.cell? ⟨g2, j, none⟩ = some (.int .u8 old)) ∧ w.frozen? ⟨g2, j, none⟩ = false ∧ g2 < w.heap.size ∧
      ∀ y, SL w0 (w.setCell ⟨g2, j, none⟩ (.int .u8 y)) (L.set p (rowS b k25 25 (.slice (some ⟨g, 0, none⟩) n cap) (fs.set i ⟨(fs.getD i z25).f0, (fs.getD i z25).f1, (fs.getD i z25).f2.set j y⟩))) := by
  obtain ⟨F, h1, h2, h3⟩ := sl_upd h hp
  obtain ⟨g2, c2, k1, k2, k3, k4, k5, k6⟩ := S_bset h1 i hi j hj
  exact ⟨g2, c2, k1, k2, k3, k4, fun y => h3 _ _ F (k6 y) (fun k hk => ⟨.inl hk, by simpa [World.setCell] using (h2 k hk).2⟩) ((Chg.refl F w).setCell (.inl k5) _)⟩
/-- The store of a byte of a row of bytes. -/
theorem sl_set8 {w0 w : World} {L : List Res} (h : SL w0 w L) (p : Nat) {ad : Addr} {n c : Nat} {xs : List Int} (hp : L[p]? = some (row8 (.slice (some ad) n c) xs)) (j : Nat) (hj : j < n) :
    (∃ old, w.cell? (ad.add j) = some (.int .u8 old)) ∧ w.frozen? (ad.add j) = false ∧ (ad.add j).block < w.heap.size ∧ ∀ y, SL w0 (w.setCell (ad.add j) (.int .u8 y)) (L.set p (row8 (.slice (some ad) n c) (xs.set j y))) := by
  obtain ⟨F, h1, h2, h3⟩ := sl_upd h hp
  have h1 : LR (Kd.int .u8) enc8 5 w F (.slice (some ad) n c) xs := h1
  obtain ⟨hn, hc, hC⟩ := h1.reads' flat8
  obtain ⟨ad', e, hx⟩ := Kd.at_int hC (j : Int) (by omega) (by omega)
  injection e with e
  subst e
  rw [Int.toNat_natCast] at hx
  have hbl : (ad.add j).block = ad.block := add_block ad j
  have hk : F ad.block := h1.1 _ (by simp [Value.ownBlock])
  refine ⟨⟨_, hx⟩, ?_, by rw [hbl]; exact (h2 _ hk).2, fun y => ?_⟩
  · rcases h1.2.2 with ⟨_, h0⟩ | ⟨g, off, cap, cur, he, hh, _⟩
    · cases h0
    · injection he with ha
      injection ha with ha
      subst ha
      rw [add_at]
      exact blk_frozen hh _
  · refine h3 _ _ F ?_ (fun k hk => ⟨.inl hk, by simpa [World.setCell] using (h2 k hk).2⟩) ((Chg.refl F w).setCell (.inl (by rw [hbl]; exact hk)) _)
    have := LR.set flat8 h1 j 0 (xs.getD j 0) y (.int .u8 y) (by rw [List.getD_eq_getElem?_getD, List.getElem?_eq_getElem (by omega)]; rfl) (by decide) rfl
    have e : j * (Kd.int .u8).sz + 0 = j := Nat.mul_one j
    rw [e] at this
    exact this
end Go.Proofs.Ytipmcklkflgppaa.Q
