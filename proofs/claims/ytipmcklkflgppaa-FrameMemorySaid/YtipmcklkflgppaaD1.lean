import Derived.Test.YtipmcklkflgppaaD0
namespace Go.Proofs.Ytipmcklkflgppaa.Q
open Go.RowKit Go.Proofs.YtipmcklkflgppaaW.PrintWords Go.Proofs.YtipmcklkflgppaaW.PrintLast Go.Proofs.YtipmcklkflgppaaW.PrintMore Go.Proofs.Ytipmcklkflgppaa.Sl Go.Proofs.Ytipmcklkflgppaa.Hand Go.Proofs.Ytipmcklkflgppaa.Plain
attribute [local go_sem] max2_int min2_int max_two min_two max_three min_three max_four min_four 
set_option linter.unusedVariables false
set_option linter.unusedSimpArgs false

/-! ### The decoder -/
structure DSt where
  closed : Bool
  bytes : List Int
def dcells (cl : Bool) (v : Value) : Array Value := #[.bool true, .bool cl, v]
/-- A decoder that lies at block g. -/
def decR (g : Nat) (q : DSt) : Res := exR (fun v => cellsR g 44 #[.bool true, .bool q.closed, v]) (fun v => row8 v q.bytes)
def feedF (q : DSt) (b : List Int) : List S25 := if q.closed then [] else (sp (q.bytes ++ b)).1
def feedE (q : DSt) (b : List Int) : Int := if q.closed then 20 else (sp (q.bytes ++ b)).2.2
def feedS (q : DSt) (b : List Int) : DSt := if q.closed then q else if (sp (q.bytes ++ b)).2.2 = 0 then ⟨false, (q.bytes ++ b).drop (sp (q.bytes ++ b)).2.1.toNat⟩ else ⟨true, []⟩
theorem D0_sl {w0 w : World} {L : List Res} (h : SL w0 w L) : Calls Try.prog 16 #[] w fun e w' => ∃ g : Nat, e = .returned (.pointer (some ⟨g, 0, none⟩)) ∧ SL w0 w' (L ++ [decR g ⟨false, []⟩]) := by
  have H := Aside0.mk h
  clear h
  go_enter Try.func16, Try.ntmps16
  go_wp2
  go_ret
  refine ⟨w.heap.size, rfl, ?_⟩
  refine sl_new H.out (below_alloc (Below.refl _ _) _) (F := fun k => k = w.heap.size) ⟨.slice none 0 0, fun k => k = w.heap.size, fun _ => False, ⟨rfl, heap_alloc_new w _⟩, LR.nil _ _ _ _ _, fun k hk => hk, fun k hk => hk.elim, fun k _ hk => hk⟩ (fun k hk => by simp [hk])
/-- One field of a decoder's three cells. -/
theorem dec_open {w0 w : World} {L : List Res} (h : SL w0 w L) (i : Nat) {g : Nat} {q : DSt} (hi : L[i]? = some (decR g q)) : ∃ A c, q.bytes.length ≤ c ∧ SL w0 w (L.set i (cellsR g 44 #[.bool true, .bool q.closed, .slice A q.bytes.length c]) ++ [row8 (.slice A q.bytes.length c) q.bytes]) := by
  obtain ⟨v, hs⟩ := sl_open h i hi
  obtain ⟨A, c, rfl, hc, _⟩ := sl_reads flat8 hs L.length (by rw [List.getElem?_append_right (by rw [List.length_set]; exact Nat.le_refl _), List.length_set, Nat.sub_self]; rfl)
  exact ⟨A, c, hc, hs⟩
theorem Buf_sl {w0 w : World} {L : List Res} (h : SL w0 w L) (i : Nat) {g : Nat} {q : DSt} (hi : L[i]? = some (decR g q)) : Calls Try.prog 18 #[.pointer (some ⟨g, 0, none⟩)] w fun e w' => e = .returned (.int .i64 (q.bytes.length : Int)) ∧ w = w' := by
  obtain ⟨A, c, _, hs⟩ := dec_open h i hi
  have hil : i < L.length := (List.getElem?_eq_some_iff.1 hi).1
  have hb := sl_blk hs i (g := g) (t := 44) (cs := #[.bool true, .bool q.closed, .slice A q.bytes.length c]) (by rw [List.getElem?_append_left (by rw [List.length_set]; exact hil), List.getElem?_set_self hil])
  have h2 := (blk_cell hb 2).trans (show _ = some (Value.slice A q.bytes.length c) from rfl)
  clear hs hb h hi hil
  go_enter Try.func18, Try.ntmps18
  go_wp2
  go_ret
  exact ⟨rfl, rfl⟩
set_option maxHeartbeats 4000000 in
set_option maxRecDepth 100000 in
theorem Feed_in {w0 w : World} {R : Res} (g : Nat) (q : DSt) (A : Option Addr) (c : Nat) (b : List Int) (hs : SL w0 w [decR g q, R]) (hr : Kd.C (Kd.int .u8) w A b.length b) (hc : b.length ≤ c) (hq : ∀ x ∈ q.bytes, 0 ≤ x ∧ x < 256) (hb : ∀ x ∈ b, 0 ≤ x ∧ x < 256) (hl : q.bytes.length + b.length ≤ 1000000) :
    Calls Try.prog 17 #[.pointer (some ⟨g, 0, none⟩), .slice A b.length c] w fun e w' => ∃ A' c', e = .returned (.tuple #[.slice A' (feedF q b).length c', .int .i64 (feedE q b)]) ∧ SL w0 w' [decR g (feedS q b), R, rowF w0 (.slice A' (feedF q b).length c') (feedF q b)] := by
  have HR := Aside0.mk hr
  have HC := Aside0.mk hc
  have HL := Aside0.mk hl
  have HB := Aside0.mk (bytes_app hq hb)
  obtain ⟨A1, c1, hcc, hs1⟩ := dec_open hs 0 rfl
  have HS := Aside0.mk (show SL w0 w [cellsR g 44 #[.bool true, .bool q.closed, .slice A1 q.bytes.length c1], R, row8 (.slice A1 q.bytes.length c1) q.bytes] from hs1)
  have HS0 := Aside0.mk hs
  have m0 := (blk_cell (sl_blk HS.out 0 rfl) 0).trans (show _ = some (Value.bool true) from rfl)
  have m1 := (blk_cell (sl_blk HS.out 0 rfl) 1).trans (show _ = some (Value.bool q.closed) from rfl)
  have m2 := (blk_cell (sl_blk HS.out 0 rfl) 2).trans (show _ = some (Value.slice A1 q.bytes.length c1) from rfl)
  have f2 := blk_frozen (sl_blk HS.out 0 rfl) 2
  have hg_ := blk_lt (sl_blk HS.out 0 rfl)
  clear hr hc hl hq hb hs1 hs hcc
  cases hcl : q.closed
  · have E1 := Aside0.mk (show feedF q b = (sp (q.bytes ++ b)).1 ∧ feedE q b = (sp (q.bytes ++ b)).2.2 by unfold feedF feedE; rw [hcl]; exact ⟨rfl, rfl⟩)
    have E2 := Aside0.mk (show feedS q b = if (sp (q.bytes ++ b)).2.2 = 0 then ⟨false, (q.bytes ++ b).drop (sp (q.bytes ++ b)).2.1.toNat⟩ else ⟨true, []⟩ by unfold feedS; rw [hcl]; rfl)
    rw [hcl] at m1
    replace HS := Aside0.mk (show SL w0 w [cellsR g 44 #[.bool true, .bool false, .slice A1 q.bytes.length c1], R, row8 (.slice A1 q.bytes.length c1) q.bytes] by have := HS.out; rw [hcl] at this; exact this)
    have hsr := sp_range _ (Nat.lt_succ_self (q.bytes ++ b).length) HB.out
    obtain ⟨fs, n, er, hsp⟩ : ∃ fs n er, sp (q.bytes ++ b) = (fs, n, er) := ⟨_, _, _, rfl⟩
    rw [hsp] at E1 E2 hsr
    rw [E1.out.1, E1.out.2, E2.out]
    have HSP := Aside0.mk hsp
    have hlen : (q.bytes ++ b).length = q.bytes.length + b.length := List.length_append
    have HLn := Aside0.mk hlen
    by_cases he : er = 0
    · subst he
      have bn : ((0 : Int) != 0) = false := rfl
      simp only [if_true]
      obtain ⟨s0, s1, _, _⟩ := hsr
      rw [hlen] at s1
      have s0' : (0 : Int) ≤ n := s0
      have s1' : n ≤ ((q.bytes.length + b.length : Nat) : Int) := s1
      clear hlen
      go_enter Try.func17, Try.ntmps17
      go_upto_region 6 with (first
        | (at_builtin; refine app8 (by repeat (with_reducible first | exact HS.out | apply sl_drewN | apply sl_drew | apply sl_alloc)) 2 (.slice A1 q.bytes.length c1) q.bytes b rfl (.tmp 28) (.tmp 29) rfl rfl rfl (by rfl) HR.out (by have := HL.out; omega) ?_; clear m0 m1 m2 f2 hg_; intro A3 c3 w2 hs; (try simp only [World.size_alloc] at hs); replace HS := Aside0.mk hs; clear hs; have m0 := (blk_cell (sl_blk HS.out 0 rfl) 0).trans (show _ = some (Value.bool true) from rfl); have m1 := (blk_cell (sl_blk HS.out 0 rfl) 1).trans (show _ = some (Value.bool false) from rfl); have m2 := (blk_cell (sl_blk HS.out 0 rfl) 2).trans (show _ = some (Value.slice A1 q.bytes.length c1) from rfl); have f2 := blk_frozen (sl_blk HS.out 0 rfl) 2; have hg_ := blk_lt (sl_blk HS.out 0 rfl)))
      refine world_gen (F := fun w_ => Code.wp Try.prog _ _ _ w_) (fun w_ => SL w0 w_ [cellsR g 44 #[.bool true, .bool false, .slice A3 (q.bytes.length + b.length) c3], R, row8 (.slice A3 (q.bytes.length + b.length) c3) (q.bytes ++ b)]) (sl_put HS.out 0 rfl 2 _) ?_
      clear m0 m1 m2 f2 hg_
      intro w3 hs
      replace HS := Aside0.mk hs
      clear hs
      have m0 := (blk_cell (sl_blk HS.out 0 rfl) 0).trans (show _ = some (Value.bool true) from rfl)
      have m1 := (blk_cell (sl_blk HS.out 0 rfl) 1).trans (show _ = some (Value.bool false) from rfl)
      have m2 := (blk_cell (sl_blk HS.out 0 rfl) 2).trans (show _ = some (Value.slice A3 (q.bytes.length + b.length) c3) from rfl)
      have f2 := blk_frozen (sl_blk HS.out 0 rfl) 2
      have hg_ := blk_lt (sl_blk HS.out 0 rfl)
      have f1 := blk_frozen (sl_blk HS.out 0 rfl) 1
      have q1 : (0 : Int) ≤ n := s0'
      have q2 : n ≤ ((q.bytes.length : Int) + (b.length : Int)) := by omega
      go_wp2_with (first
        | (go_at_call 13; refine (Split_len (by repeat (with_reducible first | exact HS.out | apply sl_drewN | apply sl_drew | apply sl_alloc)) A3 c3 _ (q.bytes ++ b) HLn.out.symm (by have := HL.out; have := HLn.out; omega) HB.out (by exact sl_reads' flat8 (by repeat (with_reducible first | exact HS.out | apply sl_drewN | apply sl_drew | apply sl_alloc)) 2 (by rfl)) (by have := sl_cap flat8 (by repeat (with_reducible first | exact HS.out | apply sl_drewN | apply sl_drew | apply sl_alloc)) 2 (by rfl); have := HLn.out; omega) HSP.out).mono ?_; rintro e w1 ⟨A5, c5, rfl, hs⟩; clear m0 m1 m2 f1 f2 hg_; (try simp only [World.size_alloc] at hs); replace HS := Aside0.mk hs; clear hs; have m0 := (blk_cell (sl_blk HS.out 0 rfl) 0).trans (show _ = some (Value.bool true) from rfl); have m1 := (blk_cell (sl_blk HS.out 0 rfl) 1).trans (show _ = some (Value.bool false) from rfl); have m2 := (blk_cell (sl_blk HS.out 0 rfl) 2).trans (show _ = some (Value.slice A3 (q.bytes.length + b.length) c3) from rfl); have f2 := blk_frozen (sl_blk HS.out 0 rfl) 2; have hg_ := blk_lt (sl_blk HS.out 0 rfl); have f1 := blk_frozen (sl_blk HS.out 0 rfl) 1)
        | (at_builtin; refine app8n (by repeat (with_reducible first | exact HS.out | apply sl_drewN | apply sl_drew | apply sl_alloc)) ((q.bytes ++ b).drop n.toNat) rfl (.const (.slice none 0 0)) (.tmp 58) rfl rfl rfl ?hy ?hl ?_; (case hy => exact drop8 (by exact sl_reads' flat8 (by repeat (with_reducible first | exact HS.out | apply sl_drewN | apply sl_drew | apply sl_alloc)) 2 (by rfl)) (by have := sl_cap flat8 (by repeat (with_reducible first | exact HS.out | apply sl_drewN | apply sl_drew | apply sl_alloc)) 2 (by rfl); have := HLn.out; omega) (by have := HLn.out; omega) HLn.out.symm); (case hl => have := HL.out; omega); clear m0 m1 m2 f1 f2 hg_; intro A7 c7 w4 hs; (try simp only [World.size_alloc] at hs); replace HS := Aside0.mk hs; clear hs; have m0 := (blk_cell (sl_blk HS.out 0 rfl) 0).trans (show _ = some (Value.bool true) from rfl); have m1 := (blk_cell (sl_blk HS.out 0 rfl) 1).trans (show _ = some (Value.bool false) from rfl); have m2 := (blk_cell (sl_blk HS.out 0 rfl) 2).trans (show _ = some (Value.slice A3 (q.bytes.length + b.length) c3) from rfl); have f2 := blk_frozen (sl_blk HS.out 0 rfl) 2; have hg_ := blk_lt (sl_blk HS.out 0 rfl); have f1 := blk_frozen (sl_blk HS.out 0 rfl) 1))
      all_goals
        go_ret2
        refine ⟨A5, c5, rfl, ?_⟩
        have hk : ((q.bytes ++ b).drop n.toNat).length = q.bytes.length + b.length - n.toNat := by rw [List.length_drop, List.length_append]
        rw [← hk]
        have h1 := sl_put HS.out 0 rfl 2 (.slice A7 ((q.bytes ++ b).drop n.toNat).length c7)
        have h2 := sl_close (A := fun v => cellsR g 44 #[.bool true, .bool false, v]) (B := fun v => row8 v ((q.bytes ++ b).drop n.toNat)) (.slice A7 ((q.bytes ++ b).drop n.toNat).length c7) h1 0 4 (by decide) rfl rfl
        exact sl_pick h2 [0, 1, 3] (by decide) rfl
    · have bn : (er != 0) = true := bne_iff_ne.2 he
      simp only [he, if_false]
      clear hlen
      go_enter Try.func17, Try.ntmps17
      go_upto_region 6 with (first
        | (at_builtin; refine app8 (by repeat (with_reducible first | exact HS.out | apply sl_drewN | apply sl_drew | apply sl_alloc)) 2 (.slice A1 q.bytes.length c1) q.bytes b rfl (.tmp 28) (.tmp 29) rfl rfl rfl (by rfl) HR.out (by have := HL.out; omega) ?_; clear m0 m1 m2 f2 hg_; intro A3 c3 w2 hs; (try simp only [World.size_alloc] at hs); replace HS := Aside0.mk hs; clear hs; have m0 := (blk_cell (sl_blk HS.out 0 rfl) 0).trans (show _ = some (Value.bool true) from rfl); have m1 := (blk_cell (sl_blk HS.out 0 rfl) 1).trans (show _ = some (Value.bool false) from rfl); have m2 := (blk_cell (sl_blk HS.out 0 rfl) 2).trans (show _ = some (Value.slice A1 q.bytes.length c1) from rfl); have f2 := blk_frozen (sl_blk HS.out 0 rfl) 2; have hg_ := blk_lt (sl_blk HS.out 0 rfl)))
      refine world_gen (F := fun w_ => Code.wp Try.prog _ _ _ w_) (fun w_ => SL w0 w_ [cellsR g 44 #[.bool true, .bool false, .slice A3 (q.bytes.length + b.length) c3], R, row8 (.slice A3 (q.bytes.length + b.length) c3) (q.bytes ++ b)]) (sl_put HS.out 0 rfl 2 _) ?_
      clear m0 m1 m2 f2 hg_
      intro w3 hs
      replace HS := Aside0.mk hs
      clear hs
      have m0 := (blk_cell (sl_blk HS.out 0 rfl) 0).trans (show _ = some (Value.bool true) from rfl)
      have m1 := (blk_cell (sl_blk HS.out 0 rfl) 1).trans (show _ = some (Value.bool false) from rfl)
      have m2 := (blk_cell (sl_blk HS.out 0 rfl) 2).trans (show _ = some (Value.slice A3 (q.bytes.length + b.length) c3) from rfl)
      have f2 := blk_frozen (sl_blk HS.out 0 rfl) 2
      have hg_ := blk_lt (sl_blk HS.out 0 rfl)
      have f1 := blk_frozen (sl_blk HS.out 0 rfl) 1
      go_wp2_with (first
        | (go_at_call 13; refine (Split_len (by repeat (with_reducible first | exact HS.out | apply sl_drewN | apply sl_drew | apply sl_alloc)) A3 c3 _ (q.bytes ++ b) HLn.out.symm (by have := HL.out; have := HLn.out; omega) HB.out (by exact sl_reads' flat8 (by repeat (with_reducible first | exact HS.out | apply sl_drewN | apply sl_drew | apply sl_alloc)) 2 (by rfl)) (by have := sl_cap flat8 (by repeat (with_reducible first | exact HS.out | apply sl_drewN | apply sl_drew | apply sl_alloc)) 2 (by rfl); have := HLn.out; omega) HSP.out).mono ?_; rintro e w1 ⟨A5, c5, rfl, hs⟩; clear m0 m1 m2 f1 f2 hg_; (try simp only [World.size_alloc] at hs); replace HS := Aside0.mk hs; clear hs; have m0 := (blk_cell (sl_blk HS.out 0 rfl) 0).trans (show _ = some (Value.bool true) from rfl); have m1 := (blk_cell (sl_blk HS.out 0 rfl) 1).trans (show _ = some (Value.bool false) from rfl); have m2 := (blk_cell (sl_blk HS.out 0 rfl) 2).trans (show _ = some (Value.slice A3 (q.bytes.length + b.length) c3) from rfl); have f2 := blk_frozen (sl_blk HS.out 0 rfl) 2; have hg_ := blk_lt (sl_blk HS.out 0 rfl); have f1 := blk_frozen (sl_blk HS.out 0 rfl) 1))
      go_ret2
      refine ⟨A5, c5, rfl, ?_⟩
      have h1 := sl_nil (sl_put (sl_put HS.out 0 rfl 1 (.bool true)) 0 rfl 2 (.slice none 0 0)) (Kd.int .u8) enc8 5
      have h2 := sl_close (A := fun v => cellsR g 44 #[.bool true, .bool true, v]) (B := fun v => row8 v []) (.slice none 0 0) h1 0 4 (by decide) rfl rfl
      exact sl_pick h2 [0, 1, 3] (by decide) rfl
  · have E1 := Aside0.mk (show feedF q b = [] ∧ feedE q b = 20 ∧ feedS q b = q by unfold feedF feedE feedS; rw [hcl]; exact ⟨rfl, rfl, rfl⟩)
    rw [hcl] at m1
    go_enter Try.func17, Try.ntmps17
    go_wp2
    try rw [Exit.noGoto_ret]

    go_ret2
    refine ⟨none, 0, ?_, ?_⟩
    · rw [E1.out.1, E1.out.2.1]; rfl
    · rw [E1.out.1, E1.out.2.2]
      exact sl_nilN HS0.out k25 25
theorem Feed_sl {w0 w : World} {L : List Res} (h : SL w0 w L) (i : Nat) {g : Nat} {q : DSt} (A : Option Addr) (c : Nat) (b : List Int) (hi : L[i]? = some (decR g q)) (hr : Kd.C (Kd.int .u8) w A b.length b) (hc : b.length ≤ c) (hq : ∀ x ∈ q.bytes, 0 ≤ x ∧ x < 256) (hb : ∀ x ∈ b, 0 ≤ x ∧ x < 256) (hl : q.bytes.length + b.length ≤ 1000000) :
    Calls Try.prog 17 #[.pointer (some ⟨g, 0, none⟩), .slice A b.length c] w fun e w' => ∃ A' c', e = .returned (.tuple #[.slice A' (feedF q b).length c', .int .i64 (feedE q b)]) ∧ SL w0 w' (L.set i (decR g (feedS q b)) ++ [rowF w0 (.slice A' (feedF q b).length c') (feedF q b)]) := by
  obtain ⟨S, h1, h2⟩ := sl_lift h hi
  refine (Feed_in g q A c b h1 hr hc hq hb hl).mono ?_
  rintro e w' ⟨A', c', h3, h4⟩
  exact ⟨A', c', h3, h2 _ _ _ h4⟩
theorem feedS_byte {q : DSt} {b : List Int} (hq : ∀ x ∈ q.bytes, 0 ≤ x ∧ x < 256) (hb : ∀ x ∈ b, 0 ≤ x ∧ x < 256) : ∀ x ∈ (feedS q b).bytes, 0 ≤ x ∧ x < 256 := by
  unfold feedS
  split
  · exact hq
  split
  · exact bytes_drop (bytes_app hq hb) _
  · simp
theorem feedS_len (q : DSt) (b : List Int) : (feedS q b).bytes.length ≤ q.bytes.length + b.length := by
  unfold feedS
  split
  · omega
  split
  · simp only [List.length_drop, List.length_append]; omega
  · simp
end Go.Proofs.Ytipmcklkflgppaa.Q
