import Derived.Test.YtipmcklkflgppaaSb
import Derived.Test.YtipmcklkflgppaaQx10
namespace Go.Proofs.Ytipmcklkflgppaa.Q
open Go.RowKit Go.Proofs.YtipmcklkflgppaaW.PrintWords Go.Proofs.YtipmcklkflgppaaW.PrintLast Go.Proofs.YtipmcklkflgppaaW.PrintMore Go.Proofs.Ytipmcklkflgppaa.Sl Go.Proofs.Ytipmcklkflgppaa.Hand Go.Proofs.Ytipmcklkflgppaa.Plain
attribute [local go_sem] max2_int min2_int max_two min_two max_three min_three max_four min_four 
set_option linter.unusedVariables false
set_option linter.unusedSimpArgs false

/-! ### The reference's decoder -/
theorem rSplit_sl {w0 w : World} {L : List Res} (h : SL w0 w L) (A : Option Addr) (c : Nat) (l : List Int) (hl : l.length ≤ 1000000) (hb : ∀ x ∈ l, 0 ≤ x ∧ x < 256) (hr : Kd.C (Kd.int .u8) w A l.length l) (hc : l.length ≤ c) {fs : List S25} {n er : Int} (hs : sp l = (fs, n, er)) :
    Calls Try.prog 14 #[.slice A l.length c] w fun e w' => ∃ A' c', e = .returned (.tuple #[.slice A' fs.length c', .int .i64 n, .int .i64 er]) ∧ SL w0 w' (L ++ [rowS w.heap.size k25 25 (.slice A' fs.length c') fs]) := by
  refine (compositorref02_Split.calls (2 * (l.length + 1)) A c l _ _ _ w hr hc ((refSplit_f hb hl (l.length + 1) (by omega) _ (by omega)).trans (congrArg some ((sp_splitS hb _ (by omega)).trans hs)))).mono ?_
  rintro e w' ⟨v, rfl, h5, h6⟩
  obtain ⟨A', c', rfl⟩ := Kd.S_slice h5
  exact ⟨A', c', rfl, sl_newT h h6 h5⟩
theorem rSplit_len {w0 w : World} {L : List Res} (h : SL w0 w L) (A : Option Addr) (c m : Nat) (l : List Int) (hm : m = l.length) (hl : l.length ≤ 1000000) (hb : ∀ x ∈ l, 0 ≤ x ∧ x < 256) (hr : Kd.C (Kd.int .u8) w A l.length l) (hc : l.length ≤ c) {fs : List S25} {n er : Int} (hs : sp l = (fs, n, er)) :
    Calls Try.prog 14 #[.slice A m c] w fun e w' => ∃ A' c', e = .returned (.tuple #[.slice A' fs.length c', .int .i64 n, .int .i64 er]) ∧ SL w0 w' (L ++ [rowS w.heap.size k25 25 (.slice A' fs.length c') fs]) := by
  subst hm
  exact rSplit_sl h A c l hl hb hr hc hs
theorem rNew_calls (w : World) : Calls Try.prog 20 #[] w fun e w' => e = .returned (.agg #[.slice none 0 0, .bool false]) ∧ Below w.heap.size w w' := by
  have HB := Aside0.mk (Below.refl w.heap.size w)
  go_enter Try.func20, Try.ntmps20
  go_wp2_with (first
    | ((with_reducible refine gate_dst (N := 0) rfl ?_); refine box_event ?hg (N := 0) ?hd (cs := #[.slice none 0 0, .bool false]) (t := 49) ?hr ?_; (case hd => rfl); (case hg => rfl); (case hr => first | (go_simp; done) | (go_simp; rfl)); intro g4 hg w2 hbox hb; have HY := Aside0.mk hbox; have HB := Aside0.mk hb; have GE := Aside0.mk (show w.heap.size ≤ g4 by omega); have y0 := (blk_cell HY.out 0).trans (show _ = some (Value.slice none 0 0) from rfl); have y1 := (blk_cell HY.out 1).trans (show _ = some (Value.bool false) from rfl); have yf0 := blk_frozen HY.out 0; have yf1 := blk_frozen HY.out 1; have hl2 := blk_lt HY.out; clear hbox hb hg))
  try simp only [Exit.inBlock, Exit.then]
  refine bodyPost_ret (results_cell_row rfl _ _ g4 49 #[.slice none 0 0, .bool false] (0, 0) _ rfl (by exact blk_set (blk_set HY.out 0 _) 1 _) Try.underlying49 rfl (by kernel_rfl)) rfl ?_
  exact ⟨rfl, below_set (below_set HB.out GE.out) GE.out⟩
theorem rBuf_calls (A : Option Addr) (n c : Nat) (cl : Bool) (w : World) : Calls Try.prog 22 #[.agg #[.slice A n c, .bool cl]] w fun e w' => e = .returned (.int .i64 (n : Int)) ∧ Below w.heap.size w w' := by
  have HB := Aside0.mk (Below.refl w.heap.size w)
  go_enter Try.func22, Try.ntmps22
  go_wp2_with (first
    | ((with_reducible refine gate_dst (N := 1) rfl ?_); refine box_event ?hg (N := 1) ?hd (cs := #[.slice A n c, .bool cl]) (t := 49) ?hr ?_; (case hd => rfl); (case hg => rfl); (case hr => first | (go_simp; done) | (go_simp; rfl)); intro g2 hg w2 hbox hb; have HY := Aside0.mk hbox; have HB := Aside0.mk hb; have y0 := (blk_cell HY.out 0).trans (show _ = some (Value.slice A n c) from rfl); have hl2 := blk_lt HY.out; clear hbox hb hg))
  go_ret
  exact ⟨rfl, HB.out⟩
set_option maxHeartbeats 4000000 in
set_option maxRecDepth 100000 in
theorem rFeed_in (q : DSt) (A : Option Addr) (c : Nat) (B : Option Addr) (cb : Nat) (b : List Int) (w : World) (hA : Kd.C (Kd.int .u8) w A q.bytes.length q.bytes) (hz : q.closed = true → q.bytes = [] ∧ A = none ∧ c = 0) (hr : Kd.C (Kd.int .u8) w B b.length b) (hq : ∀ x ∈ q.bytes, 0 ≤ x ∧ x < 256) (hb : ∀ x ∈ b, 0 ≤ x ∧ x < 256) (hl : q.bytes.length + b.length ≤ 1000000) :
    Calls Try.prog 21 #[.agg #[.slice A q.bytes.length c, .bool q.closed], .slice B b.length cb] w fun e w' => ∃ A' c' Af cf, e = .returned (.tuple #[.agg #[.slice A' (feedS q b).bytes.length c', .bool (feedS q b).closed], .slice Af (feedF q b).length cf, .int .i64 (feedE q b)]) ∧ ((feedS q b).closed = true → A' = none ∧ c' = 0) ∧
      ∃ bs, w.heap.size ≤ bs ∧ SL w w' [row8 (.slice A' (feedS q b).bytes.length c') (feedS q b).bytes, rowS bs k25 25 (.slice Af (feedF q b).length cf) (feedF q b)] := by
  have HA := Aside0.mk hA
  have HR := Aside0.mk hr
  have HL := Aside0.mk hl
  have HBy := Aside0.mk (bytes_app hq hb)
  have HS := Aside0.mk (sl_start w)
  clear hA hr hl hq hb
  cases hcl : q.closed
  · have E1 := Aside0.mk (show feedF q b = (sp (q.bytes ++ b)).1 ∧ feedE q b = (sp (q.bytes ++ b)).2.2 by unfold feedF feedE; rw [hcl]; exact ⟨rfl, rfl⟩)
    have E2 := Aside0.mk (show feedS q b = if (sp (q.bytes ++ b)).2.2 = 0 then ⟨false, (q.bytes ++ b).drop (sp (q.bytes ++ b)).2.1.toNat⟩ else ⟨true, []⟩ by unfold feedS; rw [hcl]; rfl)
    have hsr := sp_range _ (Nat.lt_succ_self (q.bytes ++ b).length) HBy.out
    obtain ⟨fs, n, er, hsp⟩ : ∃ fs n er, sp (q.bytes ++ b) = (fs, n, er) := ⟨_, _, _, rfl⟩
    rw [hsp] at E1 E2 hsr
    rw [E1.out.1, E1.out.2, E2.out]
    have HSP := Aside0.mk hsp
    have HLn := Aside0.mk (show (q.bytes ++ b).length = q.bytes.length + b.length from List.length_append)
    obtain ⟨s0, s1, _, _⟩ := hsr
    rw [HLn.out] at s1
    have q1 : (0 : Int) ≤ n := s0
    have q2 : n ≤ ((q.bytes.length : Int) + (b.length : Int)) := by
      have : n ≤ ((q.bytes.length + b.length : Nat) : Int) := s1
      omega
    clear s0 s1
    by_cases he : er = 0
    · subst he
      have bn : ((0 : Int) != 0) = false := rfl
      simp only [if_true]
      go_enter Try.func21, Try.ntmps21
      go_wp2_with (first
        | ((with_reducible refine gate_dst (N := 2) rfl ?_); refine box_event ?hg (N := 2) ?hd (cs := #[.slice A q.bytes.length c, .bool false]) (t := 49) ?hr ?_; (case hd => rfl); (case hg => rfl); (case hr => first | (go_simp; done) | (go_simp; rfl)); intro g2 hg w1 hbox hb; have HS := Aside0.mk (sl_box' HS.out hb (by omega) hbox); clear hbox hb hg)
        | ((with_reducible refine gate_dst (N := 4) rfl ?_); refine box_event ?hg (N := 4) ?hd (cs := #[.slice none 0 0, .bool false]) (t := 49) ?hr ?_; (case hd => rfl); (case hg => rfl); (case hr => first | (go_simp; done) | (go_simp; rfl)); intro g4 hg w2 hbox hb; have HS := Aside0.mk (sl_box' HS.out hb (by omega) hbox); have x0 := (blk_cell (sl_blk HS.out 0 rfl) 0).trans (show _ = some (Value.slice A q.bytes.length c) from rfl); have x1 := (blk_cell (sl_blk HS.out 0 rfl) 1).trans (show _ = some (Value.bool false) from rfl); have y0 := (blk_cell (sl_blk HS.out 1 rfl) 0).trans (show _ = some (Value.slice none 0 0) from rfl); have y1 := (blk_cell (sl_blk HS.out 1 rfl) 1).trans (show _ = some (Value.bool false) from rfl); have yf0 := blk_frozen (sl_blk HS.out 1 rfl) 0; have yf1 := blk_frozen (sl_blk HS.out 1 rfl) 1; have hl1 := blk_lt (sl_blk HS.out 0 rfl); have hl2 := blk_lt (sl_blk HS.out 1 rfl); clear hbox hb hg)
        | (at_builtin; refine app8n (by repeat (with_reducible first | exact HS.out | apply sl_drewN | apply sl_drew | apply sl_alloc)) q.bytes rfl (.tmp 14) (.tmp 16) rfl rfl rfl (Kd.C_below HA.out (sl_below0 (by repeat (with_reducible first | exact HS.out | apply sl_drewN | apply sl_drew | apply sl_alloc)))) (by have := HL.out; omega) ?_; clear x0 x1 y0 y1 yf0 yf1 hl1 hl2; intro A3 c3 w3 hs; (try simp only [World.size_alloc] at hs); replace HS := Aside0.mk hs; clear hs; have x0 := (blk_cell (sl_blk HS.out 0 rfl) 0).trans (show _ = some (Value.slice A q.bytes.length c) from rfl); have x1 := (blk_cell (sl_blk HS.out 0 rfl) 1).trans (show _ = some (Value.bool false) from rfl); have y0 := (blk_cell (sl_blk HS.out 1 rfl) 0).trans (show _ = some (Value.slice none 0 0) from rfl); have y1 := (blk_cell (sl_blk HS.out 1 rfl) 1).trans (show _ = some (Value.bool false) from rfl); have yf0 := blk_frozen (sl_blk HS.out 1 rfl) 0; have yf1 := blk_frozen (sl_blk HS.out 1 rfl) 1; have hl1 := blk_lt (sl_blk HS.out 0 rfl); have hl2 := blk_lt (sl_blk HS.out 1 rfl))
        | (at_builtin; refine app8 (by repeat (with_reducible first | exact HS.out | apply sl_drewN | apply sl_drew | apply sl_alloc)) 2 (.slice A3 q.bytes.length c3) q.bytes b rfl (.tmp 18) (.tmp 19) rfl rfl rfl (by rfl) (Kd.C_below HR.out (sl_below0 (by repeat (with_reducible first | exact HS.out | apply sl_drewN | apply sl_drew | apply sl_alloc)))) (by have := HL.out; omega) ?_; clear x0 x1 y0 y1 yf0 yf1 hl1 hl2; intro A4 c4 w4 hs; (try simp only [World.size_alloc] at hs); replace HS := Aside0.mk hs; clear hs; have x0 := (blk_cell (sl_blk HS.out 0 rfl) 0).trans (show _ = some (Value.slice A q.bytes.length c) from rfl); have x1 := (blk_cell (sl_blk HS.out 0 rfl) 1).trans (show _ = some (Value.bool false) from rfl); have y0 := (blk_cell (sl_blk HS.out 1 rfl) 0).trans (show _ = some (Value.slice none 0 0) from rfl); have y1 := (blk_cell (sl_blk HS.out 1 rfl) 1).trans (show _ = some (Value.bool false) from rfl); have yf0 := blk_frozen (sl_blk HS.out 1 rfl) 0; have yf1 := blk_frozen (sl_blk HS.out 1 rfl) 1; have hl1 := blk_lt (sl_blk HS.out 0 rfl); have hl2 := blk_lt (sl_blk HS.out 1 rfl))
        | (go_at_call 14; refine (rSplit_len (by repeat (with_reducible first | exact HS.out | apply sl_drewN | apply sl_drew | apply sl_alloc)) A4 c4 _ (q.bytes ++ b) HLn.out.symm (by have := HL.out; have := HLn.out; omega) HBy.out (by exact sl_reads' flat8 (by repeat (with_reducible first | exact HS.out | apply sl_drewN | apply sl_drew | apply sl_alloc)) 2 (by rfl)) (by have := sl_cap flat8 (by repeat (with_reducible first | exact HS.out | apply sl_drewN | apply sl_drew | apply sl_alloc)) 2 (by rfl); have := HLn.out; omega) HSP.out).mono ?_; rintro e w5 ⟨A5, c5, rfl, hs⟩; have HBS := Aside0.mk (show w.heap.size ≤ w4.heap.size from (sl_below0 HS.out).size); clear x0 x1 y0 y1 yf0 yf1 hl1 hl2; (try simp only [World.size_alloc] at hs); replace HS := Aside0.mk hs; clear hs; have x0 := (blk_cell (sl_blk HS.out 0 rfl) 0).trans (show _ = some (Value.slice A q.bytes.length c) from rfl); have x1 := (blk_cell (sl_blk HS.out 0 rfl) 1).trans (show _ = some (Value.bool false) from rfl); have y0 := (blk_cell (sl_blk HS.out 1 rfl) 0).trans (show _ = some (Value.slice none 0 0) from rfl); have y1 := (blk_cell (sl_blk HS.out 1 rfl) 1).trans (show _ = some (Value.bool false) from rfl); have yf0 := blk_frozen (sl_blk HS.out 1 rfl) 0; have yf1 := blk_frozen (sl_blk HS.out 1 rfl) 1; have hl1 := blk_lt (sl_blk HS.out 0 rfl); have hl2 := blk_lt (sl_blk HS.out 1 rfl)))
      all_goals
        try simp only [Exit.inBlock, Exit.then]
        refine bodyPost_ret (results_ctt rfl _ _ g4 49 _ (0, 0) _ rfl (by exact blk_set (blk_set (sl_blk HS.out 1 rfl) 0 _) 1 _) Try.underlying49 rfl (by kernel_rfl)) rfl ?_
        have h2 := sl_drop8 HS.out 2 (k := n.toNat) rfl (by have := HLn.out; omega)
        first | (have hcn : c4 = n.toNat := by assumption
                 rw [if_pos hcn, hcn, Nat.sub_self] at h2) | rw [if_neg (by assumption)] at h2
        exact ⟨_, _, _, _, rfl, _, HBS.out, sl_pick (sl_put (sl_put h2 1 rfl 0 _) 1 rfl 1 _) [2, 3] (by decide) rfl⟩
    · have bn : (er != 0) = true := bne_iff_ne.2 he
      simp only [he, if_false]
      go_enter Try.func21, Try.ntmps21
      go_wp2_with (first
        | ((with_reducible refine gate_dst (N := 2) rfl ?_); refine box_event ?hg (N := 2) ?hd (cs := #[.slice A q.bytes.length c, .bool false]) (t := 49) ?hr ?_; (case hd => rfl); (case hg => rfl); (case hr => first | (go_simp; done) | (go_simp; rfl)); intro g2 hg w1 hbox hb; have HS := Aside0.mk (sl_box' HS.out hb (by omega) hbox); clear hbox hb hg)
        | ((with_reducible refine gate_dst (N := 4) rfl ?_); refine box_event ?hg (N := 4) ?hd (cs := #[.slice none 0 0, .bool false]) (t := 49) ?hr ?_; (case hd => rfl); (case hg => rfl); (case hr => first | (go_simp; done) | (go_simp; rfl)); intro g4 hg w2 hbox hb; have HS := Aside0.mk (sl_box' HS.out hb (by omega) hbox); have x0 := (blk_cell (sl_blk HS.out 0 rfl) 0).trans (show _ = some (Value.slice A q.bytes.length c) from rfl); have x1 := (blk_cell (sl_blk HS.out 0 rfl) 1).trans (show _ = some (Value.bool false) from rfl); have y0 := (blk_cell (sl_blk HS.out 1 rfl) 0).trans (show _ = some (Value.slice none 0 0) from rfl); have y1 := (blk_cell (sl_blk HS.out 1 rfl) 1).trans (show _ = some (Value.bool false) from rfl); have yf0 := blk_frozen (sl_blk HS.out 1 rfl) 0; have yf1 := blk_frozen (sl_blk HS.out 1 rfl) 1; have hl1 := blk_lt (sl_blk HS.out 0 rfl); have hl2 := blk_lt (sl_blk HS.out 1 rfl); clear hbox hb hg)
        | (at_builtin; refine app8n (by repeat (with_reducible first | exact HS.out | apply sl_drewN | apply sl_drew | apply sl_alloc)) q.bytes rfl (.tmp 14) (.tmp 16) rfl rfl rfl (Kd.C_below HA.out (sl_below0 (by repeat (with_reducible first | exact HS.out | apply sl_drewN | apply sl_drew | apply sl_alloc)))) (by have := HL.out; omega) ?_; clear x0 x1 y0 y1 yf0 yf1 hl1 hl2; intro A3 c3 w3 hs; (try simp only [World.size_alloc] at hs); replace HS := Aside0.mk hs; clear hs; have x0 := (blk_cell (sl_blk HS.out 0 rfl) 0).trans (show _ = some (Value.slice A q.bytes.length c) from rfl); have x1 := (blk_cell (sl_blk HS.out 0 rfl) 1).trans (show _ = some (Value.bool false) from rfl); have y0 := (blk_cell (sl_blk HS.out 1 rfl) 0).trans (show _ = some (Value.slice none 0 0) from rfl); have y1 := (blk_cell (sl_blk HS.out 1 rfl) 1).trans (show _ = some (Value.bool false) from rfl); have yf0 := blk_frozen (sl_blk HS.out 1 rfl) 0; have yf1 := blk_frozen (sl_blk HS.out 1 rfl) 1; have hl1 := blk_lt (sl_blk HS.out 0 rfl); have hl2 := blk_lt (sl_blk HS.out 1 rfl))
        | (at_builtin; refine app8 (by repeat (with_reducible first | exact HS.out | apply sl_drewN | apply sl_drew | apply sl_alloc)) 2 (.slice A3 q.bytes.length c3) q.bytes b rfl (.tmp 18) (.tmp 19) rfl rfl rfl (by rfl) (Kd.C_below HR.out (sl_below0 (by repeat (with_reducible first | exact HS.out | apply sl_drewN | apply sl_drew | apply sl_alloc)))) (by have := HL.out; omega) ?_; clear x0 x1 y0 y1 yf0 yf1 hl1 hl2; intro A4 c4 w4 hs; (try simp only [World.size_alloc] at hs); replace HS := Aside0.mk hs; clear hs; have x0 := (blk_cell (sl_blk HS.out 0 rfl) 0).trans (show _ = some (Value.slice A q.bytes.length c) from rfl); have x1 := (blk_cell (sl_blk HS.out 0 rfl) 1).trans (show _ = some (Value.bool false) from rfl); have y0 := (blk_cell (sl_blk HS.out 1 rfl) 0).trans (show _ = some (Value.slice none 0 0) from rfl); have y1 := (blk_cell (sl_blk HS.out 1 rfl) 1).trans (show _ = some (Value.bool false) from rfl); have yf0 := blk_frozen (sl_blk HS.out 1 rfl) 0; have yf1 := blk_frozen (sl_blk HS.out 1 rfl) 1; have hl1 := blk_lt (sl_blk HS.out 0 rfl); have hl2 := blk_lt (sl_blk HS.out 1 rfl))
        | (go_at_call 14; refine (rSplit_len (by repeat (with_reducible first | exact HS.out | apply sl_drewN | apply sl_drew | apply sl_alloc)) A4 c4 _ (q.bytes ++ b) HLn.out.symm (by have := HL.out; have := HLn.out; omega) HBy.out (by exact sl_reads' flat8 (by repeat (with_reducible first | exact HS.out | apply sl_drewN | apply sl_drew | apply sl_alloc)) 2 (by rfl)) (by have := sl_cap flat8 (by repeat (with_reducible first | exact HS.out | apply sl_drewN | apply sl_drew | apply sl_alloc)) 2 (by rfl); have := HLn.out; omega) HSP.out).mono ?_; rintro e w5 ⟨A5, c5, rfl, hs⟩; have HBS := Aside0.mk (show w.heap.size ≤ w4.heap.size from (sl_below0 HS.out).size); clear x0 x1 y0 y1 yf0 yf1 hl1 hl2; (try simp only [World.size_alloc] at hs); replace HS := Aside0.mk hs; clear hs; have x0 := (blk_cell (sl_blk HS.out 0 rfl) 0).trans (show _ = some (Value.slice A q.bytes.length c) from rfl); have x1 := (blk_cell (sl_blk HS.out 0 rfl) 1).trans (show _ = some (Value.bool false) from rfl); have y0 := (blk_cell (sl_blk HS.out 1 rfl) 0).trans (show _ = some (Value.slice none 0 0) from rfl); have y1 := (blk_cell (sl_blk HS.out 1 rfl) 1).trans (show _ = some (Value.bool false) from rfl); have yf0 := blk_frozen (sl_blk HS.out 1 rfl) 0; have yf1 := blk_frozen (sl_blk HS.out 1 rfl) 1; have hl1 := blk_lt (sl_blk HS.out 0 rfl); have hl2 := blk_lt (sl_blk HS.out 1 rfl)))
      try simp only [Exit.inBlock, Exit.then]
      refine bodyPost_ret (results_ctt rfl _ _ g4 49 _ (0, 0) _ rfl (by exact blk_set (blk_set (sl_blk HS.out 1 rfl) 0 _) 1 _) Try.underlying49 rfl (by kernel_rfl)) rfl ?_
      have h3 := sl_nil (sl_put (sl_put HS.out 1 rfl 0 (.slice none 0 0)) 1 rfl 1 (.bool true)) (Kd.int .u8) enc8 5
      exact ⟨_, _, _, _, rfl, fun _ => ⟨rfl, rfl⟩, _, HBS.out, sl_pick h3 [4, 3] (by decide) rfl⟩
  · have E1 := Aside0.mk (show feedF q b = [] ∧ feedE q b = 20 ∧ feedS q b = q by unfold feedF feedE feedS; rw [hcl]; exact ⟨rfl, rfl, rfl⟩)
    obtain ⟨z1, rfl, rfl⟩ := hz hcl
    rw [E1.out.1, E1.out.2.1, E1.out.2.2, z1, hcl]
    go_enter Try.func21, Try.ntmps21
    go_wp2_with (first
      | ((with_reducible refine gate_dst (N := 2) rfl ?_); refine box_event ?hg (N := 2) ?hd (cs := #[.slice none 0 0, .bool true]) (t := 49) ?hr ?_; (case hd => rfl); (case hg => rfl); (case hr => first | (go_simp; done) | (go_simp; rfl)); intro g2 hg w1 hbox hb; have HS := Aside0.mk (sl_box' HS.out hb (by omega) hbox); clear hbox hb hg)
      | ((with_reducible refine gate_dst (N := 4) rfl ?_); refine box_event ?hg (N := 4) ?hd (cs := #[.slice none 0 0, .bool false]) (t := 49) ?hr ?_; (case hd => rfl); (case hg => rfl); (case hr => first | (go_simp; done) | (go_simp; rfl)); intro g4 hg w2 hbox hb; have HS := Aside0.mk (sl_box' HS.out hb (by omega) hbox); have x0 := (blk_cell (sl_blk HS.out 0 rfl) 0).trans (show _ = some (Value.slice none 0 0) from rfl); have x1 := (blk_cell (sl_blk HS.out 0 rfl) 1).trans (show _ = some (Value.bool true) from rfl); have y0 := (blk_cell (sl_blk HS.out 1 rfl) 0).trans (show _ = some (Value.slice none 0 0) from rfl); have y1 := (blk_cell (sl_blk HS.out 1 rfl) 1).trans (show _ = some (Value.bool false) from rfl); have yf0 := blk_frozen (sl_blk HS.out 1 rfl) 0; have yf1 := blk_frozen (sl_blk HS.out 1 rfl) 1; have hl1 := blk_lt (sl_blk HS.out 0 rfl); have hl2 := blk_lt (sl_blk HS.out 1 rfl); clear hbox hb hg))
    try simp only [Exit.inBlock, Exit.then]
    refine bodyPost_ret (results_ctt rfl _ _ g4 49 _ (0, 0) _ rfl (by exact blk_set (blk_set (sl_blk HS.out 1 rfl) 0 _) 1 _) Try.underlying49 rfl (by kernel_rfl)) rfl ?_
    have h3 := sl_nilS (sl_nil (sl_put (sl_put HS.out 1 rfl 0 (.slice none 0 0)) 1 rfl 1 (.bool true)) (Kd.int .u8) enc8 5) w.heap.size k25 25
    exact ⟨_, _, _, _, rfl, ⟨rfl, rfl⟩, _, Nat.le_refl _, sl_pick h3 [2, 3] (by decide) rfl⟩
end Go.Proofs.Ytipmcklkflgppaa.Q
