import Derived.Test.YtockppikcghmoaaRq
namespace Go.Proofs.Ytockppikcghmoaa.Q
open Go.RowKit Go.Proofs.YtockppikcghmoaaW.PrintWords Go.Proofs.YtockppikcghmoaaW.PrintLast Go.Proofs.YtockppikcghmoaaW.PrintMore Go.Proofs.Ytockppikcghmoaa.Sl Go.Proofs.Ytockppikcghmoaa.Hand 
attribute [local go_sem] max2_int min2_int max_two min_two max_three min_three max_four min_four 
set_option linter.unusedVariables false
set_option linter.unusedSimpArgs false

set_option maxHeartbeats 4000000 in
set_option maxRecDepth 100000 in
theorem rApply_calls {s1 s2 : Value} {q : QSt} {F : Nat → Prop} {w : World} (h : (refR s1 s2 q).P w F) (hz : q.acked = false → q.next = z40) :
    Calls Try.prog 17 #[rv s1 s2 q.conf] w fun e w' => e = .returned (.tuple #[rv s1 (.slice none 0 0) (apS q).conf, .agg #[.int .u32 q.next.f0, .int .i64 q.next.f1, .int .i64 q.next.f2, .int .i64 q.next.f3], .bool q.acked]) ∧
      (refR s1 (.slice none 0 0) (apS q)).P w' (fun k => F k ∨ w.heap.size ≤ k) ∧ Below w.heap.size w w' := by
  have HH := Aside0.mk h
  obtain ⟨A, c, hs1, hc1, hr1⟩ := h.1.reads
  rw [List.length_map] at hs1 hc1 hr1
  subst hs1
  obtain ⟨A2, c2, hs2, _⟩ := h.2.reads
  have HZ := Aside0.mk hz
  generalize (dn q).length = n2 at hs2
  subst hs2
  clear h hr1 hz hc1
  cases hcf : q.conf
  · have HA := Aside0.mk (show (apS q).conf = q.acked by unfold apS; cases ha : q.acked <;> simp [hcf])
    go_enter Try.func17, Try.ntmps17
    go_wp2_with (first
      | ((with_reducible refine gate_dst (N := 1) rfl ?_); refine box_event ?hg (N := 1) ?hd (cs := #[.slice A q.wait.length c, .slice A2 n2 c2, .bool q.conf]) (t := 28) ?hr ?_; (case hd => rfl); (case hg => rfl); (case hr => first | (go_simp; done) | (go_simp; rfl)); intro gb hg w1 hbox hb; have HX := Aside0.mk hbox; have HB := Aside0.mk hb; have HGB := Aside0.mk hg; have GB := Aside0.mk (show w.heap.size ≤ gb by omega); clear hbox hb hg)
      | ((with_reducible refine gate_dst (N := 2) rfl ?_); refine box_event ?hg (N := 2) ?hd (cs := #[.slice none 0 0, .slice none 0 0, .bool false]) (t := 28) ?hr ?_; (case hd => rfl); (case hg => rfl); (case hr => first | (go_simp; done) | (go_simp; rfl)); intro gr hg w2 hbox hb; have HY := Aside0.mk hbox; have GN := Aside0.mk (show gr ≠ gb by have := blk_lt HX.out; omega); replace HX := Aside0.mk (blk_below HX.out hb); have GE := Aside0.mk (show w.heap.size ≤ gr by have := HB.out.size; omega); replace HB := Aside0.mk (below_step HB.out hb); clear hbox hb hg)
      | ((with_reducible refine gate_dst (N := 3) rfl ?_); refine box_event ?hg (N := 3) ?hd (cs := #[.int .u32 0, .int .i64 0, .int .i64 0, .int .i64 0]) (t := 43) ?hr ?_; (case hd => rfl); (case hg => rfl); (case hr => first | (go_simp; done) | (go_simp; rfl)); intro gu hg w3 hbox hb; have HU := Aside0.mk hbox; have GU := Aside0.mk (show gu ≠ gb ∧ gu ≠ gr by have := blk_lt HX.out; have := blk_lt HY.out; omega); replace HX := Aside0.mk (blk_below HX.out hb); replace HY := Aside0.mk (blk_below HY.out hb); have GV := Aside0.mk (show w.heap.size ≤ gu by have := HB.out.size; omega); replace HB := Aside0.mk (below_step HB.out hb); have hx0 := (blk_cell HX.out 0).trans (show _ = some (Value.slice A q.wait.length c) from rfl); have hx1 := (blk_cell HX.out 1).trans (show _ = some (Value.slice A2 n2 c2) from rfl); have hx2 := (blk_cell HX.out 2).trans (show _ = some (Value.bool q.conf) from rfl); clear hbox hb hg)
      | (go_at_call 19; refine (rAcked_calls' hcf (refR_below HH.out HB.out) HZ.out).mono ?_; rintro e w4 ⟨rfl, hb⟩; unfold rcfg; replace HX := Aside0.mk (blk_below HX.out hb); replace HY := Aside0.mk (blk_below HY.out hb); replace HU := Aside0.mk (blk_below HU.out hb); replace HB := Aside0.mk (below_step HB.out hb); clear hb; have hx0 := (blk_cell HX.out 0).trans (show _ = some (Value.slice A q.wait.length c) from rfl); have hx1 := (blk_cell HX.out 1).trans (show _ = some (Value.slice A2 n2 c2) from rfl); have hx2 := (blk_cell HX.out 2).trans (show _ = some (Value.bool q.conf) from rfl); have hy0 := (blk_cell HY.out 0).trans (show _ = some (Value.slice none 0 0) from rfl); have hy1 := (blk_cell HY.out 1).trans (show _ = some (Value.slice none 0 0) from rfl); have hy2 := (blk_cell HY.out 2).trans (show _ = some (Value.bool false) from rfl); have xf0 := blk_frozen HX.out 0; have xf1 := blk_frozen HX.out 1; have xf2 := blk_frozen HX.out 2; have yf0 := blk_frozen HY.out 0; have yf1 := blk_frozen HY.out 1; have yf2 := blk_frozen HY.out 2; have gn := GN.out; have gn2 := Ne.symm gn; have hl1 := blk_lt HX.out; have hl2 := blk_lt HY.out; have hu0 := (blk_cell HU.out 0).trans (show _ = some (Value.int .u32 0) from rfl); have hu1 := (blk_cell HU.out 1).trans (show _ = some (Value.int .i64 0) from rfl); have hu2 := (blk_cell HU.out 2).trans (show _ = some (Value.int .i64 0) from rfl); have hu3 := (blk_cell HU.out 3).trans (show _ = some (Value.int .i64 0) from rfl); have uf0 := blk_frozen HU.out 0; have uf1 := blk_frozen HU.out 1; have uf2 := blk_frozen HU.out 2; have uf3 := blk_frozen HU.out 3; have gu1 := GU.out.1; have gu2 := GU.out.2; have gu3 := Ne.symm gu1; have gu4 := Ne.symm gu2; have hl3 := blk_lt HU.out))
    refine world_gen (F := fun w_ => Code.wp Try.prog _ _ _ w_) (fun w_ => w_.heap[gb]? = some (.cells #[.slice A q.wait.length c, .slice none 0 0, .bool q.acked] 28 (0, 0)) ∧ w_.heap[gr]? = some (.cells #[.slice none 0 0, .slice none 0 0, .bool false] 28 (0, 0)) ∧ w_.heap[gu]? = some (.cells #[.int .u32 0, .int .i64 0, .int .i64 0, .int .i64 0] 43 (0, 0)) ∧ w_.heap[w4.heap.size]? = some (.cells #[.int .u32 q.next.f0, .int .i64 q.next.f1, .int .i64 q.next.f2, .int .i64 q.next.f3] 43 (0, 0)) ∧ Below w.heap.size w w_) ⟨by exact blk_alloc (blk_set (blk_set HX.out 1 _) 2 _) _, by exact blk_alloc (blk_far (blk_far HY.out GN.out _) GN.out _) _, by exact blk_alloc (blk_far (blk_far HU.out GU.out.1 _) GU.out.1 _) _, by simpa [World.setCell] using heap_alloc_new ((w4.setCell ⟨gb, 1, none⟩ (.slice none 0 0)).setCell ⟨gb, 2, none⟩ (.bool q.acked)) (.cells #[.int .u32 q.next.f0, .int .i64 q.next.f1, .int .i64 q.next.f2, .int .i64 q.next.f3] 43), by repeat (with_reducible first | exact HB.out | apply below_alloc | refine below_set ?_ GB.out)⟩ ?_
    obtain ⟨gt, hgt⟩ : ∃ g, g = w4.heap.size := ⟨_, rfl⟩
    have GT := Aside0.mk (show gb ≠ gt ∧ gr ≠ gt ∧ gu ≠ gt ∧ w.heap.size ≤ gt by have := HB.out.size; omega)
    rw [← hgt]
    clear HX HY HU HB hgt hx0 hx1 hx2 hy0 hy1 hy2 xf0 xf1 xf2 yf0 yf1 yf2 gn gn2 hl1 hl2 hu0 hu1 hu2 hu3 uf0 uf1 uf2 uf3 gu1 gu2 gu3 gu4 hl3
    intro w5 ⟨HX, HY, HU, HT, HB⟩
    have gtr := Ne.symm GT.out.2.1
    have gtu := Ne.symm GT.out.2.2.1
    have gn2 := Ne.symm GN.out
    have gn := GN.out
    have gu1 := GU.out.1
    have gu2 := GU.out.2
    have gu3 := Ne.symm GU.out.1
    have gu4 := Ne.symm GU.out.2
    have b0 := (blk_cell HX 0).trans (show _ = some (Value.slice A q.wait.length c) from rfl)
    have b1 := (blk_cell HX 1).trans (show _ = some (Value.slice none 0 0) from rfl)
    have b2 := (blk_cell HX 2).trans (show _ = some (Value.bool q.acked) from rfl)
    have t0 := (blk_cell HT 0).trans (show _ = some (Value.int .u32 q.next.f0) from rfl)
    have t1 := (blk_cell HT 1).trans (show _ = some (Value.int .i64 q.next.f1) from rfl)
    have t2 := (blk_cell HT 2).trans (show _ = some (Value.int .i64 q.next.f2) from rfl)
    have t3 := (blk_cell HT 3).trans (show _ = some (Value.int .i64 q.next.f3) from rfl)
    have r0 := (blk_cell HY 0).trans (show _ = some (Value.slice none 0 0) from rfl)
    have r1 := (blk_cell HY 1).trans (show _ = some (Value.slice none 0 0) from rfl)
    have r2 := (blk_cell HY 2).trans (show _ = some (Value.bool false) from rfl)
    have u0 := (blk_cell HU 0).trans (show _ = some (Value.int .u32 0) from rfl)
    have u1 := (blk_cell HU 1).trans (show _ = some (Value.int .i64 0) from rfl)
    have u2 := (blk_cell HU 2).trans (show _ = some (Value.int .i64 0) from rfl)
    have u3 := (blk_cell HU 3).trans (show _ = some (Value.int .i64 0) from rfl)
    have rf0 := blk_frozen HY 0
    have rf1 := blk_frozen HY 1
    have rf2 := blk_frozen HY 2
    have uf0 := blk_frozen HU 0
    have uf1 := blk_frozen HU 1
    have uf2 := blk_frozen HU 2
    have uf3 := blk_frozen HU 3
    replace HX := Aside0.mk HX
    replace HY := Aside0.mk HY
    replace HU := Aside0.mk HU
    replace HT := Aside0.mk HT
    replace HB := Aside0.mk HB
    refine start_ (n := 6) (S := fun w' => w'.cell? ⟨gb, 0, none⟩ = some (.slice A q.wait.length c) ∧ w'.cell? ⟨gb, 1, none⟩ = some (.slice none 0 0) ∧ w'.cell? ⟨gb, 2, none⟩ = some (.bool q.acked) ∧ w'.cell? ⟨gt, 0, none⟩ = some (.int .u32 q.next.f0) ∧ w'.cell? ⟨gt, 1, none⟩ = some (.int .i64 q.next.f1) ∧ w'.cell? ⟨gt, 2, none⟩ = some (.int .i64 q.next.f2) ∧ w'.cell? ⟨gt, 3, none⟩ = some (.int .i64 q.next.f3)) (ds := []) #[false, false, false, false, false, false] (by kernel_rfl) rfl rfl ⟨b0, b1, b2, t0, t1, t2, t3⟩ (fun hHeld => ?_)
    refine pure_ (i := 2) (N := some 21) (v := ?_) (a' := ?_) #[false, false, true, false, false, false] rfl rfl (by kernel_rfl) (fun _ _ _ h => h) (Or.inl ⟨by rfl, ?_⟩) ?_ ?_
    rotate_left
    · intro w'
      go_simp
      with_reducible rfl
    rotate_left
    · simp only [Act.put, List.setIfInBounds_toArray, List.set_cons_zero, List.set_cons_succ, i64_w, i32_w, IntKind.wrap_u32, IntKind.wrap_u8, IntKind.wrap_u16]
      rfl
    refine take_ (i := 0) (N := some 19) (v := ?_) (a' := ?_) #[true, false, true, false, false, false] rfl rfl (by kernel_rfl) (fun _ _ _ h => h) (Or.inl ⟨by rfl, ?_⟩) hHeld ?_ ?_
    rotate_left
    · rintro w' ⟨s0, s1, s2, s3, s4, s5, s6⟩
      go_simp
      with_reducible rfl
    rotate_left
    · simp only [Act.put, List.setIfInBounds_toArray, List.set_cons_zero, List.set_cons_succ, i64_w, i32_w, IntKind.wrap_u32, IntKind.wrap_u8, IntKind.wrap_u16]
      rfl
    refine take_ (i := 1) (N := some 20) (v := ?_) (a' := ?_) #[true, true, true, false, false, false] rfl rfl (by kernel_rfl) (fun _ _ _ h => h) (Or.inl ⟨by rfl, ?_⟩) hHeld ?_ ?_
    rotate_left
    · rintro w' ⟨s0, s1, s2, s3, s4, s5, s6⟩
      go_simp
      with_reducible rfl
    rotate_left
    · simp only [Act.put, List.setIfInBounds_toArray, List.set_cons_zero, List.set_cons_succ, i64_w, i32_w, IntKind.wrap_u32, IntKind.wrap_u8, IntKind.wrap_u16]
      rfl
    refine one_ (i := 3) (N := none) #[true, true, true, true, false, false] rfl rfl (by kernel_rfl) (by decide) (fun K hK => ?_)
    refine skip_ (w1 := ?_) (by rfl) rfl ?_ ?_
    rotate_left
    · go_simp
      rfl
    refine hK.out _ _ ⟨(by repeat (with_reducible first | exact b0 | apply cell_drew | refine far_cell ?_ (by exact gn2) _ | refine far_cell ?_ (by exact gtr) _)), (by repeat (with_reducible first | exact b1 | apply cell_drew | refine far_cell ?_ (by exact gn2) _ | refine far_cell ?_ (by exact gtr) _)), (by repeat (with_reducible first | exact b2 | apply cell_drew | refine far_cell ?_ (by exact gn2) _ | refine far_cell ?_ (by exact gtr) _)), (by repeat (with_reducible first | exact t0 | apply cell_drew | refine far_cell ?_ (by exact gn2) _ | refine far_cell ?_ (by exact gtr) _)), (by repeat (with_reducible first | exact t1 | apply cell_drew | refine far_cell ?_ (by exact gn2) _ | refine far_cell ?_ (by exact gtr) _)), (by repeat (with_reducible first | exact t2 | apply cell_drew | refine far_cell ?_ (by exact gn2) _ | refine far_cell ?_ (by exact gtr) _)), (by repeat (with_reducible first | exact t3 | apply cell_drew | refine far_cell ?_ (by exact gn2) _ | refine far_cell ?_ (by exact gtr) _))⟩ (fun hHeld => ?_)
    clear hK K
    refine one_ (i := 4) (N := none) #[true, true, true, true, true, false] rfl rfl (by kernel_rfl) (by decide) (fun K hK => ?_)
    refine skip_ (w1 := ?_) (by rfl) rfl ?_ ?_
    rotate_left
    · go_simp
      rfl
    refine hK.out _ _ ⟨(by repeat (with_reducible first | exact b0 | apply cell_drew | refine far_cell ?_ (by exact gn2) _ | refine far_cell ?_ (by exact gtr) _ | refine far_cell ?_ (by exact gu3) _ | refine far_cell ?_ (by exact gtu) _)), (by repeat (with_reducible first | exact b1 | apply cell_drew | refine far_cell ?_ (by exact gn2) _ | refine far_cell ?_ (by exact gtr) _ | refine far_cell ?_ (by exact gu3) _ | refine far_cell ?_ (by exact gtu) _)), (by repeat (with_reducible first | exact b2 | apply cell_drew | refine far_cell ?_ (by exact gn2) _ | refine far_cell ?_ (by exact gtr) _ | refine far_cell ?_ (by exact gu3) _ | refine far_cell ?_ (by exact gtu) _)), (by repeat (with_reducible first | exact t0 | apply cell_drew | refine far_cell ?_ (by exact gn2) _ | refine far_cell ?_ (by exact gtr) _ | refine far_cell ?_ (by exact gu3) _ | refine far_cell ?_ (by exact gtu) _)), (by repeat (with_reducible first | exact t1 | apply cell_drew | refine far_cell ?_ (by exact gn2) _ | refine far_cell ?_ (by exact gtr) _ | refine far_cell ?_ (by exact gu3) _ | refine far_cell ?_ (by exact gtu) _)), (by repeat (with_reducible first | exact t2 | apply cell_drew | refine far_cell ?_ (by exact gn2) _ | refine far_cell ?_ (by exact gtr) _ | refine far_cell ?_ (by exact gu3) _ | refine far_cell ?_ (by exact gtu) _)), (by repeat (with_reducible first | exact t3 | apply cell_drew | refine far_cell ?_ (by exact gn2) _ | refine far_cell ?_ (by exact gtr) _ | refine far_cell ?_ (by exact gu3) _ | refine far_cell ?_ (by exact gtu) _))⟩ (fun hHeld => ?_)
    clear hK K
    refine pure_ (i := 5) (N := some 4) (v := ?_) (a' := ?_) #[true, true, true, true, true, true] rfl rfl (by kernel_rfl) (fun _ _ _ h => h) (Or.inl ⟨by rfl, ?_⟩) ?_ ?_
    rotate_left
    · intro w'
      go_simp
      with_reducible rfl
    rotate_left
    · simp only [Act.put, List.setIfInBounds_toArray, List.set_cons_zero, List.set_cons_succ, i64_w, i32_w, IntKind.wrap_u32, IntKind.wrap_u8, IntKind.wrap_u16]
      rfl
    refine done_ (by kernel_rfl) ?_
    go_wp2
    refine bodyPost_ret (results_list (rs := [.cell 2 28, .cell 3 43, .tmp 4]) rfl (by simp) (.cell gr 28 #[.slice A q.wait.length c, .slice none 0 0, .bool q.acked] (0, 0) _ rfl (by exact blk_drew (blk_far (blk_far (blk_far (blk_far (blk_set (blk_set (blk_set HY.out 0 _) 1 _) 2 _) gu4 _) gu4 _) gu4 _) gu4 _)) Try.underlying28 rfl (by kernel_rfl) (.cell gu 43 #[.int .u32 q.next.f0, .int .i64 q.next.f1, .int .i64 q.next.f2, .int .i64 q.next.f3] (0, 0) _ rfl (by exact blk_drew (blk_set (blk_set (blk_set (blk_set (blk_far (blk_far (blk_far HU.out gu2 _) gu2 _) gu2 _) 0 _) 1 _) 2 _) 3 _)) Try.underlying43 rfl (by kernel_rfl) (.tmp .nil)))) rfl ?_
    rw [HA.out]
    have HBf : Below w.heap.size w _ := below_drew (below_set (below_set (below_set (below_set (below_set (below_set (below_set HB.out (j := 0) (v := .slice A q.wait.length c) GE.out) (j := 1) (v := .slice none 0 0) GE.out) (j := 2) (v := .bool q.acked) GE.out) (j := 0) (v := .int .u32 q.next.f0) GV.out) (j := 1) (v := .int .i64 q.next.f1) GV.out) (j := 2) (v := .int .i64 q.next.f2) GV.out) (j := 3) (v := .int .i64 q.next.f3) GV.out)
    refine ⟨rfl, ⟨?_, ?_⟩, HBf⟩
    · rw [show (apS q).wait = q.wait by unfold apS; cases q.acked <;> rfl]
      exact (refR_below HH.out HBf).1
    · rw [show dn (apS q) = [] by unfold dn apS; cases ha : q.acked <;> simp [ha]]
      exact FR.nil _ _ _
  · have HA := Aside0.mk (show (apS q).conf = true by unfold apS; cases ha : q.acked <;> simp [hcf])
    go_enter Try.func17, Try.ntmps17
    go_wp2_with (first
      | ((with_reducible refine gate_dst (N := 1) rfl ?_); refine box_event ?hg (N := 1) ?hd (cs := #[.slice A q.wait.length c, .slice A2 n2 c2, .bool q.conf]) (t := 28) ?hr ?_; (case hd => rfl); (case hg => rfl); (case hr => first | (go_simp; done) | (go_simp; rfl)); intro gb hg w1 hbox hb; have HX := Aside0.mk hbox; have HB := Aside0.mk hb; have HGB := Aside0.mk hg; have GB := Aside0.mk (show w.heap.size ≤ gb by omega); clear hbox hb hg)
      | ((with_reducible refine gate_dst (N := 2) rfl ?_); refine box_event ?hg (N := 2) ?hd (cs := #[.slice none 0 0, .slice none 0 0, .bool false]) (t := 28) ?hr ?_; (case hd => rfl); (case hg => rfl); (case hr => first | (go_simp; done) | (go_simp; rfl)); intro gr hg w2 hbox hb; have HY := Aside0.mk hbox; have GN := Aside0.mk (show gr ≠ gb by have := blk_lt HX.out; omega); replace HX := Aside0.mk (blk_below HX.out hb); have GE := Aside0.mk (show w.heap.size ≤ gr by have := HB.out.size; omega); replace HB := Aside0.mk (below_step HB.out hb); clear hbox hb hg)
      | ((with_reducible refine gate_dst (N := 3) rfl ?_); refine box_event ?hg (N := 3) ?hd (cs := #[.int .u32 0, .int .i64 0, .int .i64 0, .int .i64 0]) (t := 43) ?hr ?_; (case hd => rfl); (case hg => rfl); (case hr => first | (go_simp; done) | (go_simp; rfl)); intro gu hg w3 hbox hb; have HU := Aside0.mk hbox; have GU := Aside0.mk (show gu ≠ gb ∧ gu ≠ gr by have := blk_lt HX.out; have := blk_lt HY.out; omega); replace HX := Aside0.mk (blk_below HX.out hb); replace HY := Aside0.mk (blk_below HY.out hb); have GV := Aside0.mk (show w.heap.size ≤ gu by have := HB.out.size; omega); replace HB := Aside0.mk (below_step HB.out hb); have hx0 := (blk_cell HX.out 0).trans (show _ = some (Value.slice A q.wait.length c) from rfl); have hx1 := (blk_cell HX.out 1).trans (show _ = some (Value.slice A2 n2 c2) from rfl); have hx2 := (blk_cell HX.out 2).trans (show _ = some (Value.bool q.conf) from rfl); clear hbox hb hg)
      | (go_at_call 19; refine (rAcked_calls' hcf (refR_below HH.out HB.out) HZ.out).mono ?_; rintro e w4 ⟨rfl, hb⟩; unfold rcfg; replace HX := Aside0.mk (blk_below HX.out hb); replace HY := Aside0.mk (blk_below HY.out hb); replace HU := Aside0.mk (blk_below HU.out hb); replace HB := Aside0.mk (below_step HB.out hb); clear hb; have hx0 := (blk_cell HX.out 0).trans (show _ = some (Value.slice A q.wait.length c) from rfl); have hx1 := (blk_cell HX.out 1).trans (show _ = some (Value.slice A2 n2 c2) from rfl); have hx2 := (blk_cell HX.out 2).trans (show _ = some (Value.bool q.conf) from rfl); have hy0 := (blk_cell HY.out 0).trans (show _ = some (Value.slice none 0 0) from rfl); have hy1 := (blk_cell HY.out 1).trans (show _ = some (Value.slice none 0 0) from rfl); have hy2 := (blk_cell HY.out 2).trans (show _ = some (Value.bool false) from rfl); have xf0 := blk_frozen HX.out 0; have xf1 := blk_frozen HX.out 1; have xf2 := blk_frozen HX.out 2; have yf0 := blk_frozen HY.out 0; have yf1 := blk_frozen HY.out 1; have yf2 := blk_frozen HY.out 2; have gn := GN.out; have gn2 := Ne.symm gn; have hl1 := blk_lt HX.out; have hl2 := blk_lt HY.out; have hu0 := (blk_cell HU.out 0).trans (show _ = some (Value.int .u32 0) from rfl); have hu1 := (blk_cell HU.out 1).trans (show _ = some (Value.int .i64 0) from rfl); have hu2 := (blk_cell HU.out 2).trans (show _ = some (Value.int .i64 0) from rfl); have hu3 := (blk_cell HU.out 3).trans (show _ = some (Value.int .i64 0) from rfl); have uf0 := blk_frozen HU.out 0; have uf1 := blk_frozen HU.out 1; have uf2 := blk_frozen HU.out 2; have uf3 := blk_frozen HU.out 3; have gu1 := GU.out.1; have gu2 := GU.out.2; have gu3 := Ne.symm gu1; have gu4 := Ne.symm gu2; have hl3 := blk_lt HU.out))
    refine world_gen (F := fun w_ => Code.wp Try.prog _ _ _ w_) (fun w_ => w_.heap[gb]? = some (.cells #[.slice A q.wait.length c, .slice none 0 0, .bool true] 28 (0, 0)) ∧ w_.heap[gr]? = some (.cells #[.slice none 0 0, .slice none 0 0, .bool false] 28 (0, 0)) ∧ w_.heap[gu]? = some (.cells #[.int .u32 0, .int .i64 0, .int .i64 0, .int .i64 0] 43 (0, 0)) ∧ w_.heap[w4.heap.size]? = some (.cells #[.int .u32 q.next.f0, .int .i64 q.next.f1, .int .i64 q.next.f2, .int .i64 q.next.f3] 43 (0, 0)) ∧ Below w.heap.size w w_) ⟨by exact blk_alloc (blk_set (blk_set HX.out 1 _) 2 _) _, by exact blk_alloc (blk_far (blk_far HY.out GN.out _) GN.out _) _, by exact blk_alloc (blk_far (blk_far HU.out GU.out.1 _) GU.out.1 _) _, by simpa [World.setCell] using heap_alloc_new ((w4.setCell ⟨gb, 1, none⟩ (.slice none 0 0)).setCell ⟨gb, 2, none⟩ (.bool true)) (.cells #[.int .u32 q.next.f0, .int .i64 q.next.f1, .int .i64 q.next.f2, .int .i64 q.next.f3] 43), by repeat (with_reducible first | exact HB.out | apply below_alloc | refine below_set ?_ GB.out)⟩ ?_
    obtain ⟨gt, hgt⟩ : ∃ g, g = w4.heap.size := ⟨_, rfl⟩
    have GT := Aside0.mk (show gb ≠ gt ∧ gr ≠ gt ∧ gu ≠ gt ∧ w.heap.size ≤ gt by have := HB.out.size; omega)
    rw [← hgt]
    clear HX HY HU HB hgt hx0 hx1 hx2 hy0 hy1 hy2 xf0 xf1 xf2 yf0 yf1 yf2 gn gn2 hl1 hl2 hu0 hu1 hu2 hu3 uf0 uf1 uf2 uf3 gu1 gu2 gu3 gu4 hl3
    intro w5 ⟨HX, HY, HU, HT, HB⟩
    have gtr := Ne.symm GT.out.2.1
    have gtu := Ne.symm GT.out.2.2.1
    have gn2 := Ne.symm GN.out
    have gn := GN.out
    have gu1 := GU.out.1
    have gu2 := GU.out.2
    have gu3 := Ne.symm GU.out.1
    have gu4 := Ne.symm GU.out.2
    have b0 := (blk_cell HX 0).trans (show _ = some (Value.slice A q.wait.length c) from rfl)
    have b1 := (blk_cell HX 1).trans (show _ = some (Value.slice none 0 0) from rfl)
    have b2 := (blk_cell HX 2).trans (show _ = some (Value.bool true) from rfl)
    have t0 := (blk_cell HT 0).trans (show _ = some (Value.int .u32 q.next.f0) from rfl)
    have t1 := (blk_cell HT 1).trans (show _ = some (Value.int .i64 q.next.f1) from rfl)
    have t2 := (blk_cell HT 2).trans (show _ = some (Value.int .i64 q.next.f2) from rfl)
    have t3 := (blk_cell HT 3).trans (show _ = some (Value.int .i64 q.next.f3) from rfl)
    have r0 := (blk_cell HY 0).trans (show _ = some (Value.slice none 0 0) from rfl)
    have r1 := (blk_cell HY 1).trans (show _ = some (Value.slice none 0 0) from rfl)
    have r2 := (blk_cell HY 2).trans (show _ = some (Value.bool false) from rfl)
    have u0 := (blk_cell HU 0).trans (show _ = some (Value.int .u32 0) from rfl)
    have u1 := (blk_cell HU 1).trans (show _ = some (Value.int .i64 0) from rfl)
    have u2 := (blk_cell HU 2).trans (show _ = some (Value.int .i64 0) from rfl)
    have u3 := (blk_cell HU 3).trans (show _ = some (Value.int .i64 0) from rfl)
    have rf0 := blk_frozen HY 0
    have rf1 := blk_frozen HY 1
    have rf2 := blk_frozen HY 2
    have uf0 := blk_frozen HU 0
    have uf1 := blk_frozen HU 1
    have uf2 := blk_frozen HU 2
    have uf3 := blk_frozen HU 3
    replace HX := Aside0.mk HX
    replace HY := Aside0.mk HY
    replace HU := Aside0.mk HU
    replace HT := Aside0.mk HT
    replace HB := Aside0.mk HB
    refine start_ (n := 6) (S := fun w' => w'.cell? ⟨gb, 0, none⟩ = some (.slice A q.wait.length c) ∧ w'.cell? ⟨gb, 1, none⟩ = some (.slice none 0 0) ∧ w'.cell? ⟨gb, 2, none⟩ = some (.bool true) ∧ w'.cell? ⟨gt, 0, none⟩ = some (.int .u32 q.next.f0) ∧ w'.cell? ⟨gt, 1, none⟩ = some (.int .i64 q.next.f1) ∧ w'.cell? ⟨gt, 2, none⟩ = some (.int .i64 q.next.f2) ∧ w'.cell? ⟨gt, 3, none⟩ = some (.int .i64 q.next.f3)) (ds := []) #[false, false, false, false, false, false] (by kernel_rfl) rfl rfl ⟨b0, b1, b2, t0, t1, t2, t3⟩ (fun hHeld => ?_)
    refine pure_ (i := 2) (N := some 21) (v := ?_) (a' := ?_) #[false, false, true, false, false, false] rfl rfl (by kernel_rfl) (fun _ _ _ h => h) (Or.inl ⟨by rfl, ?_⟩) ?_ ?_
    rotate_left
    · intro w'
      go_simp
      with_reducible rfl
    rotate_left
    · simp only [Act.put, List.setIfInBounds_toArray, List.set_cons_zero, List.set_cons_succ, i64_w, i32_w, IntKind.wrap_u32, IntKind.wrap_u8, IntKind.wrap_u16]
      rfl
    refine take_ (i := 0) (N := some 19) (v := ?_) (a' := ?_) #[true, false, true, false, false, false] rfl rfl (by kernel_rfl) (fun _ _ _ h => h) (Or.inl ⟨by rfl, ?_⟩) hHeld ?_ ?_
    rotate_left
    · rintro w' ⟨s0, s1, s2, s3, s4, s5, s6⟩
      go_simp
      with_reducible rfl
    rotate_left
    · simp only [Act.put, List.setIfInBounds_toArray, List.set_cons_zero, List.set_cons_succ, i64_w, i32_w, IntKind.wrap_u32, IntKind.wrap_u8, IntKind.wrap_u16]
      rfl
    refine take_ (i := 1) (N := some 20) (v := ?_) (a' := ?_) #[true, true, true, false, false, false] rfl rfl (by kernel_rfl) (fun _ _ _ h => h) (Or.inl ⟨by rfl, ?_⟩) hHeld ?_ ?_
    rotate_left
    · rintro w' ⟨s0, s1, s2, s3, s4, s5, s6⟩
      go_simp
      with_reducible rfl
    rotate_left
    · simp only [Act.put, List.setIfInBounds_toArray, List.set_cons_zero, List.set_cons_succ, i64_w, i32_w, IntKind.wrap_u32, IntKind.wrap_u8, IntKind.wrap_u16]
      rfl
    refine one_ (i := 3) (N := none) #[true, true, true, true, false, false] rfl rfl (by kernel_rfl) (by decide) (fun K hK => ?_)
    refine skip_ (w1 := ?_) (by rfl) rfl ?_ ?_
    rotate_left
    · go_simp
      rfl
    refine hK.out _ _ ⟨(by repeat (with_reducible first | exact b0 | apply cell_drew | refine far_cell ?_ (by exact gn2) _ | refine far_cell ?_ (by exact gtr) _)), (by repeat (with_reducible first | exact b1 | apply cell_drew | refine far_cell ?_ (by exact gn2) _ | refine far_cell ?_ (by exact gtr) _)), (by repeat (with_reducible first | exact b2 | apply cell_drew | refine far_cell ?_ (by exact gn2) _ | refine far_cell ?_ (by exact gtr) _)), (by repeat (with_reducible first | exact t0 | apply cell_drew | refine far_cell ?_ (by exact gn2) _ | refine far_cell ?_ (by exact gtr) _)), (by repeat (with_reducible first | exact t1 | apply cell_drew | refine far_cell ?_ (by exact gn2) _ | refine far_cell ?_ (by exact gtr) _)), (by repeat (with_reducible first | exact t2 | apply cell_drew | refine far_cell ?_ (by exact gn2) _ | refine far_cell ?_ (by exact gtr) _)), (by repeat (with_reducible first | exact t3 | apply cell_drew | refine far_cell ?_ (by exact gn2) _ | refine far_cell ?_ (by exact gtr) _))⟩ (fun hHeld => ?_)
    clear hK K
    refine one_ (i := 4) (N := none) #[true, true, true, true, true, false] rfl rfl (by kernel_rfl) (by decide) (fun K hK => ?_)
    refine skip_ (w1 := ?_) (by rfl) rfl ?_ ?_
    rotate_left
    · go_simp
      rfl
    refine hK.out _ _ ⟨(by repeat (with_reducible first | exact b0 | apply cell_drew | refine far_cell ?_ (by exact gn2) _ | refine far_cell ?_ (by exact gtr) _ | refine far_cell ?_ (by exact gu3) _ | refine far_cell ?_ (by exact gtu) _)), (by repeat (with_reducible first | exact b1 | apply cell_drew | refine far_cell ?_ (by exact gn2) _ | refine far_cell ?_ (by exact gtr) _ | refine far_cell ?_ (by exact gu3) _ | refine far_cell ?_ (by exact gtu) _)), (by repeat (with_reducible first | exact b2 | apply cell_drew | refine far_cell ?_ (by exact gn2) _ | refine far_cell ?_ (by exact gtr) _ | refine far_cell ?_ (by exact gu3) _ | refine far_cell ?_ (by exact gtu) _)), (by repeat (with_reducible first | exact t0 | apply cell_drew | refine far_cell ?_ (by exact gn2) _ | refine far_cell ?_ (by exact gtr) _ | refine far_cell ?_ (by exact gu3) _ | refine far_cell ?_ (by exact gtu) _)), (by repeat (with_reducible first | exact t1 | apply cell_drew | refine far_cell ?_ (by exact gn2) _ | refine far_cell ?_ (by exact gtr) _ | refine far_cell ?_ (by exact gu3) _ | refine far_cell ?_ (by exact gtu) _)), (by repeat (with_reducible first | exact t2 | apply cell_drew | refine far_cell ?_ (by exact gn2) _ | refine far_cell ?_ (by exact gtr) _ | refine far_cell ?_ (by exact gu3) _ | refine far_cell ?_ (by exact gtu) _)), (by repeat (with_reducible first | exact t3 | apply cell_drew | refine far_cell ?_ (by exact gn2) _ | refine far_cell ?_ (by exact gtr) _ | refine far_cell ?_ (by exact gu3) _ | refine far_cell ?_ (by exact gtu) _))⟩ (fun hHeld => ?_)
    clear hK K
    refine pure_ (i := 5) (N := some 4) (v := ?_) (a' := ?_) #[true, true, true, true, true, true] rfl rfl (by kernel_rfl) (fun _ _ _ h => h) (Or.inl ⟨by rfl, ?_⟩) ?_ ?_
    rotate_left
    · intro w'
      go_simp
      with_reducible rfl
    rotate_left
    · simp only [Act.put, List.setIfInBounds_toArray, List.set_cons_zero, List.set_cons_succ, i64_w, i32_w, IntKind.wrap_u32, IntKind.wrap_u8, IntKind.wrap_u16]
      rfl
    refine done_ (by kernel_rfl) ?_
    go_wp2
    refine bodyPost_ret (results_list (rs := [.cell 2 28, .cell 3 43, .tmp 4]) rfl (by simp) (.cell gr 28 #[.slice A q.wait.length c, .slice none 0 0, .bool true] (0, 0) _ rfl (by exact blk_drew (blk_far (blk_far (blk_far (blk_far (blk_set (blk_set (blk_set HY.out 0 _) 1 _) 2 _) gu4 _) gu4 _) gu4 _) gu4 _)) Try.underlying28 rfl (by kernel_rfl) (.cell gu 43 #[.int .u32 q.next.f0, .int .i64 q.next.f1, .int .i64 q.next.f2, .int .i64 q.next.f3] (0, 0) _ rfl (by exact blk_drew (blk_set (blk_set (blk_set (blk_set (blk_far (blk_far (blk_far HU.out gu2 _) gu2 _) gu2 _) 0 _) 1 _) 2 _) 3 _)) Try.underlying43 rfl (by kernel_rfl) (.tmp .nil)))) rfl ?_
    rw [HA.out]
    have HBf : Below w.heap.size w _ := below_drew (below_set (below_set (below_set (below_set (below_set (below_set (below_set HB.out (j := 0) (v := .slice A q.wait.length c) GE.out) (j := 1) (v := .slice none 0 0) GE.out) (j := 2) (v := .bool true) GE.out) (j := 0) (v := .int .u32 q.next.f0) GV.out) (j := 1) (v := .int .i64 q.next.f1) GV.out) (j := 2) (v := .int .i64 q.next.f2) GV.out) (j := 3) (v := .int .i64 q.next.f3) GV.out)
    refine ⟨rfl, ⟨?_, ?_⟩, HBf⟩
    · rw [show (apS q).wait = q.wait by unfold apS; cases q.acked <;> rfl]
      exact (refR_below HH.out HBf).1
    · rw [show dn (apS q) = [] by unfold dn apS; cases ha : q.acked <;> simp [ha]]
      exact FR.nil _ _ _
end Go.Proofs.Ytockppikcghmoaa.Q
