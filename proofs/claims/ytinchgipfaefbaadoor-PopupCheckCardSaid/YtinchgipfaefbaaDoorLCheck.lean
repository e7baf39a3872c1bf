import Derived.Test.YtinchgipfaefbaaDoorV7
namespace Go.Proofs.YtinchgipfaefbaaDoor.Q
open Go.RowKit Go.Proofs.YtinchgipfaefbaaDoorW.PrintWords Go.Proofs.YtinchgipfaefbaaDoorW.PrintLast Go.Proofs.YtinchgipfaefbaaDoorW.PrintMore Go.Proofs.YtinchgipfaefbaaDoor.Sl Go.Proofs.YtinchgipfaefbaaDoor.Hand 
attribute [local go_sem] max2_int min2_int max_two min_two max_three min_three max_four min_four 
set_option linter.unusedVariables false
set_option linter.unusedSimpArgs false

section
attribute [local go_sem high] eqA23
set_option maxHeartbeats 8000000 in
set_option maxRecDepth 100000 in
theorem Check_law (w : World) (hT : Tab w) (p : Pos) : Calls Tryd.prog 3 #[.agg #[.int .i64 (p.w), .int .i64 (p.h), .int .i64 (p.x0), .int .i64 (p.y0), .int .i64 (p.x1), .int .i64 (p.y1), .int .i64 (p.ae), .int .i64 (p.gr), .int .i64 (p.ad), .int .i64 (p.ox), .int .i64 (p.oy)]] w fun e w' => e = .returned (.bool true) ∧ Below w.heap.size w w' := by
  have HT := Aside0.mk hT
  have HS := Aside0.mk (sl_start w)
  clear hT
  obtain ⟨c, ec⟩ : ∃ c, chk p = c := ⟨_, rfl⟩
  have HC := Aside0.mk (show ∀ {w' : World} {M : List Res}, SL w w' M → Calls Tryd.prog 11 #[.agg #[.int .i64 (p.w), .int .i64 (p.h), .int .i64 (p.x0), .int .i64 (p.y0), .int .i64 (p.x1), .int .i64 (p.y1), .int .i64 (p.ae), .int .i64 (p.gr), .int .i64 (p.ad), .int .i64 (p.ox), .int .i64 (p.oy)]] w' fun e w'' => e = .returned (.int .i64 c) ∧ SL w w'' M from fun hs => by
    have := Check_c hs p; rw [ec] at this
    exact this)
  have HCR := Aside0.mk (show ∀ {w' : World} {M : List Res}, SL w w' M → Calls Tryd.prog 12 #[.agg #[.int .i64 (p.w), .int .i64 (p.h), .int .i64 (p.x0), .int .i64 (p.y0), .int .i64 (p.x1), .int .i64 (p.y1), .int .i64 (p.ae), .int .i64 (p.gr), .int .i64 (p.ad), .int .i64 (p.ox), .int .i64 (p.oy)]] w' fun e w'' => e = .returned (.int .i64 c) ∧ SL w w'' M from fun hs => by
    have := CheckR_c hs p; rw [ec] at this
    exact this)
  have bc : (c == c) = true := beq_self_eq_true c
  clear ec
  obtain ⟨pw, ph, x0, y0, x1, y1, ae, gr, ad, ox, oy⟩ := p
  go_enter Tryd.func3, Tryd.ntmps3
  go_upto_region 2 with (fail)
  refine world_gen (F := fun w_ => Code.wp Tryd.prog _ _ _ w_) (fun w_ => SL w w_ [cellsR w.heap.size 27 #[.int .i64 pw, .int .i64 ph, .int .i64 x0, .int .i64 y0, .int .i64 x1, .int .i64 y1, .int .i64 ae, .int .i64 gr, .int .i64 ad, .int .i64 ox, .int .i64 oy], cellsR (w.heap.size + 1) 28 #[.int .i64 pw, .int .i64 ph, .int .i64 x0, .int .i64 y0, .int .i64 x1, .int .i64 y1, .int .i64 ae, .int .i64 gr, .int .i64 ad, .int .i64 ox, .int .i64 oy]]) ?hP ?_
  case hP =>
    have hs := sl_box (sl_box HS.out #[.int .i64 pw, .int .i64 ph, .int .i64 x0, .int .i64 y0, .int .i64 x1, .int .i64 y1, .int .i64 ae, .int .i64 gr, .int .i64 ad, .int .i64 ox, .int .i64 oy] 27) #[.int .i64 pw, .int .i64 ph, .int .i64 x0, .int .i64 y0, .int .i64 x1, .int .i64 y1, .int .i64 ae, .int .i64 gr, .int .i64 ad, .int .i64 ox, .int .i64 oy] 28
    (try simp only [World.size_alloc] at hs)
    exact hs
  intro w2 hs
  replace HS := Aside0.mk hs
  clear hs
  refine start_ (n := 9) (S := fun w' => w'.cell? ⟨w.heap.size + 1, 0, none⟩ = some (.int .i64 pw) ∧ w'.cell? ⟨w.heap.size + 1, 1, none⟩ = some (.int .i64 ph) ∧ w'.cell? ⟨w.heap.size + 1, 2, none⟩ = some (.int .i64 x0) ∧ w'.cell? ⟨w.heap.size + 1, 3, none⟩ = some (.int .i64 y0) ∧ w'.cell? ⟨w.heap.size + 1, 4, none⟩ = some (.int .i64 x1) ∧ w'.cell? ⟨w.heap.size + 1, 5, none⟩ = some (.int .i64 y1) ∧ w'.cell? ⟨w.heap.size + 1, 6, none⟩ = some (.int .i64 ae) ∧ w'.cell? ⟨w.heap.size + 1, 7, none⟩ = some (.int .i64 gr) ∧ w'.cell? ⟨w.heap.size + 1, 8, none⟩ = some (.int .i64 ad) ∧ w'.cell? ⟨w.heap.size + 1, 9, none⟩ = some (.int .i64 ox) ∧ w'.cell? ⟨w.heap.size + 1, 10, none⟩ = some (.int .i64 oy)) (ds := []) #[false, false, false, false, false, false, false, false, false] (by kernel_rfl) rfl rfl ⟨(blk_cell (sl_blk (sl_drew HS.out) 1 rfl) 0).trans (show _ = some (Value.int .i64 pw) from rfl), (blk_cell (sl_blk (sl_drew HS.out) 1 rfl) 1).trans (show _ = some (Value.int .i64 ph) from rfl), (blk_cell (sl_blk (sl_drew HS.out) 1 rfl) 2).trans (show _ = some (Value.int .i64 x0) from rfl), (blk_cell (sl_blk (sl_drew HS.out) 1 rfl) 3).trans (show _ = some (Value.int .i64 y0) from rfl), (blk_cell (sl_blk (sl_drew HS.out) 1 rfl) 4).trans (show _ = some (Value.int .i64 x1) from rfl), (blk_cell (sl_blk (sl_drew HS.out) 1 rfl) 5).trans (show _ = some (Value.int .i64 y1) from rfl), (blk_cell (sl_blk (sl_drew HS.out) 1 rfl) 6).trans (show _ = some (Value.int .i64 ae) from rfl), (blk_cell (sl_blk (sl_drew HS.out) 1 rfl) 7).trans (show _ = some (Value.int .i64 gr) from rfl), (blk_cell (sl_blk (sl_drew HS.out) 1 rfl) 8).trans (show _ = some (Value.int .i64 ad) from rfl), (blk_cell (sl_blk (sl_drew HS.out) 1 rfl) 9).trans (show _ = some (Value.int .i64 ox) from rfl), (blk_cell (sl_blk (sl_drew HS.out) 1 rfl) 10).trans (show _ = some (Value.int .i64 oy) from rfl)⟩ (fun hHeld => ?_)
  refine take_ (i := 0) (N := some 5) (v := ?_) (a' := ?_) #[true, false, false, false, false, false, false, false, false] rfl rfl (by kernel_rfl) (fun _ _ _ h => h) (Or.inl ⟨by rfl, ?_⟩) hHeld ?_ ?_
  rotate_left
  · rintro w' ⟨s0, s1, s2, s3, s4, s5, s6, s7, s8, s9, s10⟩
    go_simp
    with_reducible rfl
  rotate_left
  · simp only [Act.put, List.setIfInBounds_toArray, List.set_cons_zero, List.set_cons_succ, i64_w, i32_w, IntKind.wrap_u32, IntKind.wrap_u8, IntKind.wrap_u16]
    rfl
  refine take_ (i := 2) (N := some 7) (v := ?_) (a' := ?_) #[true, false, true, false, false, false, false, false, false] rfl rfl (by kernel_rfl) (fun _ _ _ h => h) (Or.inl ⟨by rfl, ?_⟩) hHeld ?_ ?_
  rotate_left
  · rintro w' ⟨s0, s1, s2, s3, s4, s5, s6, s7, s8, s9, s10⟩
    go_simp
    with_reducible rfl
  rotate_left
  · simp only [Act.put, List.setIfInBounds_toArray, List.set_cons_zero, List.set_cons_succ, i64_w, i32_w, IntKind.wrap_u32, IntKind.wrap_u8, IntKind.wrap_u16]
    rfl
  refine one_ (i := 1) (N := some 6) #[true, true, true, false, false, false, false, false, false] rfl rfl (by kernel_rfl) (by decide) (fun K hK => ?_)
  refine goes_ Tryd.func11 (by kernel_rfl) rfl #[.agg #[.int .i64 pw, .int .i64 ph, .int .i64 x0, .int .i64 y0, .int .i64 x1, .int .i64 y1, .int .i64 ae, .int .i64 gr, .int .i64 ad, .int .i64 ox, .int .i64 oy]] (by rfl) rfl rfl (by (try simp only [List.map_toArray, List.map_cons, List.map_nil]); first | done | rfl) ?_
  with_reducible refine (HC.out (sl_drew HS.out)).mono ?_
  rintro e w3 ⟨rfl, hs3⟩
  refine ⟨_, rfl, ?_⟩
  refine hK.out _ _ ⟨(blk_cell (sl_blk hs3 1 rfl) 0).trans (show _ = some (Value.int .i64 pw) from rfl), (blk_cell (sl_blk hs3 1 rfl) 1).trans (show _ = some (Value.int .i64 ph) from rfl), (blk_cell (sl_blk hs3 1 rfl) 2).trans (show _ = some (Value.int .i64 x0) from rfl), (blk_cell (sl_blk hs3 1 rfl) 3).trans (show _ = some (Value.int .i64 y0) from rfl), (blk_cell (sl_blk hs3 1 rfl) 4).trans (show _ = some (Value.int .i64 x1) from rfl), (blk_cell (sl_blk hs3 1 rfl) 5).trans (show _ = some (Value.int .i64 y1) from rfl), (blk_cell (sl_blk hs3 1 rfl) 6).trans (show _ = some (Value.int .i64 ae) from rfl), (blk_cell (sl_blk hs3 1 rfl) 7).trans (show _ = some (Value.int .i64 gr) from rfl), (blk_cell (sl_blk hs3 1 rfl) 8).trans (show _ = some (Value.int .i64 ad) from rfl), (blk_cell (sl_blk hs3 1 rfl) 9).trans (show _ = some (Value.int .i64 ox) from rfl), (blk_cell (sl_blk hs3 1 rfl) 10).trans (show _ = some (Value.int .i64 oy) from rfl)⟩ (fun hHeld => ?_)
  clear hK K
  refine norm_ (a' := ?_) ?_ ?_
  rotate_left
  · show Act.put _ (some 6) _ = _
    simp only [Act.put, List.setIfInBounds_toArray, List.set_cons_zero, List.set_cons_succ, i64_w, i32_w, IntKind.wrap_u32, IntKind.wrap_u8, IntKind.wrap_u16]
    rfl
  refine one_ (i := 3) (N := some 8) #[true, true, true, true, false, false, false, false, false] rfl rfl (by kernel_rfl) (by decide) (fun K hK => ?_)
  refine goes_ Tryd.func12 (by kernel_rfl) rfl #[.agg #[.int .i64 pw, .int .i64 ph, .int .i64 x0, .int .i64 y0, .int .i64 x1, .int .i64 y1, .int .i64 ae, .int .i64 gr, .int .i64 ad, .int .i64 ox, .int .i64 oy]] (by rfl) rfl rfl (by (try simp only [List.map_toArray, List.map_cons, List.map_nil]); first | done | rfl) ?_
  with_reducible refine (HCR.out hs3).mono ?_
  rintro e w4 ⟨rfl, hs4⟩
  refine ⟨_, rfl, ?_⟩
  refine hK.out _ _ ⟨(blk_cell (sl_blk hs4 1 rfl) 0).trans (show _ = some (Value.int .i64 pw) from rfl), (blk_cell (sl_blk hs4 1 rfl) 1).trans (show _ = some (Value.int .i64 ph) from rfl), (blk_cell (sl_blk hs4 1 rfl) 2).trans (show _ = some (Value.int .i64 x0) from rfl), (blk_cell (sl_blk hs4 1 rfl) 3).trans (show _ = some (Value.int .i64 y0) from rfl), (blk_cell (sl_blk hs4 1 rfl) 4).trans (show _ = some (Value.int .i64 x1) from rfl), (blk_cell (sl_blk hs4 1 rfl) 5).trans (show _ = some (Value.int .i64 y1) from rfl), (blk_cell (sl_blk hs4 1 rfl) 6).trans (show _ = some (Value.int .i64 ae) from rfl), (blk_cell (sl_blk hs4 1 rfl) 7).trans (show _ = some (Value.int .i64 gr) from rfl), (blk_cell (sl_blk hs4 1 rfl) 8).trans (show _ = some (Value.int .i64 ad) from rfl), (blk_cell (sl_blk hs4 1 rfl) 9).trans (show _ = some (Value.int .i64 ox) from rfl), (blk_cell (sl_blk hs4 1 rfl) 10).trans (show _ = some (Value.int .i64 oy) from rfl)⟩ (fun hHeld => ?_)
  clear hK K
  refine norm_ (a' := ?_) ?_ ?_
  rotate_left
  · show Act.put _ (some 8) _ = _
    simp only [Act.put, List.setIfInBounds_toArray, List.set_cons_zero, List.set_cons_succ, i64_w, i32_w, IntKind.wrap_u32, IntKind.wrap_u8, IntKind.wrap_u16]
    rfl
  refine pure_ (i := 4) (N := some 9) (v := ?_) (a' := ?_) #[true, true, true, true, true, false, false, false, false] rfl rfl (by kernel_rfl) (fun _ _ _ h => h) (Or.inl ⟨by rfl, ?_⟩) ?_ ?_
  rotate_left
  · intro w'
    go_simp
    with_reducible rfl
  rotate_left
  · simp only [Act.put, List.setIfInBounds_toArray, List.set_cons_zero, List.set_cons_succ, i64_w, i32_w, IntKind.wrap_u32, IntKind.wrap_u8, IntKind.wrap_u16]
    rfl
  refine pure_ (i := 5) (N := some 10) (v := ?_) (a' := ?_) #[true, true, true, true, true, true, false, false, false] rfl rfl (by kernel_rfl) (fun _ _ _ h => h) (Or.inl ⟨by rfl, ?_⟩) ?_ ?_
  rotate_left
  · intro w'
    go_simp
    with_reducible rfl
  rotate_left
  · simp only [Act.put, List.setIfInBounds_toArray, List.set_cons_zero, List.set_cons_succ, i64_w, i32_w, IntKind.wrap_u32, IntKind.wrap_u8, IntKind.wrap_u16]
    rfl
  refine one_ (i := 6) (N := some 11) #[true, true, true, true, true, true, true, false, false] rfl rfl (by kernel_rfl) (by decide) (fun K hK => ?_)
  refine goes_ Tryd.func13 (by kernel_rfl) rfl #[] (by rfl) rfl rfl (by (try simp only [List.map_toArray, List.map_cons, List.map_nil]); first | done | rfl) ?_
  with_reducible refine (ex_c HT.out hs4).mono ?_
  rintro e w5 ⟨rfl, hs5⟩
  refine ⟨_, rfl, ?_⟩
  refine hK.out _ _ ⟨(blk_cell (sl_blk hs5 1 rfl) 0).trans (show _ = some (Value.int .i64 pw) from rfl), (blk_cell (sl_blk hs5 1 rfl) 1).trans (show _ = some (Value.int .i64 ph) from rfl), (blk_cell (sl_blk hs5 1 rfl) 2).trans (show _ = some (Value.int .i64 x0) from rfl), (blk_cell (sl_blk hs5 1 rfl) 3).trans (show _ = some (Value.int .i64 y0) from rfl), (blk_cell (sl_blk hs5 1 rfl) 4).trans (show _ = some (Value.int .i64 x1) from rfl), (blk_cell (sl_blk hs5 1 rfl) 5).trans (show _ = some (Value.int .i64 y1) from rfl), (blk_cell (sl_blk hs5 1 rfl) 6).trans (show _ = some (Value.int .i64 ae) from rfl), (blk_cell (sl_blk hs5 1 rfl) 7).trans (show _ = some (Value.int .i64 gr) from rfl), (blk_cell (sl_blk hs5 1 rfl) 8).trans (show _ = some (Value.int .i64 ad) from rfl), (blk_cell (sl_blk hs5 1 rfl) 9).trans (show _ = some (Value.int .i64 ox) from rfl), (blk_cell (sl_blk hs5 1 rfl) 10).trans (show _ = some (Value.int .i64 oy) from rfl)⟩ (fun hHeld => ?_)
  clear hK K
  refine norm_ (a' := ?_) ?_ ?_
  rotate_left
  · show Act.put _ (some 11) _ = _
    simp only [Act.put, List.setIfInBounds_toArray, List.set_cons_zero, List.set_cons_succ, i64_w, i32_w, IntKind.wrap_u32, IntKind.wrap_u8, IntKind.wrap_u16]
    rfl
  refine pure_ (i := 7) (N := some 12) (v := ?_) (a' := ?_) #[true, true, true, true, true, true, true, true, false] rfl rfl (by kernel_rfl) (fun _ _ _ h => h) (Or.inl ⟨by rfl, ?_⟩) ?_ ?_
  rotate_left
  · intro w'
    go_simp
    with_reducible rfl
  rotate_left
  · simp only [Act.put, List.setIfInBounds_toArray, List.set_cons_zero, List.set_cons_succ, i64_w, i32_w, IntKind.wrap_u32, IntKind.wrap_u8, IntKind.wrap_u16]
    rfl
  refine pure_ (i := 8) (N := some 2) (v := ?_) (a' := ?_) #[true, true, true, true, true, true, true, true, true] rfl rfl (by kernel_rfl) (fun _ _ _ h => h) (Or.inl ⟨by rfl, ?_⟩) ?_ ?_
  rotate_left
  · intro w'
    go_simp
    with_reducible rfl
  rotate_left
  · simp only [Act.put, List.setIfInBounds_toArray, List.set_cons_zero, List.set_cons_succ, i64_w, i32_w, IntKind.wrap_u32, IntKind.wrap_u8, IntKind.wrap_u16]
    rfl
  refine done_ (by kernel_rfl) ?_
  go_wp2
  go_ret
  exact ⟨rfl, sl_below0 hs5⟩
end
end Go.Proofs.YtinchgipfaefbaaDoor.Q
