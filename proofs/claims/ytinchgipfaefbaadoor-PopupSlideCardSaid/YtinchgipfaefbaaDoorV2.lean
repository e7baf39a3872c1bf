import Derived.Test.YtinchgipfaefbaaDoorV1
namespace Go.Proofs.YtinchgipfaefbaaDoor.Q
open Go.RowKit Go.Proofs.YtinchgipfaefbaaDoorW.PrintWords Go.Proofs.YtinchgipfaefbaaDoorW.PrintLast Go.Proofs.YtinchgipfaefbaaDoorW.PrintMore Go.Proofs.YtinchgipfaefbaaDoor.Sl Go.Proofs.YtinchgipfaefbaaDoor.Hand 
attribute [local go_sem] max2_int min2_int max_two min_two max_three min_three max_four min_four 
set_option linter.unusedVariables false
set_option linter.unusedSimpArgs false

/-! ### A whole block stored at once -/
theorem sl_row {w0 w : World} {L : List Res} {g : Nat} {t : TypeId} {cs : Array Value} (h : SL w0 w L) (i : Nat) (hi : L[i]? = some (cellsR g t cs)) (cs' : Array Value) : SL w0 (w.setRow g cs') (L.set i (cellsR g t cs')) := by
  obtain ⟨F, ⟨h1, h2⟩, h3, h4⟩ := sl_upd h hi
  refine h4 _ _ F ⟨h1, setRow_heap w g cs cs' t (0, 0) h2⟩ (fun k hk => ⟨.inl hk, by rw [setRow_size]; exact (h3 k hk).2⟩) ⟨rfl, rfl, rfl, by rw [setRow_size]; exact Nat.le_refl _, fun k hk hn => setRow_other w g k cs' (fun e => hn (e ▸ h1))⟩
theorem sl_ne {w0 w : World} {L : List Res} {g g' : Nat} {t t' : TypeId} {cs cs' : Array Value} (h : SL w0 w L) (i j : Nat) (hij : i ≠ j) (hi : L[i]? = some (cellsR g t cs)) (hj : L[j]? = some (cellsR g' t' cs')) : g ≠ g' := by
  obtain ⟨hb, G, h1, _, h3⟩ := h
  intro e
  subst e
  exact hij (h3 _ _ _ (h1 i _ hi).1 (h1 j _ hj).1)
theorem cell_row {w : World} {g n j : Nat} {v : Value} (hne : n ≠ g) (cs : Array Value) (h : w.cell? ⟨n, j, none⟩ = some v) : (w.setRow g cs).cell? ⟨n, j, none⟩ = some v := by
  rw [cell_setRow_other w g cs _ hne]
  exact h
theorem c_at {w0 w : World} {L : List Res} {g : Nat} {t : TypeId} {cs : Array Value} (h : SL w0 w L) (i : Nat) (hi : L[i]? = some (cellsR g t cs)) (j : Nat) {v : Value} (hv : cs[j]? = some v) : w.cell? ⟨g, j, none⟩ = some v := (blk_cell (sl_blk h i hi) j).trans hv
theorem f_at {w0 w : World} {L : List Res} {g : Nat} {t : TypeId} {cs : Array Value} (h : SL w0 w L) (i : Nat) (hi : L[i]? = some (cellsR g t cs)) (j : Nat) : w.frozen? ⟨g, j, none⟩ = false := blk_frozen (sl_blk h i hi) j
set_option maxHeartbeats 8000000 in
set_option maxRecDepth 100000 in
theorem axes_c {w0 w : World} {L : List Res} (hT : Tab w0) (h : SL w0 w L) (p : Pos) (e0 : 0 ≤ p.ae) (e1 : p.ae ≤ 8) (g0 : 0 ≤ p.gr) (g1 : p.gr ≤ 8) : Calls Tryd.prog 29 #[.agg #[.int .i64 p.w, .int .i64 p.h, .int .i64 p.x0, .int .i64 p.y0, .int .i64 p.x1, .int .i64 p.y1, .int .i64 p.ae, .int .i64 p.gr, .int .i64 p.ad, .int .i64 p.ox, .int .i64 p.oy]] w fun e w' => e = .returned (.tuple #[.agg #[.int .i64 p.w, .int .i64 p.x0, .int .i64 p.x1, .int .i64 (sideV p.ae true), .int .i64 (sideV p.gr true), .int .i64 p.ox], .agg #[.int .i64 p.h, .int .i64 p.y0, .int .i64 p.y1, .int .i64 (sideV p.ae false), .int .i64 (sideV p.gr false), .int .i64 p.oy]]) ∧ SL w0 w' L := by
  obtain ⟨pw, ph, x0, y0, x1, y1, ae, gr, ad, ox, oy⟩ := p
  obtain ⟨m, hm, rfl⟩ := nat_of e0 e1
  obtain ⟨k, hk, rfl⟩ := nat_of g0 g1
  have hmi : (m : Int) < 9 := by omega
  have hki : (k : Int) < 9 := by omega
  have HS := Aside0.mk (sl_start w)
  have H := Aside0.mk h
  obtain ⟨tx, etx⟩ : ∃ t, sidesX.getD m 0 = t := ⟨_, rfl⟩
  obtain ⟨ux, eux⟩ : ∃ t, sidesX.getD k 0 = t := ⟨_, rfl⟩
  obtain ⟨ty, ety⟩ : ∃ t, sidesY.getD m 0 = t := ⟨_, rfl⟩
  obtain ⟨uy, euy⟩ : ∃ t, sidesY.getD k 0 = t := ⟨_, rfl⟩
  have HX := Aside0.mk (show ∀ {w' : World} {M : List Res}, SL w w' M → (w'.cell? ⟨2, m, none⟩ = some (.int .i64 tx) ∧ w'.cell? ⟨2, k, none⟩ = some (.int .i64 ux)) ∧ (w'.cell? ⟨3, m, none⟩ = some (.int .i64 ty) ∧ w'.cell? ⟨3, k, none⟩ = some (.int .i64 uy)) from fun hs => by
    have hq := (hT.sl h).sl hs
    rw [← etx, ← eux, ← ety, ← euy]
    exact ⟨⟨hq.sx m hm, hq.sx k hk⟩, hq.sy m hm, hq.sy k hk⟩)
  have hv : sideV (m : Int) true = tx ∧ sideV (k : Int) true = ux ∧ sideV (m : Int) false = ty ∧ sideV (k : Int) false = uy := ⟨etx, eux, ety, euy⟩
  rw [hv.1, hv.2.1, hv.2.2.1, hv.2.2.2]
  clear h hT e0 e1 g0 g1 hv etx eux ety euy
  go_enter Tryd.func29, Tryd.ntmps29
  go_upto_region 1 with (fail)
  refine world_gen (F := fun w_ => Code.wp Tryd.prog _ _ _ w_) (fun w_ => SL w w_ [cellsR w.heap.size 28 #[.int .i64 pw, .int .i64 ph, .int .i64 x0, .int .i64 y0, .int .i64 x1, .int .i64 y1, .int .i64 m, .int .i64 k, .int .i64 ad, .int .i64 ox, .int .i64 oy], cellsR (w.heap.size + 1) 47 #[.int .i64 0, .int .i64 0, .int .i64 0, .int .i64 0, .int .i64 0, .int .i64 0], cellsR (w.heap.size + 1 + 1) 47 #[.int .i64 0, .int .i64 0, .int .i64 0, .int .i64 0, .int .i64 0, .int .i64 0]]) ?hP ?_
  case hP =>
    have hs := sl_box (sl_box (sl_box HS.out #[.int .i64 pw, .int .i64 ph, .int .i64 x0, .int .i64 y0, .int .i64 x1, .int .i64 y1, .int .i64 m, .int .i64 k, .int .i64 ad, .int .i64 ox, .int .i64 oy] 28) #[.int .i64 0, .int .i64 0, .int .i64 0, .int .i64 0, .int .i64 0, .int .i64 0] 47) #[.int .i64 0, .int .i64 0, .int .i64 0, .int .i64 0, .int .i64 0, .int .i64 0] 47
    simp only [World.size_alloc] at hs
    exact hs
  intro w1 hs
  generalize w.heap.size + 1 + 1 = b2 at hs ⊢
  generalize w.heap.size + 1 = b1 at hs ⊢
  generalize w.heap.size = b0 at hs ⊢
  replace HS := Aside0.mk hs
  clear hs
  refine start_ (n := 22) (S := fun w' => SL w w' [cellsR b0 28 #[.int .i64 pw, .int .i64 ph, .int .i64 x0, .int .i64 y0, .int .i64 x1, .int .i64 y1, .int .i64 m, .int .i64 k, .int .i64 ad, .int .i64 ox, .int .i64 oy], cellsR b1 47 #[.int .i64 0, .int .i64 0, .int .i64 0, .int .i64 0, .int .i64 0, .int .i64 0], cellsR b2 47 #[.int .i64 0, .int .i64 0, .int .i64 0, .int .i64 0, .int .i64 0, .int .i64 0]] ∧ w'.cell? ⟨b0, 0, none⟩ = some (.int .i64 pw) ∧ w'.cell? ⟨b0, 2, none⟩ = some (.int .i64 x0) ∧ w'.cell? ⟨b0, 4, none⟩ = some (.int .i64 x1) ∧ w'.cell? ⟨b0, 6, none⟩ = some (.int .i64 m) ∧ w'.cell? ⟨b0, 7, none⟩ = some (.int .i64 k) ∧ w'.cell? ⟨b0, 9, none⟩ = some (.int .i64 ox) ∧ w'.cell? ⟨2, m, none⟩ = some (.int .i64 tx) ∧ w'.cell? ⟨2, k, none⟩ = some (.int .i64 ux)) (ds := [21]) #[false, false, false, false, false, false, false, false, false, false, false, false, false, false, false, false, false, false, false, false, false, false] (by kernel_rfl) rfl rfl ⟨(sl_drew HS.out), (blk_cell (sl_blk (sl_drew HS.out) 0 rfl) 0).trans (show _ = some (Value.int .i64 pw) from rfl), (blk_cell (sl_blk (sl_drew HS.out) 0 rfl) 2).trans (show _ = some (Value.int .i64 x0) from rfl), (blk_cell (sl_blk (sl_drew HS.out) 0 rfl) 4).trans (show _ = some (Value.int .i64 x1) from rfl), (blk_cell (sl_blk (sl_drew HS.out) 0 rfl) 6).trans (show _ = some (Value.int .i64 m) from rfl), (blk_cell (sl_blk (sl_drew HS.out) 0 rfl) 7).trans (show _ = some (Value.int .i64 k) from rfl), (blk_cell (sl_blk (sl_drew HS.out) 0 rfl) 9).trans (show _ = some (Value.int .i64 ox) from rfl), (HX.out (sl_drew HS.out)).1.1, (HX.out (sl_drew HS.out)).1.2⟩ (fun hHeld => ?_)
  refine pure_ (i := 0) (N := some 6) (v := ?_) (a' := ?_) #[true, false, false, false, false, false, false, false, false, false, false, false, false, false, false, false, false, false, false, false, false, false] rfl rfl (by kernel_rfl) (fun _ _ _ h => h) (Or.inl ⟨by rfl, ?_⟩) ?_ ?_
  rotate_left
  · intro w'
    go_simp
    with_reducible rfl
  rotate_left
  · simp only [Act.put, List.setIfInBounds_toArray, List.set_cons_zero, List.set_cons_succ, i64_w, i32_w, IntKind.wrap_u32, IntKind.wrap_u8, IntKind.wrap_u16]
    rfl
  refine pure_ (i := 2) (N := some 8) (v := ?_) (a' := ?_) #[true, false, true, false, false, false, false, false, false, false, false, false, false, false, false, false, false, false, false, false, false, false] rfl rfl (by kernel_rfl) (fun _ _ _ h => h) (Or.inl ⟨by rfl, ?_⟩) ?_ ?_
  rotate_left
  · intro w'
    go_simp
    with_reducible rfl
  rotate_left
  · simp only [Act.put, List.setIfInBounds_toArray, List.set_cons_zero, List.set_cons_succ, i64_w, i32_w, IntKind.wrap_u32, IntKind.wrap_u8, IntKind.wrap_u16]
    rfl
  refine pure_ (i := 3) (N := some 9) (v := ?_) (a' := ?_) #[true, false, true, true, false, false, false, false, false, false, false, false, false, false, false, false, false, false, false, false, false, false] rfl rfl (by kernel_rfl) (fun _ _ _ h => h) (Or.inl ⟨by rfl, ?_⟩) ?_ ?_
  rotate_left
  · intro w'
    go_simp
    with_reducible rfl
  rotate_left
  · simp only [Act.put, List.setIfInBounds_toArray, List.set_cons_zero, List.set_cons_succ, i64_w, i32_w, IntKind.wrap_u32, IntKind.wrap_u8, IntKind.wrap_u16]
    rfl
  refine pure_ (i := 5) (N := some 11) (v := ?_) (a' := ?_) #[true, false, true, true, false, true, false, false, false, false, false, false, false, false, false, false, false, false, false, false, false, false] rfl rfl (by kernel_rfl) (fun _ _ _ h => h) (Or.inl ⟨by rfl, ?_⟩) ?_ ?_
  rotate_left
  · intro w'
    go_simp
    with_reducible rfl
  rotate_left
  · simp only [Act.put, List.setIfInBounds_toArray, List.set_cons_zero, List.set_cons_succ, i64_w, i32_w, IntKind.wrap_u32, IntKind.wrap_u8, IntKind.wrap_u16]
    rfl
  refine pure_ (i := 6) (N := some 12) (v := ?_) (a' := ?_) #[true, false, true, true, false, true, true, false, false, false, false, false, false, false, false, false, false, false, false, false, false, false] rfl rfl (by kernel_rfl) (fun _ _ _ h => h) (Or.inl ⟨by rfl, ?_⟩) ?_ ?_
  rotate_left
  · intro w'
    go_simp
    with_reducible rfl
  rotate_left
  · simp only [Act.put, List.setIfInBounds_toArray, List.set_cons_zero, List.set_cons_succ, i64_w, i32_w, IntKind.wrap_u32, IntKind.wrap_u8, IntKind.wrap_u16]
    rfl
  refine pure_ (i := 8) (N := some 14) (v := ?_) (a' := ?_) #[true, false, true, true, false, true, true, false, true, false, false, false, false, false, false, false, false, false, false, false, false, false] rfl rfl (by kernel_rfl) (fun _ _ _ h => h) (Or.inl ⟨by rfl, ?_⟩) ?_ ?_
  rotate_left
  · intro w'
    go_simp
    with_reducible rfl
  rotate_left
  · simp only [Act.put, List.setIfInBounds_toArray, List.set_cons_zero, List.set_cons_succ, i64_w, i32_w, IntKind.wrap_u32, IntKind.wrap_u8, IntKind.wrap_u16]
    rfl
  refine pure_ (i := 12) (N := some 18) (v := ?_) (a' := ?_) #[true, false, true, true, false, true, true, false, true, false, false, false, true, false, false, false, false, false, false, false, false, false] rfl rfl (by kernel_rfl) (fun _ _ _ h => h) (Or.inl ⟨by rfl, ?_⟩) ?_ ?_
  rotate_left
  · intro w'
    go_simp
    with_reducible rfl
  rotate_left
  · simp only [Act.put, List.setIfInBounds_toArray, List.set_cons_zero, List.set_cons_succ, i64_w, i32_w, IntKind.wrap_u32, IntKind.wrap_u8, IntKind.wrap_u16]
    rfl
  refine pure_ (i := 16) (N := some 22) (v := ?_) (a' := ?_) #[true, false, true, true, false, true, true, false, true, false, false, false, true, false, false, false, true, false, false, false, false, false] rfl rfl (by kernel_rfl) (fun _ _ _ h => h) (Or.inl ⟨by rfl, ?_⟩) ?_ ?_
  rotate_left
  · intro w'
    go_simp
    with_reducible rfl
  rotate_left
  · simp only [Act.put, List.setIfInBounds_toArray, List.set_cons_zero, List.set_cons_succ, i64_w, i32_w, IntKind.wrap_u32, IntKind.wrap_u8, IntKind.wrap_u16]
    rfl
  refine pure_ (i := 17) (N := some 23) (v := ?_) (a' := ?_) #[true, false, true, true, false, true, true, false, true, false, false, false, true, false, false, false, true, true, false, false, false, false] rfl rfl (by kernel_rfl) (fun _ _ _ h => h) (Or.inl ⟨by rfl, ?_⟩) ?_ ?_
  rotate_left
  · intro w'
    go_simp
    with_reducible rfl
  rotate_left
  · simp only [Act.put, List.setIfInBounds_toArray, List.set_cons_zero, List.set_cons_succ, i64_w, i32_w, IntKind.wrap_u32, IntKind.wrap_u8, IntKind.wrap_u16]
    rfl
  refine take_ (i := 1) (N := some 7) (v := ?_) (a' := ?_) #[true, true, true, true, false, true, true, false, true, false, false, false, true, false, false, false, true, true, false, false, false, false] rfl rfl (by kernel_rfl) (fun _ _ _ h => h) (Or.inl ⟨by rfl, ?_⟩) hHeld ?_ ?_
  rotate_left
  · rintro w' ⟨s0, s1, s2, s3, s4, s5, s6, s7, s8⟩
    go_simp
    with_reducible rfl
  rotate_left
  · simp only [Act.put, List.setIfInBounds_toArray, List.set_cons_zero, List.set_cons_succ, i64_w, i32_w, IntKind.wrap_u32, IntKind.wrap_u8, IntKind.wrap_u16]
    rfl
  refine take_ (i := 4) (N := some 10) (v := ?_) (a' := ?_) #[true, true, true, true, true, true, true, false, true, false, false, false, true, false, false, false, true, true, false, false, false, false] rfl rfl (by kernel_rfl) (fun _ _ _ h => h) (Or.inl ⟨by rfl, ?_⟩) hHeld ?_ ?_
  rotate_left
  · rintro w' ⟨s0, s1, s2, s3, s4, s5, s6, s7, s8⟩
    go_simp
    with_reducible rfl
  rotate_left
  · simp only [Act.put, List.setIfInBounds_toArray, List.set_cons_zero, List.set_cons_succ, i64_w, i32_w, IntKind.wrap_u32, IntKind.wrap_u8, IntKind.wrap_u16]
    rfl
  refine take_ (i := 7) (N := some 13) (v := ?_) (a' := ?_) #[true, true, true, true, true, true, true, true, true, false, false, false, true, false, false, false, true, true, false, false, false, false] rfl rfl (by kernel_rfl) (fun _ _ _ h => h) (Or.inl ⟨by rfl, ?_⟩) hHeld ?_ ?_
  rotate_left
  · rintro w' ⟨s0, s1, s2, s3, s4, s5, s6, s7, s8⟩
    go_simp
    with_reducible rfl
  rotate_left
  · simp only [Act.put, List.setIfInBounds_toArray, List.set_cons_zero, List.set_cons_succ, i64_w, i32_w, IntKind.wrap_u32, IntKind.wrap_u8, IntKind.wrap_u16]
    rfl
  refine take_ (i := 9) (N := some 15) (v := ?_) (a' := ?_) #[true, true, true, true, true, true, true, true, true, true, false, false, true, false, false, false, true, true, false, false, false, false] rfl rfl (by kernel_rfl) (fun _ _ _ h => h) (Or.inl ⟨by rfl, ?_⟩) hHeld ?_ ?_
  rotate_left
  · rintro w' ⟨s0, s1, s2, s3, s4, s5, s6, s7, s8⟩
    go_simp
    with_reducible rfl
  rotate_left
  · simp only [Act.put, List.setIfInBounds_toArray, List.set_cons_zero, List.set_cons_succ, i64_w, i32_w, IntKind.wrap_u32, IntKind.wrap_u8, IntKind.wrap_u16]
    rfl
  refine pure_ (i := 10) (N := some 16) (v := ?_) (a' := ?_) #[true, true, true, true, true, true, true, true, true, true, true, false, true, false, false, false, true, true, false, false, false, false] rfl rfl (by kernel_rfl) (fun _ _ _ h => h) (Or.inl ⟨by rfl, ?_⟩) ?_ ?_
  rotate_left
  · intro w'
    go_simp
    with_reducible rfl
  rotate_left
  · simp only [Act.put, List.setIfInBounds_toArray, List.set_cons_zero, List.set_cons_succ, i64_w, i32_w, IntKind.wrap_u32, IntKind.wrap_u8, IntKind.wrap_u16]
    rfl
  refine take_ (i := 11) (N := some 17) (v := ?_) (a' := ?_) #[true, true, true, true, true, true, true, true, true, true, true, true, true, false, false, false, true, true, false, false, false, false] rfl rfl (by kernel_rfl) (fun _ _ _ h => h) (Or.inl ⟨by rfl, ?_⟩) hHeld ?_ ?_
  rotate_left
  · rintro w' ⟨s0, s1, s2, s3, s4, s5, s6, s7, s8⟩
    go_simp
    with_reducible rfl
  rotate_left
  · simp only [Act.put, List.setIfInBounds_toArray, List.set_cons_zero, List.set_cons_succ, i64_w, i32_w, IntKind.wrap_u32, IntKind.wrap_u8, IntKind.wrap_u16]
    rfl
  refine take_ (i := 13) (N := some 19) (v := ?_) (a' := ?_) #[true, true, true, true, true, true, true, true, true, true, true, true, true, true, false, false, true, true, false, false, false, false] rfl rfl (by kernel_rfl) (fun _ _ _ h => h) (Or.inl ⟨by rfl, ?_⟩) hHeld ?_ ?_
  rotate_left
  · rintro w' ⟨s0, s1, s2, s3, s4, s5, s6, s7, s8⟩
    go_simp
    with_reducible rfl
  rotate_left
  · simp only [Act.put, List.setIfInBounds_toArray, List.set_cons_zero, List.set_cons_succ, i64_w, i32_w, IntKind.wrap_u32, IntKind.wrap_u8, IntKind.wrap_u16]
    rfl
  refine pure_ (i := 14) (N := some 20) (v := ?_) (a' := ?_) #[true, true, true, true, true, true, true, true, true, true, true, true, true, true, true, false, true, true, false, false, false, false] rfl rfl (by kernel_rfl) (fun _ _ _ h => h) (Or.inl ⟨by rfl, ?_⟩) ?_ ?_
  rotate_left
  · intro w'
    go_simp
    with_reducible rfl
  rotate_left
  · simp only [Act.put, List.setIfInBounds_toArray, List.set_cons_zero, List.set_cons_succ, i64_w, i32_w, IntKind.wrap_u32, IntKind.wrap_u8, IntKind.wrap_u16]
    rfl
  refine take_ (i := 15) (N := some 21) (v := ?_) (a' := ?_) #[true, true, true, true, true, true, true, true, true, true, true, true, true, true, true, true, true, true, false, false, false, false] rfl rfl (by kernel_rfl) (fun _ _ _ h => h) (Or.inl ⟨by rfl, ?_⟩) hHeld ?_ ?_
  rotate_left
  · rintro w' ⟨s0, s1, s2, s3, s4, s5, s6, s7, s8⟩
    go_simp
    with_reducible rfl
  rotate_left
  · simp only [Act.put, List.setIfInBounds_toArray, List.set_cons_zero, List.set_cons_succ, i64_w, i32_w, IntKind.wrap_u32, IntKind.wrap_u8, IntKind.wrap_u16]
    rfl
  refine take_ (i := 18) (N := some 24) (v := ?_) (a' := ?_) #[true, true, true, true, true, true, true, true, true, true, true, true, true, true, true, true, true, true, true, false, false, false] rfl rfl (by kernel_rfl) (fun _ _ _ h => h) (Or.inl ⟨by rfl, ?_⟩) hHeld ?_ ?_
  rotate_left
  · rintro w' ⟨s0, s1, s2, s3, s4, s5, s6, s7, s8⟩
    go_simp
    with_reducible rfl
  rotate_left
  · simp only [Act.put, List.setIfInBounds_toArray, List.set_cons_zero, List.set_cons_succ, i64_w, i32_w, IntKind.wrap_u32, IntKind.wrap_u8, IntKind.wrap_u16]
    rfl
  refine pure_ (i := 19) (N := some 25) (v := ?_) (a' := ?_) #[true, true, true, true, true, true, true, true, true, true, true, true, true, true, true, true, true, true, true, true, false, false] rfl rfl (by kernel_rfl) (fun _ _ _ h => h) (Or.inl ⟨by rfl, ?_⟩) ?_ ?_
  rotate_left
  · intro w'
    go_simp
    with_reducible rfl
  rotate_left
  · simp only [Act.put, List.setIfInBounds_toArray, List.set_cons_zero, List.set_cons_succ, i64_w, i32_w, IntKind.wrap_u32, IntKind.wrap_u8, IntKind.wrap_u16]
    rfl
  refine one_ (i := 20) (N := some 4) #[true, true, true, true, true, true, true, true, true, true, true, true, true, true, true, true, true, true, true, true, true, false] rfl rfl (by kernel_rfl) (by decide) (fun K hK => ?_)
  refine value_ (w1 := ?_) (v := ?_) (by rfl) rfl ?_ ?_
  rotate_left 2
  · go_simp
    constructor
    · rfl
    · rfl
  refine hK.out _ _ ⟨(sl_alloc hHeld.1 _), (blk_cell (sl_blk (sl_alloc hHeld.1 _) 0 rfl) 0).trans (show _ = some (Value.int .i64 pw) from rfl), (blk_cell (sl_blk (sl_alloc hHeld.1 _) 0 rfl) 2).trans (show _ = some (Value.int .i64 x0) from rfl), (blk_cell (sl_blk (sl_alloc hHeld.1 _) 0 rfl) 4).trans (show _ = some (Value.int .i64 x1) from rfl), (blk_cell (sl_blk (sl_alloc hHeld.1 _) 0 rfl) 6).trans (show _ = some (Value.int .i64 m) from rfl), (blk_cell (sl_blk (sl_alloc hHeld.1 _) 0 rfl) 7).trans (show _ = some (Value.int .i64 k) from rfl), (blk_cell (sl_blk (sl_alloc hHeld.1 _) 0 rfl) 9).trans (show _ = some (Value.int .i64 ox) from rfl), (HX.out (sl_alloc hHeld.1 _)).1.1, (HX.out (sl_alloc hHeld.1 _)).1.2⟩ (fun hHeld => ?_)
  clear hK K
  refine norm_ (a' := ?_) ?_ ?_
  rotate_left
  · show Act.put _ (some 4) _ = _
    simp only [Act.put, List.setIfInBounds_toArray, List.set_cons_zero, List.set_cons_succ, i64_w, i32_w, IntKind.wrap_u32, IntKind.wrap_u8, IntKind.wrap_u16]
    rfl
  refine last_ (i := 21) (N := none) #[true, true, true, true, true, true, true, true, true, true, true, true, true, true, true, true, true, true, true, true, true, true] rfl rfl (by kernel_rfl) (by decide) (fun K hK => ?_)
  refine skip_ (w1 := ?_) (by rfl) rfl ?_ ?_
  rotate_left
  · go_simp
    rfl
  refine hK.out _ _ ?_
  clear hK K
  refine done_ (by kernel_rfl) ?_
  go_upto_region 2 with (fail)
  refine world_gen (F := fun w_ => Code.wp Tryd.prog _ _ _ w_) (fun w_ => SL w w_ [cellsR b0 28 #[.int .i64 pw, .int .i64 ph, .int .i64 x0, .int .i64 y0, .int .i64 x1, .int .i64 y1, .int .i64 m, .int .i64 k, .int .i64 ad, .int .i64 ox, .int .i64 oy], cellsR b1 47 #[.int .i64 0, .int .i64 0, .int .i64 0, .int .i64 0, .int .i64 0, .int .i64 0], cellsR b2 47 #[.int .i64 0, .int .i64 0, .int .i64 0, .int .i64 0, .int .i64 0, .int .i64 0], cellsR w1.heap.size 47 #[.int .i64 pw, .int .i64 x0, .int .i64 x1, .int .i64 tx, .int .i64 ux, .int .i64 ox]]) ?hP ?_
  case hP =>
    exact sl_drew (sl_box HS.out #[.int .i64 pw, .int .i64 x0, .int .i64 x1, .int .i64 tx, .int .i64 ux, .int .i64 ox] 47)
  obtain ⟨n1, en1⟩ : ∃ n, w1.heap.size = n := ⟨_, rfl⟩
  rw [en1]
  clear en1
  intro w2 hs
  replace HS := Aside0.mk hs
  clear hs
  refine start_ (n := 22) (S := fun w' => SL w w' [cellsR b0 28 #[.int .i64 pw, .int .i64 ph, .int .i64 x0, .int .i64 y0, .int .i64 x1, .int .i64 y1, .int .i64 m, .int .i64 k, .int .i64 ad, .int .i64 ox, .int .i64 oy], cellsR b1 47 #[.int .i64 0, .int .i64 0, .int .i64 0, .int .i64 0, .int .i64 0, .int .i64 0], cellsR b2 47 #[.int .i64 0, .int .i64 0, .int .i64 0, .int .i64 0, .int .i64 0, .int .i64 0], cellsR n1 47 #[.int .i64 pw, .int .i64 x0, .int .i64 x1, .int .i64 tx, .int .i64 ux, .int .i64 ox]] ∧ w'.cell? ⟨b0, 1, none⟩ = some (.int .i64 ph) ∧ w'.cell? ⟨b0, 3, none⟩ = some (.int .i64 y0) ∧ w'.cell? ⟨b0, 5, none⟩ = some (.int .i64 y1) ∧ w'.cell? ⟨b0, 6, none⟩ = some (.int .i64 m) ∧ w'.cell? ⟨b0, 7, none⟩ = some (.int .i64 k) ∧ w'.cell? ⟨b0, 10, none⟩ = some (.int .i64 oy) ∧ w'.cell? ⟨3, m, none⟩ = some (.int .i64 ty) ∧ w'.cell? ⟨3, k, none⟩ = some (.int .i64 uy)) (ds := [21]) #[false, false, false, false, false, false, false, false, false, false, false, false, false, false, false, false, false, false, false, false, false, false] (by kernel_rfl) rfl rfl ⟨(sl_drew HS.out), (blk_cell (sl_blk (sl_drew HS.out) 0 rfl) 1).trans (show _ = some (Value.int .i64 ph) from rfl), (blk_cell (sl_blk (sl_drew HS.out) 0 rfl) 3).trans (show _ = some (Value.int .i64 y0) from rfl), (blk_cell (sl_blk (sl_drew HS.out) 0 rfl) 5).trans (show _ = some (Value.int .i64 y1) from rfl), (blk_cell (sl_blk (sl_drew HS.out) 0 rfl) 6).trans (show _ = some (Value.int .i64 m) from rfl), (blk_cell (sl_blk (sl_drew HS.out) 0 rfl) 7).trans (show _ = some (Value.int .i64 k) from rfl), (blk_cell (sl_blk (sl_drew HS.out) 0 rfl) 10).trans (show _ = some (Value.int .i64 oy) from rfl), (HX.out (sl_drew HS.out)).2.1, (HX.out (sl_drew HS.out)).2.2⟩ (fun hHeld => ?_)
  refine pure_ (i := 0) (N := some 26) (v := ?_) (a' := ?_) #[true, false, false, false, false, false, false, false, false, false, false, false, false, false, false, false, false, false, false, false, false, false] rfl rfl (by kernel_rfl) (fun _ _ _ h => h) (Or.inl ⟨by rfl, ?_⟩) ?_ ?_
  rotate_left
  · intro w'
    go_simp
    with_reducible rfl
  rotate_left
  · simp only [Act.put, List.setIfInBounds_toArray, List.set_cons_zero, List.set_cons_succ, i64_w, i32_w, IntKind.wrap_u32, IntKind.wrap_u8, IntKind.wrap_u16]
    rfl
  refine pure_ (i := 2) (N := some 28) (v := ?_) (a' := ?_) #[true, false, true, false, false, false, false, false, false, false, false, false, false, false, false, false, false, false, false, false, false, false] rfl rfl (by kernel_rfl) (fun _ _ _ h => h) (Or.inl ⟨by rfl, ?_⟩) ?_ ?_
  rotate_left
  · intro w'
    go_simp
    with_reducible rfl
  rotate_left
  · simp only [Act.put, List.setIfInBounds_toArray, List.set_cons_zero, List.set_cons_succ, i64_w, i32_w, IntKind.wrap_u32, IntKind.wrap_u8, IntKind.wrap_u16]
    rfl
  refine pure_ (i := 3) (N := some 29) (v := ?_) (a' := ?_) #[true, false, true, true, false, false, false, false, false, false, false, false, false, false, false, false, false, false, false, false, false, false] rfl rfl (by kernel_rfl) (fun _ _ _ h => h) (Or.inl ⟨by rfl, ?_⟩) ?_ ?_
  rotate_left
  · intro w'
    go_simp
    with_reducible rfl
  rotate_left
  · simp only [Act.put, List.setIfInBounds_toArray, List.set_cons_zero, List.set_cons_succ, i64_w, i32_w, IntKind.wrap_u32, IntKind.wrap_u8, IntKind.wrap_u16]
    rfl
  refine pure_ (i := 5) (N := some 31) (v := ?_) (a' := ?_) #[true, false, true, true, false, true, false, false, false, false, false, false, false, false, false, false, false, false, false, false, false, false] rfl rfl (by kernel_rfl) (fun _ _ _ h => h) (Or.inl ⟨by rfl, ?_⟩) ?_ ?_
  rotate_left
  · intro w'
    go_simp
    with_reducible rfl
  rotate_left
  · simp only [Act.put, List.setIfInBounds_toArray, List.set_cons_zero, List.set_cons_succ, i64_w, i32_w, IntKind.wrap_u32, IntKind.wrap_u8, IntKind.wrap_u16]
    rfl
  refine pure_ (i := 6) (N := some 32) (v := ?_) (a' := ?_) #[true, false, true, true, false, true, true, false, false, false, false, false, false, false, false, false, false, false, false, false, false, false] rfl rfl (by kernel_rfl) (fun _ _ _ h => h) (Or.inl ⟨by rfl, ?_⟩) ?_ ?_
  rotate_left
  · intro w'
    go_simp
    with_reducible rfl
  rotate_left
  · simp only [Act.put, List.setIfInBounds_toArray, List.set_cons_zero, List.set_cons_succ, i64_w, i32_w, IntKind.wrap_u32, IntKind.wrap_u8, IntKind.wrap_u16]
    rfl
  refine pure_ (i := 8) (N := some 34) (v := ?_) (a' := ?_) #[true, false, true, true, false, true, true, false, true, false, false, false, false, false, false, false, false, false, false, false, false, false] rfl rfl (by kernel_rfl) (fun _ _ _ h => h) (Or.inl ⟨by rfl, ?_⟩) ?_ ?_
  rotate_left
  · intro w'
    go_simp
    with_reducible rfl
  rotate_left
  · simp only [Act.put, List.setIfInBounds_toArray, List.set_cons_zero, List.set_cons_succ, i64_w, i32_w, IntKind.wrap_u32, IntKind.wrap_u8, IntKind.wrap_u16]
    rfl
  refine pure_ (i := 12) (N := some 38) (v := ?_) (a' := ?_) #[true, false, true, true, false, true, true, false, true, false, false, false, true, false, false, false, false, false, false, false, false, false] rfl rfl (by kernel_rfl) (fun _ _ _ h => h) (Or.inl ⟨by rfl, ?_⟩) ?_ ?_
  rotate_left
  · intro w'
    go_simp
    with_reducible rfl
  rotate_left
  · simp only [Act.put, List.setIfInBounds_toArray, List.set_cons_zero, List.set_cons_succ, i64_w, i32_w, IntKind.wrap_u32, IntKind.wrap_u8, IntKind.wrap_u16]
    rfl
  refine pure_ (i := 16) (N := some 42) (v := ?_) (a' := ?_) #[true, false, true, true, false, true, true, false, true, false, false, false, true, false, false, false, true, false, false, false, false, false] rfl rfl (by kernel_rfl) (fun _ _ _ h => h) (Or.inl ⟨by rfl, ?_⟩) ?_ ?_
  rotate_left
  · intro w'
    go_simp
    with_reducible rfl
  rotate_left
  · simp only [Act.put, List.setIfInBounds_toArray, List.set_cons_zero, List.set_cons_succ, i64_w, i32_w, IntKind.wrap_u32, IntKind.wrap_u8, IntKind.wrap_u16]
    rfl
  refine pure_ (i := 17) (N := some 43) (v := ?_) (a' := ?_) #[true, false, true, true, false, true, true, false, true, false, false, false, true, false, false, false, true, true, false, false, false, false] rfl rfl (by kernel_rfl) (fun _ _ _ h => h) (Or.inl ⟨by rfl, ?_⟩) ?_ ?_
  rotate_left
  · intro w'
    go_simp
    with_reducible rfl
  rotate_left
  · simp only [Act.put, List.setIfInBounds_toArray, List.set_cons_zero, List.set_cons_succ, i64_w, i32_w, IntKind.wrap_u32, IntKind.wrap_u8, IntKind.wrap_u16]
    rfl
  refine take_ (i := 1) (N := some 27) (v := ?_) (a' := ?_) #[true, true, true, true, false, true, true, false, true, false, false, false, true, false, false, false, true, true, false, false, false, false] rfl rfl (by kernel_rfl) (fun _ _ _ h => h) (Or.inl ⟨by rfl, ?_⟩) hHeld ?_ ?_
  rotate_left
  · rintro w' ⟨s0, s1, s2, s3, s4, s5, s6, s7, s8⟩
    go_simp
    with_reducible rfl
  rotate_left
  · simp only [Act.put, List.setIfInBounds_toArray, List.set_cons_zero, List.set_cons_succ, i64_w, i32_w, IntKind.wrap_u32, IntKind.wrap_u8, IntKind.wrap_u16]
    rfl
  refine take_ (i := 4) (N := some 30) (v := ?_) (a' := ?_) #[true, true, true, true, true, true, true, false, true, false, false, false, true, false, false, false, true, true, false, false, false, false] rfl rfl (by kernel_rfl) (fun _ _ _ h => h) (Or.inl ⟨by rfl, ?_⟩) hHeld ?_ ?_
  rotate_left
  · rintro w' ⟨s0, s1, s2, s3, s4, s5, s6, s7, s8⟩
    go_simp
    with_reducible rfl
  rotate_left
  · simp only [Act.put, List.setIfInBounds_toArray, List.set_cons_zero, List.set_cons_succ, i64_w, i32_w, IntKind.wrap_u32, IntKind.wrap_u8, IntKind.wrap_u16]
    rfl
  refine take_ (i := 7) (N := some 33) (v := ?_) (a' := ?_) #[true, true, true, true, true, true, true, true, true, false, false, false, true, false, false, false, true, true, false, false, false, false] rfl rfl (by kernel_rfl) (fun _ _ _ h => h) (Or.inl ⟨by rfl, ?_⟩) hHeld ?_ ?_
  rotate_left
  · rintro w' ⟨s0, s1, s2, s3, s4, s5, s6, s7, s8⟩
    go_simp
    with_reducible rfl
  rotate_left
  · simp only [Act.put, List.setIfInBounds_toArray, List.set_cons_zero, List.set_cons_succ, i64_w, i32_w, IntKind.wrap_u32, IntKind.wrap_u8, IntKind.wrap_u16]
    rfl
  refine take_ (i := 9) (N := some 35) (v := ?_) (a' := ?_) #[true, true, true, true, true, true, true, true, true, true, false, false, true, false, false, false, true, true, false, false, false, false] rfl rfl (by kernel_rfl) (fun _ _ _ h => h) (Or.inl ⟨by rfl, ?_⟩) hHeld ?_ ?_
  rotate_left
  · rintro w' ⟨s0, s1, s2, s3, s4, s5, s6, s7, s8⟩
    go_simp
    with_reducible rfl
  rotate_left
  · simp only [Act.put, List.setIfInBounds_toArray, List.set_cons_zero, List.set_cons_succ, i64_w, i32_w, IntKind.wrap_u32, IntKind.wrap_u8, IntKind.wrap_u16]
    rfl
  refine pure_ (i := 10) (N := some 36) (v := ?_) (a' := ?_) #[true, true, true, true, true, true, true, true, true, true, true, false, true, false, false, false, true, true, false, false, false, false] rfl rfl (by kernel_rfl) (fun _ _ _ h => h) (Or.inl ⟨by rfl, ?_⟩) ?_ ?_
  rotate_left
  · intro w'
    go_simp
    with_reducible rfl
  rotate_left
  · simp only [Act.put, List.setIfInBounds_toArray, List.set_cons_zero, List.set_cons_succ, i64_w, i32_w, IntKind.wrap_u32, IntKind.wrap_u8, IntKind.wrap_u16]
    rfl
  refine take_ (i := 11) (N := some 37) (v := ?_) (a' := ?_) #[true, true, true, true, true, true, true, true, true, true, true, true, true, false, false, false, true, true, false, false, false, false] rfl rfl (by kernel_rfl) (fun _ _ _ h => h) (Or.inl ⟨by rfl, ?_⟩) hHeld ?_ ?_
  rotate_left
  · rintro w' ⟨s0, s1, s2, s3, s4, s5, s6, s7, s8⟩
    go_simp
    with_reducible rfl
  rotate_left
  · simp only [Act.put, List.setIfInBounds_toArray, List.set_cons_zero, List.set_cons_succ, i64_w, i32_w, IntKind.wrap_u32, IntKind.wrap_u8, IntKind.wrap_u16]
    rfl
  refine take_ (i := 13) (N := some 39) (v := ?_) (a' := ?_) #[true, true, true, true, true, true, true, true, true, true, true, true, true, true, false, false, true, true, false, false, false, false] rfl rfl (by kernel_rfl) (fun _ _ _ h => h) (Or.inl ⟨by rfl, ?_⟩) hHeld ?_ ?_
  rotate_left
  · rintro w' ⟨s0, s1, s2, s3, s4, s5, s6, s7, s8⟩
    go_simp
    with_reducible rfl
  rotate_left
  · simp only [Act.put, List.setIfInBounds_toArray, List.set_cons_zero, List.set_cons_succ, i64_w, i32_w, IntKind.wrap_u32, IntKind.wrap_u8, IntKind.wrap_u16]
    rfl
  refine pure_ (i := 14) (N := some 40) (v := ?_) (a' := ?_) #[true, true, true, true, true, true, true, true, true, true, true, true, true, true, true, false, true, true, false, false, false, false] rfl rfl (by kernel_rfl) (fun _ _ _ h => h) (Or.inl ⟨by rfl, ?_⟩) ?_ ?_
  rotate_left
  · intro w'
    go_simp
    with_reducible rfl
  rotate_left
  · simp only [Act.put, List.setIfInBounds_toArray, List.set_cons_zero, List.set_cons_succ, i64_w, i32_w, IntKind.wrap_u32, IntKind.wrap_u8, IntKind.wrap_u16]
    rfl
  refine take_ (i := 15) (N := some 41) (v := ?_) (a' := ?_) #[true, true, true, true, true, true, true, true, true, true, true, true, true, true, true, true, true, true, false, false, false, false] rfl rfl (by kernel_rfl) (fun _ _ _ h => h) (Or.inl ⟨by rfl, ?_⟩) hHeld ?_ ?_
  rotate_left
  · rintro w' ⟨s0, s1, s2, s3, s4, s5, s6, s7, s8⟩
    go_simp
    with_reducible rfl
  rotate_left
  · simp only [Act.put, List.setIfInBounds_toArray, List.set_cons_zero, List.set_cons_succ, i64_w, i32_w, IntKind.wrap_u32, IntKind.wrap_u8, IntKind.wrap_u16]
    rfl
  refine take_ (i := 18) (N := some 44) (v := ?_) (a' := ?_) #[true, true, true, true, true, true, true, true, true, true, true, true, true, true, true, true, true, true, true, false, false, false] rfl rfl (by kernel_rfl) (fun _ _ _ h => h) (Or.inl ⟨by rfl, ?_⟩) hHeld ?_ ?_
  rotate_left
  · rintro w' ⟨s0, s1, s2, s3, s4, s5, s6, s7, s8⟩
    go_simp
    with_reducible rfl
  rotate_left
  · simp only [Act.put, List.setIfInBounds_toArray, List.set_cons_zero, List.set_cons_succ, i64_w, i32_w, IntKind.wrap_u32, IntKind.wrap_u8, IntKind.wrap_u16]
    rfl
  refine pure_ (i := 19) (N := some 45) (v := ?_) (a' := ?_) #[true, true, true, true, true, true, true, true, true, true, true, true, true, true, true, true, true, true, true, true, false, false] rfl rfl (by kernel_rfl) (fun _ _ _ h => h) (Or.inl ⟨by rfl, ?_⟩) ?_ ?_
  rotate_left
  · intro w'
    go_simp
    with_reducible rfl
  rotate_left
  · simp only [Act.put, List.setIfInBounds_toArray, List.set_cons_zero, List.set_cons_succ, i64_w, i32_w, IntKind.wrap_u32, IntKind.wrap_u8, IntKind.wrap_u16]
    rfl
  refine one_ (i := 20) (N := some 5) #[true, true, true, true, true, true, true, true, true, true, true, true, true, true, true, true, true, true, true, true, true, false] rfl rfl (by kernel_rfl) (by decide) (fun K hK => ?_)
  refine value_ (w1 := ?_) (v := ?_) (by rfl) rfl ?_ ?_
  rotate_left 2
  · go_simp
    constructor
    · rfl
    · rfl
  refine hK.out _ _ ⟨(sl_alloc hHeld.1 _), (blk_cell (sl_blk (sl_alloc hHeld.1 _) 0 rfl) 1).trans (show _ = some (Value.int .i64 ph) from rfl), (blk_cell (sl_blk (sl_alloc hHeld.1 _) 0 rfl) 3).trans (show _ = some (Value.int .i64 y0) from rfl), (blk_cell (sl_blk (sl_alloc hHeld.1 _) 0 rfl) 5).trans (show _ = some (Value.int .i64 y1) from rfl), (blk_cell (sl_blk (sl_alloc hHeld.1 _) 0 rfl) 6).trans (show _ = some (Value.int .i64 m) from rfl), (blk_cell (sl_blk (sl_alloc hHeld.1 _) 0 rfl) 7).trans (show _ = some (Value.int .i64 k) from rfl), (blk_cell (sl_blk (sl_alloc hHeld.1 _) 0 rfl) 10).trans (show _ = some (Value.int .i64 oy) from rfl), (HX.out (sl_alloc hHeld.1 _)).2.1, (HX.out (sl_alloc hHeld.1 _)).2.2⟩ (fun hHeld => ?_)
  clear hK K
  refine norm_ (a' := ?_) ?_ ?_
  rotate_left
  · show Act.put _ (some 5) _ = _
    simp only [Act.put, List.setIfInBounds_toArray, List.set_cons_zero, List.set_cons_succ, i64_w, i32_w, IntKind.wrap_u32, IntKind.wrap_u8, IntKind.wrap_u16]
    rfl
  refine last_ (i := 21) (N := none) #[true, true, true, true, true, true, true, true, true, true, true, true, true, true, true, true, true, true, true, true, true, true] rfl rfl (by kernel_rfl) (by decide) (fun K hK => ?_)
  refine skip_ (w1 := ?_) (by rfl) rfl ?_ ?_
  rotate_left
  · go_simp
    rfl
  refine hK.out _ _ ?_
  clear hK K
  refine done_ (by kernel_rfl) ?_
  go_upto_region 3 with (fail)
  refine world_gen (F := fun w_ => Code.wp Tryd.prog _ _ _ w_) (fun w_ => SL w w_ [cellsR b0 28 #[.int .i64 pw, .int .i64 ph, .int .i64 x0, .int .i64 y0, .int .i64 x1, .int .i64 y1, .int .i64 m, .int .i64 k, .int .i64 ad, .int .i64 ox, .int .i64 oy], cellsR b1 47 #[.int .i64 0, .int .i64 0, .int .i64 0, .int .i64 0, .int .i64 0, .int .i64 0], cellsR b2 47 #[.int .i64 0, .int .i64 0, .int .i64 0, .int .i64 0, .int .i64 0, .int .i64 0], cellsR n1 47 #[.int .i64 pw, .int .i64 x0, .int .i64 x1, .int .i64 tx, .int .i64 ux, .int .i64 ox], cellsR w2.heap.size 47 #[.int .i64 ph, .int .i64 y0, .int .i64 y1, .int .i64 ty, .int .i64 uy, .int .i64 oy]]) ?hP ?_
  case hP =>
    exact sl_drew (sl_box HS.out #[.int .i64 ph, .int .i64 y0, .int .i64 y1, .int .i64 ty, .int .i64 uy, .int .i64 oy] 47)
  obtain ⟨n2, en2⟩ : ∃ n, w2.heap.size = n := ⟨_, rfl⟩
  rw [en2]
  clear en2
  intro w3 hs
  replace HS := Aside0.mk hs
  clear hs
  have hlt1 := blk_lt (sl_blk HS.out 1 rfl)
  have hlt2 := blk_lt (sl_blk HS.out 2 rfl)
  have hi47 : (Tryd.prog.info? 47).map (·.size) = some 6 := by kernel_rfl
  have N1 := Aside0.mk (sl_ne HS.out 3 1 (by decide) rfl rfl)
  have N2 := Aside0.mk (sl_ne HS.out 4 1 (by decide) rfl rfl)

  refine start_ (n := 4) (S := fun w' => w'.cell? ⟨n1, 0, none⟩ = some (.int .i64 pw) ∧ w'.cell? ⟨n1, 1, none⟩ = some (.int .i64 x0) ∧ w'.cell? ⟨n1, 2, none⟩ = some (.int .i64 x1) ∧ w'.cell? ⟨n1, 3, none⟩ = some (.int .i64 tx) ∧ w'.cell? ⟨n1, 4, none⟩ = some (.int .i64 ux) ∧ w'.cell? ⟨n1, 5, none⟩ = some (.int .i64 ox) ∧ w'.cell? ⟨n2, 0, none⟩ = some (.int .i64 ph) ∧ w'.cell? ⟨n2, 1, none⟩ = some (.int .i64 y0) ∧ w'.cell? ⟨n2, 2, none⟩ = some (.int .i64 y1) ∧ w'.cell? ⟨n2, 3, none⟩ = some (.int .i64 ty) ∧ w'.cell? ⟨n2, 4, none⟩ = some (.int .i64 uy) ∧ w'.cell? ⟨n2, 5, none⟩ = some (.int .i64 oy)) (ds := [3]) #[false, false, false, false] (by kernel_rfl) rfl rfl ⟨(blk_cell (sl_blk (sl_drew HS.out) 3 rfl) 0).trans (show _ = some (Value.int .i64 pw) from rfl), (blk_cell (sl_blk (sl_drew HS.out) 3 rfl) 1).trans (show _ = some (Value.int .i64 x0) from rfl), (blk_cell (sl_blk (sl_drew HS.out) 3 rfl) 2).trans (show _ = some (Value.int .i64 x1) from rfl), (blk_cell (sl_blk (sl_drew HS.out) 3 rfl) 3).trans (show _ = some (Value.int .i64 tx) from rfl), (blk_cell (sl_blk (sl_drew HS.out) 3 rfl) 4).trans (show _ = some (Value.int .i64 ux) from rfl), (blk_cell (sl_blk (sl_drew HS.out) 3 rfl) 5).trans (show _ = some (Value.int .i64 ox) from rfl), (blk_cell (sl_blk (sl_drew HS.out) 4 rfl) 0).trans (show _ = some (Value.int .i64 ph) from rfl), (blk_cell (sl_blk (sl_drew HS.out) 4 rfl) 1).trans (show _ = some (Value.int .i64 y0) from rfl), (blk_cell (sl_blk (sl_drew HS.out) 4 rfl) 2).trans (show _ = some (Value.int .i64 y1) from rfl), (blk_cell (sl_blk (sl_drew HS.out) 4 rfl) 3).trans (show _ = some (Value.int .i64 ty) from rfl), (blk_cell (sl_blk (sl_drew HS.out) 4 rfl) 4).trans (show _ = some (Value.int .i64 uy) from rfl), (blk_cell (sl_blk (sl_drew HS.out) 4 rfl) 5).trans (show _ = some (Value.int .i64 oy) from rfl)⟩ (fun hHeld => ?_)
  refine take_ (i := 0) (N := some 46) (v := ?_) (a' := ?_) #[true, false, false, false] rfl rfl (by kernel_rfl) (fun _ _ _ h => h) (Or.inl ⟨by rfl, ?_⟩) hHeld ?_ ?_
  rotate_left
  · rintro w' ⟨s0, s1, s2, s3, s4, s5, s6, s7, s8, s9, s10, s11⟩
    go_simp
    with_reducible rfl
  rotate_left
  · simp only [Act.put, List.setIfInBounds_toArray, List.set_cons_zero, List.set_cons_succ, i64_w, i32_w, IntKind.wrap_u32, IntKind.wrap_u8, IntKind.wrap_u16]
    rfl
  refine take_ (i := 1) (N := some 47) (v := ?_) (a' := ?_) #[true, true, false, false] rfl rfl (by kernel_rfl) (fun _ _ _ h => h) (Or.inl ⟨by rfl, ?_⟩) hHeld ?_ ?_
  rotate_left
  · rintro w' ⟨s0, s1, s2, s3, s4, s5, s6, s7, s8, s9, s10, s11⟩
    go_simp
    with_reducible rfl
  rotate_left
  · simp only [Act.put, List.setIfInBounds_toArray, List.set_cons_zero, List.set_cons_succ, i64_w, i32_w, IntKind.wrap_u32, IntKind.wrap_u8, IntKind.wrap_u16]
    rfl
  refine one_ (i := 2) (N := none) #[true, true, true, false] rfl rfl (by kernel_rfl) (by decide) (fun K hK => ?_)
  rw [if_pos (by rfl)]
  refine wp_store_row 47 _ _ rfl b1 #[.int .i64 pw, .int .i64 x0, .int .i64 x1, .int .i64 tx, .int .i64 ux, .int .i64 ox] rfl rfl 47 #[.int .i64 0, .int .i64 0, .int .i64 0, .int .i64 0, .int .i64 0, .int .i64 0] (sl_blk (sl_drew HS.out) 1 rfl) hi47 rfl (by simp [Value.oneCell']) ?_
  refine hK.out _ _ ⟨cell_row N1.out _ (hHeld.1), cell_row N1.out _ (hHeld.2.1), cell_row N1.out _ (hHeld.2.2.1), cell_row N1.out _ (hHeld.2.2.2.1), cell_row N1.out _ (hHeld.2.2.2.2.1), cell_row N1.out _ (hHeld.2.2.2.2.2.1), cell_row N2.out _ (hHeld.2.2.2.2.2.2.1), cell_row N2.out _ (hHeld.2.2.2.2.2.2.2.1), cell_row N2.out _ (hHeld.2.2.2.2.2.2.2.2.1), cell_row N2.out _ (hHeld.2.2.2.2.2.2.2.2.2.1), cell_row N2.out _ (hHeld.2.2.2.2.2.2.2.2.2.2.1), cell_row N2.out _ (hHeld.2.2.2.2.2.2.2.2.2.2.2)⟩ (fun hHeld => ?_)
  clear hK K
  refine last_ (i := 3) (N := none) #[true, true, true, true] rfl rfl (by kernel_rfl) (by decide) (fun K hK => ?_)
  rw [if_pos (by rfl)]
  refine wp_store_row 47 _ _ rfl b2 #[.int .i64 ph, .int .i64 y0, .int .i64 y1, .int .i64 ty, .int .i64 uy, .int .i64 oy] rfl rfl 47 #[.int .i64 0, .int .i64 0, .int .i64 0, .int .i64 0, .int .i64 0, .int .i64 0] (sl_blk (sl_row (sl_drew HS.out) 1 rfl #[.int .i64 pw, .int .i64 x0, .int .i64 x1, .int .i64 tx, .int .i64 ux, .int .i64 ox]) 2 rfl) hi47 rfl (by simp [Value.oneCell']) ?_
  refine hK.out _ _ ?_
  clear hK K
  refine done_ (by kernel_rfl) ?_
  have hfin : SL w _ [cellsR b0 28 #[.int .i64 pw, .int .i64 ph, .int .i64 x0, .int .i64 y0, .int .i64 x1, .int .i64 y1, .int .i64 m, .int .i64 k, .int .i64 ad, .int .i64 ox, .int .i64 oy], cellsR b1 47 #[.int .i64 pw, .int .i64 x0, .int .i64 x1, .int .i64 tx, .int .i64 ux, .int .i64 ox], cellsR b2 47 #[.int .i64 ph, .int .i64 y0, .int .i64 y1, .int .i64 ty, .int .i64 uy, .int .i64 oy], cellsR n1 47 #[.int .i64 pw, .int .i64 x0, .int .i64 x1, .int .i64 tx, .int .i64 ux, .int .i64 ox], cellsR n2 47 #[.int .i64 ph, .int .i64 y0, .int .i64 y1, .int .i64 ty, .int .i64 uy, .int .i64 oy]] := sl_row (sl_row (sl_drew HS.out) 1 rfl #[.int .i64 pw, .int .i64 x0, .int .i64 x1, .int .i64 tx, .int .i64 ux, .int .i64 ox]) 2 rfl #[.int .i64 ph, .int .i64 y0, .int .i64 y1, .int .i64 ty, .int .i64 uy, .int .i64 oy]
  go_wp2
  refine bodyPost_ret (results_cc rfl _ _ b1 b2 47 47 #[.int .i64 pw, .int .i64 x0, .int .i64 x1, .int .i64 tx, .int .i64 ux, .int .i64 ox] #[.int .i64 ph, .int .i64 y0, .int .i64 y1, .int .i64 ty, .int .i64 uy, .int .i64 oy] (0, 0) (0, 0) _ _ (by rfl) (by exact sl_blk hfin 1 rfl) (by exact Tryd.underlying47) (by rfl) (by exact hi47) (by rfl) (by exact sl_blk hfin 2 rfl) (by exact Tryd.underlying47) (by rfl) (by exact hi47)) rfl ?_
  exact ⟨rfl, sl_below H.out (sl_below0 hfin)⟩
def posV (p : Pos) : Value := .agg #[.int .i64 p.w, .int .i64 p.h, .int .i64 p.x0, .int .i64 p.y0, .int .i64 p.x1, .int .i64 p.y1, .int .i64 p.ae, .int .i64 p.gr, .int .i64 p.ad, .int .i64 p.ox, .int .i64 p.oy]
section
variable {w0 w : World} {L : List Res}
theorem place_c (h : SL w0 w L) (a0 a1 len an gr off : Int) (h0 : -16384 ≤ a0) (h1 : a0 ≤ 16384) (h2 : -16384 ≤ a1) (h3 : a1 ≤ 16384) (h4 : 0 ≤ len) (h5 : len ≤ 16384) (h6 : -16384 ≤ off) (h7 : off ≤ 16384) :
    Calls Tryd.prog 30 #[.agg #[.int .i64 len, .int .i64 a0, .int .i64 a1, .int .i64 an, .int .i64 gr, .int .i64 off]] w fun e w' => e = .returned (.int .i64 (plc a0 a1 len an gr off)) ∧ SL w0 w' L := by
  refine (popup_axis_place.calls 1 _ _ _ _ _ _ _ w (f_place a0 a1 len an gr off h0 h1 h2 h3 h4 h5 h6 h7)).mono ?_
  rintro e w' ⟨rfl, hb⟩
  exact ⟨rfl, sl_below h hb⟩
set_option maxRecDepth 100000 in
theorem flipped_c (h : SL w0 w L) (a0 a1 len an gr off : Int) (ha : -1 ≤ an ∧ an ≤ 1) (hg : -1 ≤ gr ∧ gr ≤ 1) (ho : -16384 ≤ off ∧ off ≤ 16384) :
    Calls Tryd.prog 34 #[.agg #[.int .i64 len, .int .i64 a0, .int .i64 a1, .int .i64 an, .int .i64 gr, .int .i64 off]] w fun e w' => e = .returned (.agg #[.int .i64 len, .int .i64 a0, .int .i64 a1, .int .i64 (-an), .int .i64 (-gr), .int .i64 (-off)]) ∧ SL w0 w' L := by
  obtain ⟨ha0, ha1⟩ := ha
  obtain ⟨hg0, hg1⟩ := hg
  obtain ⟨ho0, ho1⟩ := ho
  have HS := Aside0.mk h
  have e1 : wrap64 (-an) = -an := w64 (by omega) (by omega)
  have e2 : wrap64 (-gr) = -gr := w64 (by omega) (by omega)
  have e3 : wrap64 (-off) = -off := w64 (by omega) (by omega)
  clear h
  go_enter Tryd.func34, Tryd.ntmps34
  go_wp2
  have hs := sl_box (sl_box (sl_start w) #[.int .i64 len, .int .i64 a0, .int .i64 a1, .int .i64 (-an), .int .i64 (-gr), .int .i64 (-off)] 47) #[.int .i64 len, .int .i64 a0, .int .i64 a1, .int .i64 (-an), .int .i64 (-gr), .int .i64 (-off)] 47
  simp only [World.size_alloc] at hs
  refine bodyPost_ret (results_cell_row rfl _ _ (w.heap.size + 1) 47 #[.int .i64 len, .int .i64 a0, .int .i64 a1, .int .i64 (-an), .int .i64 (-gr), .int .i64 (-off)] (0, 0) _ (by rfl) (by exact sl_blk hs 1 rfl) (by exact Tryd.underlying47) (by rfl) (by kernel_rfl)) rfl ?_
  exact ⟨rfl, sl_below HS.out (sl_below0 hs)⟩
theorem fits_c (g1 g2 g3 : Nat) (at_ lo hi len : Int) (m1 : w.cell? ⟨g1, 0, none⟩ = some (.int .i64 lo)) (m2 : w.cell? ⟨g2, 0, none⟩ = some (.int .i64 len)) (m3 : w.cell? ⟨g3, 0, none⟩ = some (.int .i64 hi)) (h0 : -1000000 ≤ at_) (h1 : at_ ≤ 1000000) (h2 : 0 ≤ len) (h3 : len ≤ 16384) :
    Calls Tryd.prog 33 #[.int .i64 at_, .pointer (some ⟨g1, 0, none⟩), .pointer (some ⟨g2, 0, none⟩), .pointer (some ⟨g3, 0, none⟩)] w fun e w' => e = .returned (.bool (fit lo hi len at_)) ∧ w = w' := by
  have e1 : wrap64 (at_ + len) = at_ + len := w64 (by omega) (by omega)
  by_cases hl : lo ≤ at_
  · have b1 : decide (lo ≤ at_) = true := decide_eq_true hl
    go_enter Tryd.func33, Tryd.ntmps33
    go_wp2
    go_ret
    exact ⟨by unfold fit; rw [b1]; rfl, rfl⟩
  · have b1 : decide (lo ≤ at_) = false := decide_eq_false hl
    go_enter Tryd.func33, Tryd.ntmps33
    go_wp2
    go_ret
    exact ⟨by unfold fit; rw [b1]; rfl, rfl⟩
theorem fits_s (g1 g2 g3 : Nat) (at_ lo hi len : Int) (b c d e f : Value) (h : SL w0 w [cellsR g2 47 #[.int .i64 len, b, c, d, e, f], cellsR g1 3 #[.int .i64 lo], cellsR g3 3 #[.int .i64 hi]]) (h0 : -1000000 ≤ at_) (h1 : at_ ≤ 1000000) (h2 : 0 ≤ len) (h3 : len ≤ 16384) :
    Calls Tryd.prog 33 #[.int .i64 at_, .pointer (some ⟨g1, 0, none⟩), .pointer (some ⟨g2, 0, none⟩), .pointer (some ⟨g3, 0, none⟩)] w fun e_ w' => e_ = .returned (.bool (fit lo hi len at_)) ∧ SL w0 w' [cellsR g2 47 #[.int .i64 len, b, c, d, e, f], cellsR g1 3 #[.int .i64 lo], cellsR g3 3 #[.int .i64 hi]] := by
  refine (fits_c g1 g2 g3 at_ lo hi len ((blk_cell (sl_blk h 1 rfl) 0).trans rfl) ((blk_cell (sl_blk h 0 rfl) 0).trans rfl) ((blk_cell (sl_blk h 2 rfl) 0).trans rfl) h0 h1 h2 h3).mono ?_
  rintro e w' ⟨rfl, rfl⟩
  exact ⟨rfl, h⟩
end
end Go.Proofs.YtinchgipfaefbaaDoor.Q
