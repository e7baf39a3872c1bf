import Derived.Test.YtipmcklkflgppaaRf
namespace Go.Proofs.Ytipmcklkflgppaa.Q
open Go.RowKit Go.Proofs.YtipmcklkflgppaaW.PrintWords Go.Proofs.YtipmcklkflgppaaW.PrintLast Go.Proofs.YtipmcklkflgppaaW.PrintMore Go.Proofs.Ytipmcklkflgppaa.Sl Go.Proofs.Ytipmcklkflgppaa.Hand Go.Proofs.Ytipmcklkflgppaa.Plain
attribute [local go_sem] max2_int min2_int max_two min_two max_three min_three max_four min_four 
set_option linter.unusedVariables false
set_option linter.unusedSimpArgs false

theorem cell_b {w : World} {g t i : Nat} {cs : Array Value} {v : Value} (h : w.heap[g]? = some (.cells cs t (0, 0))) (hv : cs[i]? = some v) : w.cell? ⟨g, i, none⟩ = some v := (blk_cell h i).trans hv
theorem rFeed_sl {w0 w : World} {L : List Res} (h : SL w0 w L) (q : DSt) (A : Option Addr) (c : Nat) (B : Option Addr) (cb : Nat) (b : List Int) {F : List S25} {E : Int} {Q : DSt} (hF : feedF q b = F) (hE : feedE q b = E) (hQ : feedS q b = Q) (hA : Kd.C (Kd.int .u8) w A q.bytes.length q.bytes) (hz : q.closed = true → q.bytes = [] ∧ A = none ∧ c = 0) (hr : Kd.C (Kd.int .u8) w B b.length b) (hq : ∀ x ∈ q.bytes, 0 ≤ x ∧ x < 256) (hb : ∀ x ∈ b, 0 ≤ x ∧ x < 256) (hl : q.bytes.length + b.length ≤ 1000000) :
    Calls Try.prog 21 #[.agg #[.slice A q.bytes.length c, .bool q.closed], .slice B b.length cb] w fun e w' => ∃ s : Option Addr × Nat × Option Addr × Nat, e = .returned (.tuple #[.agg #[.slice s.1 Q.bytes.length s.2.1, .bool Q.closed], .slice s.2.2.1 F.length s.2.2.2, .int .i64 E]) ∧ (Q.closed = true → s.1 = none ∧ s.2.1 = 0) ∧
      SL w0 w' (L ++ [row8 (.slice s.1 Q.bytes.length s.2.1) Q.bytes, rowF w0 (.slice s.2.2.1 F.length s.2.2.2) F]) := by
  subst hF; subst hE; subst hQ
  refine (rFeed_in q A c B cb b w hA hz hr hq hb hl).mono ?_
  rintro e w' ⟨A', c', Af, cf, h1, h2, bs, h3, h4⟩
  refine ⟨(A', c', Af, cf), h1, h2, ?_⟩
  have h5 := sl_TN (sl_new2 h h4) (L.length + 1) (Nat.le_trans h.1.size h3) (by rw [List.getElem?_append_right (by omega), show L.length + 1 - L.length = 1 by omega]; rfl)
  rw [List.set_append_right _ _ (by omega), show L.length + 1 - L.length = 1 by omega] at h5
  exact h5
theorem rNew_sl {w0 w : World} {L : List Res} (h : SL w0 w L) : Calls Try.prog 20 #[] w fun e w' => e = .returned (.agg #[.slice none 0 0, .bool false]) ∧ SL w0 w' L :=
  (rNew_calls w).mono fun e w' ⟨h1, h2⟩ => ⟨h1, sl_below h h2⟩
theorem rBuf_sl {w0 w : World} {L : List Res} (h : SL w0 w L) (A : Option Addr) (n c : Nat) (cl : Bool) : Calls Try.prog 22 #[.agg #[.slice A n c, .bool cl]] w fun e w' => e = .returned (.int .i64 (n : Int)) ∧ SL w0 w' L :=
  (rBuf_calls A n c cl w).mono fun e w' ⟨h1, h2⟩ => ⟨h1, sl_below h h2⟩
theorem same_sl {w0 w : World} {L : List Res} (h : SL w0 w L) {A B : Option Addr} {c d : Nat} (l : List S25) (i j : Nat) (hl : l.length ≤ 1000000) (hi : L[i]? = some (rowF w0 (.slice A l.length c) l)) (hj : L[j]? = some (rowF w0 (.slice B l.length d) l)) :
    Calls Try.prog 15 #[.slice A l.length c, .slice B l.length d] w fun e w' => e = .returned (.bool true) ∧ SL w0 w' L :=
  (same_yes l hl (sl_readsN' h i hi).2.2 (sl_readsN' h i hi).2.1 (sl_readsN' h j hj).2.2 (sl_readsN' h j hj).2.1).mono fun e w' ⟨h1, n, h2⟩ => ⟨h1, by rw [h2]; exact sl_drewN h n⟩
theorem Buf_sl2 {w0 w : World} {L : List Res} (h : SL w0 w L) (i : Nat) {g : Nat} {q : DSt} (hi : L[i]? = some (decR g q)) : Calls Try.prog 18 #[.pointer (some ⟨g, 0, none⟩)] w fun e w' => e = .returned (.int .i64 (q.bytes.length : Int)) ∧ SL w0 w' L :=
  (Buf_sl h i hi).mono fun e w' ⟨h1, h2⟩ => ⟨h1, h2 ▸ h⟩
set_option maxHeartbeats 16000000 in
set_option maxRecDepth 100000 in
theorem Decoder_calls (A : Option Addr) (c : Nat) (l : List (List Int)) (w : World) (hr : Kd.C kBB w A l.length l) (hg : ∀ x ∈ l, (∀ y ∈ x, 0 ≤ y ∧ y < 256) ∧ x.length ≤ 140737488351232) :
    Calls Try.prog 8 #[.slice A l.length c] w fun e w' => e = .returned (.bool true) ∧ Below w.heap.size w w' := by
  have HR := Aside0.mk hr
  have HG := Aside0.mk (fun x hx => (hg x hx).1)
  have HLong := Aside0.mk (fun w => long_calls A c l w)
  have HGl := Aside0.mk (fun x hx => (hg x hx).2)
  have hm := hr.2.1
  have HS := Aside0.mk (sl_start w)
  clear hr hg
  by_cases hl : 40 < l.length ∨ 20000 < l.flatten.length
  · have HD := Aside0.mk (show decide (40 < l.length ∨ 20000 < l.flatten.length) = true from decide_eq_true hl)
    clear hl
    go_enter Try.func8, Try.ntmps8
    go_wp2_with (first
        | (go_at_call 19; refine (HLong.out _ (Kd.C_below HR.out (sl_below0 (by repeat (with_reducible first | exact HS.out | apply sl_drewN | apply sl_drew | apply sl_alloc)))) HGl.out).mono ?_; rintro e w1 ⟨rfl, hb_⟩; rw [HD.out]; have hs := sl_below (by repeat (with_reducible first | exact HS.out | apply sl_drewN | apply sl_drew | apply sl_alloc)) hb_; clear hb_; (try simp only [World.size_alloc] at hs); replace HS := Aside0.mk hs; clear hs)
        | (go_at_call 10; refine (ex_sl (by repeat (with_reducible first | exact HS.out | apply sl_drewN | apply sl_drew | apply sl_alloc))).mono ?_; rintro e w1 ⟨rfl, hs⟩; (try simp only [World.size_alloc] at hs); replace HS := Aside0.mk hs; clear hs))
    go_ret
    exact ⟨rfl, sl_below0 HS.out⟩
  have HD := Aside0.mk (show decide (40 < l.length ∨ 20000 < l.flatten.length) = false from decide_eq_false hl)
  have HL := Aside0.mk hl
  clear hl
  go_enter Try.func8, Try.ntmps8
  go_upto_region 5 with (first
        | (go_at_call 19; refine (HLong.out _ (Kd.C_below HR.out (sl_below0 (by repeat (with_reducible first | exact HS.out | apply sl_drewN | apply sl_drew | apply sl_alloc)))) HGl.out).mono ?_; rintro e w1 ⟨rfl, hb_⟩; rw [HD.out]; have hs := sl_below (by repeat (with_reducible first | exact HS.out | apply sl_drewN | apply sl_drew | apply sl_alloc)) hb_; clear hb_; (try simp only [World.size_alloc] at hs); replace HS := Aside0.mk hs; clear hs)
        | (go_at_call 16; refine (D0_sl (by repeat (with_reducible first | exact HS.out | apply sl_drewN | apply sl_drew | apply sl_alloc))).mono ?_; rintro e w1 ⟨g, rfl, hs⟩; (try simp only [World.size_alloc] at hs); replace HS := Aside0.mk hs; clear hs)
        | (go_at_call 20; refine (rNew_sl (by repeat (with_reducible first | exact HS.out | apply sl_drewN | apply sl_drew | apply sl_alloc))).mono ?_; rintro e w1 ⟨rfl, hs⟩; (try simp only [World.size_alloc] at hs); replace HS := Aside0.mk hs; clear hs))
  have HSS := Aside0.mk (show SL w _ [decR g ⟨false, []⟩, cellsR w1.heap.size 49 #[.slice none 0 0, .bool false], row8 (.slice none 0 0) []] from sl_nil (sl_box HS.out #[.slice none 0 0, .bool false] 49) (Kd.int .u8) enc8 5)
  obtain ⟨gm, hgm⟩ : ∃ gm, gm = w1.heap.size := ⟨_, rfl⟩
  rw [← hgm] at HSS
  rw [← hgm]
  clear hgm HS
  go_loopg [18] l.length (fun kq v18 wr => ∃ (i : Nat) (q : DSt) (Ar : Option Addr) (cr : Nat), v18 = .int .i64 (i : Int) ∧ Aside0 (i + kq = l.length) ∧ Aside0 ((∀ x ∈ q.bytes, 0 ≤ x ∧ x < 256) ∧ q.bytes.length ≤ (pre l i).length ∧ (q.closed = true → q.bytes = [] ∧ Ar = none ∧ cr = 0)) ∧ Aside0 (SL w wr [decR g q, cellsR gm 49 #[.slice Ar q.bytes.length cr, .bool q.closed], row8 (.slice Ar q.bytes.length cr) q.bytes]))
  case atStart => exact ⟨0, ⟨false, []⟩, none, 0, rfl, ⟨by omega⟩, ⟨⟨by simp, by simp, fun h => by simp at h⟩⟩, HSS⟩
  case round =>
    clear HSS
    obtain ⟨i, q, Ar, cr, rfl, HI, HV, HS⟩ := hrel
    have hi := HI.out
    by_cases hlt : i < l.length
    · have b1 : decide (i < l.length) = true := decide_eq_true hlt
      obtain ⟨kq, rfl⟩ : ∃ m, gk = m + 1 := ⟨gk - 1, by omega⟩
      obtain ⟨ad, A2, c2, rfl, hc2, hx⟩ := atS HR.out i hlt
      have hps := pre_succ l i hlt
      have hple := pre_le l (i + 1)
      have hl2 := HL.out
      have hbx : ∀ y ∈ l.getD i [], 0 ≤ y ∧ y < 256 := HG.out _ (by simp [List.getD_eq_getElem?_getD, hlt])
      generalize l.getD i [] = x at hx hc2 hps hbx
      have t2 : (pre l i).length + x.length ≤ 20000 := by rw [hps, List.length_append] at hple; omega
      have t3 : (pre l (i + 1)).length = (pre l i).length + x.length := by rw [hps, List.length_append]
      have t4 : q.bytes.length + x.length ≤ 20000 := by have := HV.out.2.1; omega
      have T3 := Aside0.mk t3
      have HX := Aside0.mk hx
      have HBx := Aside0.mk hbx
      have HC2 := Aside0.mk hc2
      obtain ⟨x0, _⟩ := hx _ (sl_below0 HS.out)
      have p1 : (0 : Int) ≤ (i : Int) := by omega
      have p2 : (i : Int) < (l.length : Int) := by omega
      obtain ⟨F, hF⟩ : ∃ F, feedF q x = F := ⟨_, rfl⟩
      obtain ⟨E, hE⟩ : ∃ E, feedE q x = E := ⟨_, rfl⟩
      obtain ⟨Q, hQ⟩ : ∃ Q, feedS q x = Q := ⟨_, rfl⟩
      have HF := Aside0.mk hF
      have HE := Aside0.mk hE
      have HQ2 := Aside0.mk hQ
      have HQl := Aside0.mk (show Q.bytes.length ≤ q.bytes.length + x.length by rw [← hQ]; exact feedS_len q x)
      have HQb := Aside0.mk (show ∀ y ∈ Q.bytes, 0 ≤ y ∧ y < 256 by rw [← hQ]; exact feedS_byte HV.out.1 hbx)
      have HQc := Aside0.mk (show Q.closed = true → Q.bytes = [] by
        rw [← hQ]
        unfold feedS
        intro hc
        split at hc
        · rename_i h1; rw [if_pos h1]; exact (HV.out.2.2 h1).1
        · rename_i h1
          split at hc
          · cases hc
          · rename_i h2; rw [if_neg h1, if_neg h2])
      have HFl := Aside0.mk (show F.length ≤ 1000000 by
        rw [← hF]
        unfold feedF
        split
        · simp
        · have h1 := sp_range _ (Nat.lt_succ_self (q.bytes ++ x).length) (bytes_app HV.out.1 hbx)
          rw [List.length_append] at h1
          omega)
      have bz : (E != E) = false := by simp
      have bz2 : ((Q.bytes.length : Int) != (Q.bytes.length : Int)) = false := by simp
      clear hx hc2 hps hbx hlt hple hl2 hF hE hQ t2 t3 hi
      go_upto_region 8 with (first
        | (go_at_call 17; refine (Feed_eq (by repeat (with_reducible first | exact HS.out | apply sl_drewN | apply sl_drew | apply sl_alloc)) 0 A2 c2 x HF.out HE.out HQ2.out (by rfl) (HX.out _ (sl_below0 (by repeat (with_reducible first | exact HS.out | apply sl_drewN | apply sl_drew | apply sl_alloc)))).2 HC2.out HV.out.1 HBx.out (by omega)).mono ?_; rintro e w1 ⟨A5, c5, rfl, hs⟩; (try simp only [World.size_alloc] at hs); replace HS := Aside0.mk hs; clear hs))
      obtain ⟨x0, _⟩ := HX.out _ (sl_below0 HS.out)
      have hm_ := blk_lt (sl_blk HS.out 1 rfl)
      have m0 := (blk_cell (sl_blk HS.out 1 rfl) 0).trans (show _ = some (Value.slice Ar q.bytes.length cr) from rfl)
      have m1 := (blk_cell (sl_blk HS.out 1 rfl) 1).trans (show _ = some (Value.bool q.closed) from rfl)
      have mf0 := blk_frozen (sl_blk HS.out 1 rfl) 0
      have mf1 := blk_frozen (sl_blk HS.out 1 rfl) 1
      refine start_ (n := 14) (S := fun w' => w'.cell? ⟨gm, 0, none⟩ = some (.slice Ar q.bytes.length cr) ∧ w'.cell? ⟨gm, 1, none⟩ = some (.bool q.closed) ∧ w'.cell? (ad.add i) = some (.slice A2 x.length c2)) (ds := [11]) #[false, false, false, false, false, false, false, false, false, false, false, false, false, false] (by kernel_rfl) rfl rfl ⟨m0, m1, x0⟩ (fun hHeld => ?_)
      refine pure_ (i := 1) (N := some 32) (v := ?_) (a' := ?_) #[false, true, false, false, false, false, false, false, false, false, false, false, false, false] rfl rfl (by kernel_rfl) (fun _ _ _ h => h) (Or.inl ⟨by rfl, ?_⟩) ?_ ?_
      rotate_left
      · intro w'
        go_simp
        with_reducible rfl
      rotate_left
      · simp only [Act.put, List.setIfInBounds_toArray, List.set_cons_zero, List.set_cons_succ, i64_w, i32_w, IntKind.wrap_u32, IntKind.wrap_u8, IntKind.wrap_u16]
        rfl
      refine pure_ (i := 2) (N := some 33) (v := ?_) (a' := ?_) #[false, true, true, false, false, false, false, false, false, false, false, false, false, false] rfl rfl (by kernel_rfl) (fun _ _ _ h => h) (Or.inl ⟨by rfl, ?_⟩) ?_ ?_
      rotate_left
      · intro w'
        go_simp
        with_reducible rfl
      rotate_left
      · simp only [Act.put, List.setIfInBounds_toArray, List.set_cons_zero, List.set_cons_succ, i64_w, i32_w, IntKind.wrap_u32, IntKind.wrap_u8, IntKind.wrap_u16]
        rfl
      refine pure_ (i := 3) (N := some 34) (v := ?_) (a' := ?_) #[false, true, true, true, false, false, false, false, false, false, false, false, false, false] rfl rfl (by kernel_rfl) (fun _ _ _ h => h) (Or.inl ⟨by rfl, ?_⟩) ?_ ?_
      rotate_left
      · intro w'
        go_simp
        with_reducible rfl
      rotate_left
      · simp only [Act.put, List.setIfInBounds_toArray, List.set_cons_zero, List.set_cons_succ, i64_w, i32_w, IntKind.wrap_u32, IntKind.wrap_u8, IntKind.wrap_u16]
        rfl
      refine take_ (i := 0) (N := some 31) (v := ?_) (a' := ?_) #[true, true, true, true, false, false, false, false, false, false, false, false, false, false] rfl rfl (by kernel_rfl) (fun _ _ _ h => h) (Or.inl ⟨by rfl, ?_⟩) hHeld ?_ ?_
      rotate_left
      · rintro w' ⟨s0, s1, s2⟩
        go_simp
        with_reducible rfl
      rotate_left
      · simp only [Act.put, List.setIfInBounds_toArray, List.set_cons_zero, List.set_cons_succ, i64_w, i32_w, IntKind.wrap_u32, IntKind.wrap_u8, IntKind.wrap_u16]
        rfl
      refine take_ (i := 4) (N := some 35) (v := ?_) (a' := ?_) #[true, true, true, true, true, false, false, false, false, false, false, false, false, false] rfl rfl (by kernel_rfl) (fun _ _ _ h => h) (Or.inl ⟨by rfl, ?_⟩) hHeld ?_ ?_
      rotate_left
      · rintro w' ⟨s0, s1, s2⟩
        go_simp
        with_reducible rfl
      rotate_left
      · simp only [Act.put, List.setIfInBounds_toArray, List.set_cons_zero, List.set_cons_succ, i64_w, i32_w, IntKind.wrap_u32, IntKind.wrap_u8, IntKind.wrap_u16]
        rfl
      refine join_ (σ := Nat × Option Addr × Nat × Option Addr × Nat) 3 #[true, true, true, true, true, true, true, true, true, true, true, false, false, false] (fun s_ => [(36, (Value.tuple #[.agg #[.slice s_.2.1 Q.bytes.length s_.2.2.1, .bool Q.closed], .slice s_.2.2.2.1 F.length s_.2.2.2.2, .int .i64 E])), (30, (Value.tuple #[.agg #[.slice s_.2.1 Q.bytes.length s_.2.2.1, .bool Q.closed], .slice s_.2.2.2.1 F.length s_.2.2.2.2, .int .i64 E])), (37, (Value.agg #[.slice s_.2.1 Q.bytes.length s_.2.2.1, .bool Q.closed])), (38, (Value.slice s_.2.2.2.1 F.length s_.2.2.2.2)), (39, (Value.int .i64 E)), (8, (Value.pointer (some ⟨s_.1, 0, none⟩)))]) (fun s_ w' => (Q.closed = true → s_.2.1 = none ∧ s_.2.2.1 = 0) ∧ SL w w' ([decR g Q, cellsR gm 49 #[.slice Ar q.bytes.length cr, .bool q.closed], row8 (.slice Ar q.bytes.length cr) q.bytes, rowF w (.slice A5 F.length c5) F] ++ [cellsR s_.1 49 #[.slice none 0 0, .bool false], row8 (.slice s_.2.1 Q.bytes.length s_.2.2.1) Q.bytes, rowF w (.slice s_.2.2.2.1 F.length s_.2.2.2.2) F])) ?_ ?_
      rotate_left
      · intro hCont
        refine two_ (i := 5) (j := 10) (Ni := some 36) (Nj := some 8) #[true, true, true, true, true, true, false, false, false, false, false, false, false, false] #[true, true, true, true, true, false, false, false, false, false, true, false, false, false] rfl rfl rfl rfl (by kernel_rfl) (by decide) (by decide) (fun K hK => ?_) (fun K hK => ?_)
        · skip
          refine goes_ Try.func21 (by kernel_rfl) rfl #[.agg #[.slice Ar q.bytes.length cr, .bool q.closed], .slice A2 x.length c2] (by rfl) rfl rfl (by (try simp only [List.map_toArray, List.map_cons, List.map_nil]); first | done | rfl) ?_
          with_reducible refine (rFeed_sl (sl_drew HS.out) q Ar cr A2 c2 x HF.out HE.out HQ2.out (sl_reads' flat8 (sl_drew HS.out) 2 rfl) HV.out.2.2 (HX.out _ (sl_below0 (sl_drew HS.out))).2 HV.out.1 HBx.out (by omega)).mono ?_
          rintro e w3 ⟨s1, rfl, hcl1, hsC⟩
          refine ⟨_, rfl, ?_⟩
          refine hK.out _ _ ⟨(cell_b (sl_blk hsC 1 rfl) rfl), (cell_b (sl_blk hsC 1 rfl) rfl), (HX.out _ (sl_below0 hsC)).1⟩ (fun hHeld => ?_)
          clear hK K
          refine norm_ (a' := ?_) ?_ ?_
          rotate_left
          · show Act.put _ (some 36) _ = _
            simp only [Act.put, List.setIfInBounds_toArray, List.set_cons_zero, List.set_cons_succ, i64_w, i32_w, IntKind.wrap_u32, IntKind.wrap_u8, IntKind.wrap_u16]
            rfl
          refine pure_ (i := 6) (N := some 30) (v := ?_) (a' := ?_) #[true, true, true, true, true, true, true, false, false, false, false, false, false, false] rfl rfl (by kernel_rfl) (fun _ _ _ h => h) (Or.inl ⟨by rfl, ?_⟩) ?_ ?_
          rotate_left
          · intro w'
            go_simp
            with_reducible rfl
          rotate_left
          · simp only [Act.put, List.setIfInBounds_toArray, List.set_cons_zero, List.set_cons_succ, i64_w, i32_w, IntKind.wrap_u32, IntKind.wrap_u8, IntKind.wrap_u16]
            rfl
          refine pure_ (i := 7) (N := some 37) (v := ?_) (a' := ?_) #[true, true, true, true, true, true, true, true, false, false, false, false, false, false] rfl rfl (by kernel_rfl) (fun _ _ _ h => h) (Or.inl ⟨by rfl, ?_⟩) ?_ ?_
          rotate_left
          · intro w'
            go_simp
            with_reducible rfl
          rotate_left
          · simp only [Act.put, List.setIfInBounds_toArray, List.set_cons_zero, List.set_cons_succ, i64_w, i32_w, IntKind.wrap_u32, IntKind.wrap_u8, IntKind.wrap_u16]
            rfl
          refine pure_ (i := 8) (N := some 38) (v := ?_) (a' := ?_) #[true, true, true, true, true, true, true, true, true, false, false, false, false, false] rfl rfl (by kernel_rfl) (fun _ _ _ h => h) (Or.inl ⟨by rfl, ?_⟩) ?_ ?_
          rotate_left
          · intro w'
            go_simp
            with_reducible rfl
          rotate_left
          · simp only [Act.put, List.setIfInBounds_toArray, List.set_cons_zero, List.set_cons_succ, i64_w, i32_w, IntKind.wrap_u32, IntKind.wrap_u8, IntKind.wrap_u16]
            rfl
          refine pure_ (i := 9) (N := some 39) (v := ?_) (a' := ?_) #[true, true, true, true, true, true, true, true, true, true, false, false, false, false] rfl rfl (by kernel_rfl) (fun _ _ _ h => h) (Or.inl ⟨by rfl, ?_⟩) ?_ ?_
          rotate_left
          · intro w'
            go_simp
            with_reducible rfl
          rotate_left
          · simp only [Act.put, List.setIfInBounds_toArray, List.set_cons_zero, List.set_cons_succ, i64_w, i32_w, IntKind.wrap_u32, IntKind.wrap_u8, IntKind.wrap_u16]
            rfl
          refine one_ (i := 10) (N := some 8) #[true, true, true, true, true, true, true, true, true, true, true, false, false, false] rfl rfl (by kernel_rfl) (by decide) (fun K hK => ?_)
          refine box_step ?hg (N := 8) ?hd (cs := #[.slice none 0 0, .bool false]) (t := 49) ?hr ?_; (case hd => rfl); (case hg => rfl); (case hr => first | (go_simp; done) | (go_simp; rfl))
          intro gn hgn w4 hbox hb
          have hsA := sl_box' hsC hb (Nat.le_of_eq hgn.symm) hbox
          refine hK.out _ _ ⟨(cell_b (sl_blk hsA 1 rfl) rfl), (cell_b (sl_blk hsA 1 rfl) rfl), (HX.out _ (sl_below0 hsA)).1⟩ (fun hHeld => ?_)
          clear hK K
          refine norm_ (a' := ?_) ?_ ?_
          rotate_left
          · show Act.put _ (some 8) _ = _
            simp only [Act.put, List.setIfInBounds_toArray, List.set_cons_zero, List.set_cons_succ, i64_w, i32_w, IntKind.wrap_u32, IntKind.wrap_u8, IntKind.wrap_u16]
            rfl
          exact norm_ (by simp only [putAll, Act.put, List.setIfInBounds_toArray, List.set_cons_zero, List.set_cons_succ]) (hCont (gn, s1) _ ⟨hcl1, sl_pick hsA [0, 1, 2, 3, 6, 4, 5] (by decide) rfl⟩)
        · skip
          refine box_step ?hg (N := 8) ?hd (cs := #[.slice none 0 0, .bool false]) (t := 49) ?hr ?_; (case hd => rfl); (case hg => rfl); (case hr => first | (go_simp; done) | (go_simp; rfl))
          intro gn hgn w4 hbox hb
          have hsA := sl_box' (sl_drew HS.out) hb (Nat.le_of_eq hgn.symm) hbox
          refine hK.out _ _ ⟨(cell_b (sl_blk hsA 1 rfl) rfl), (cell_b (sl_blk hsA 1 rfl) rfl), (HX.out _ (sl_below0 hsA)).1⟩ (fun hHeld => ?_)
          clear hK K
          refine norm_ (a' := ?_) ?_ ?_
          rotate_left
          · show Act.put _ (some 8) _ = _
            simp only [Act.put, List.setIfInBounds_toArray, List.set_cons_zero, List.set_cons_succ, i64_w, i32_w, IntKind.wrap_u32, IntKind.wrap_u8, IntKind.wrap_u16]
            rfl
          refine one_ (i := 5) (N := some 36) #[true, true, true, true, true, true, false, false, false, false, true, false, false, false] rfl rfl (by kernel_rfl) (by decide) (fun K hK => ?_)
          refine goes_ Try.func21 (by kernel_rfl) rfl #[.agg #[.slice Ar q.bytes.length cr, .bool q.closed], .slice A2 x.length c2] (by rfl) rfl rfl (by (try simp only [List.map_toArray, List.map_cons, List.map_nil]); first | done | rfl) ?_
          with_reducible refine (rFeed_sl hsA q Ar cr A2 c2 x HF.out HE.out HQ2.out (sl_reads' flat8 hsA 2 rfl) HV.out.2.2 (HX.out _ (sl_below0 hsA)).2 HV.out.1 HBx.out (by omega)).mono ?_
          rintro e w3 ⟨s1, rfl, hcl1, hsC⟩
          refine ⟨_, rfl, ?_⟩
          refine hK.out _ _ ⟨(cell_b (sl_blk hsC 1 rfl) rfl), (cell_b (sl_blk hsC 1 rfl) rfl), (HX.out _ (sl_below0 hsC)).1⟩ (fun hHeld => ?_)
          clear hK K
          refine norm_ (a' := ?_) ?_ ?_
          rotate_left
          · show Act.put _ (some 36) _ = _
            simp only [Act.put, List.setIfInBounds_toArray, List.set_cons_zero, List.set_cons_succ, i64_w, i32_w, IntKind.wrap_u32, IntKind.wrap_u8, IntKind.wrap_u16]
            rfl
          refine pure_ (i := 6) (N := some 30) (v := ?_) (a' := ?_) #[true, true, true, true, true, true, true, false, false, false, true, false, false, false] rfl rfl (by kernel_rfl) (fun _ _ _ h => h) (Or.inl ⟨by rfl, ?_⟩) ?_ ?_
          rotate_left
          · intro w'
            go_simp
            with_reducible rfl
          rotate_left
          · simp only [Act.put, List.setIfInBounds_toArray, List.set_cons_zero, List.set_cons_succ, i64_w, i32_w, IntKind.wrap_u32, IntKind.wrap_u8, IntKind.wrap_u16]
            rfl
          refine pure_ (i := 7) (N := some 37) (v := ?_) (a' := ?_) #[true, true, true, true, true, true, true, true, false, false, true, false, false, false] rfl rfl (by kernel_rfl) (fun _ _ _ h => h) (Or.inl ⟨by rfl, ?_⟩) ?_ ?_
          rotate_left
          · intro w'
            go_simp
            with_reducible rfl
          rotate_left
          · simp only [Act.put, List.setIfInBounds_toArray, List.set_cons_zero, List.set_cons_succ, i64_w, i32_w, IntKind.wrap_u32, IntKind.wrap_u8, IntKind.wrap_u16]
            rfl
          refine pure_ (i := 8) (N := some 38) (v := ?_) (a' := ?_) #[true, true, true, true, true, true, true, true, true, false, true, false, false, false] rfl rfl (by kernel_rfl) (fun _ _ _ h => h) (Or.inl ⟨by rfl, ?_⟩) ?_ ?_
          rotate_left
          · intro w'
            go_simp
            with_reducible rfl
          rotate_left
          · simp only [Act.put, List.setIfInBounds_toArray, List.set_cons_zero, List.set_cons_succ, i64_w, i32_w, IntKind.wrap_u32, IntKind.wrap_u8, IntKind.wrap_u16]
            rfl
          refine pure_ (i := 9) (N := some 39) (v := ?_) (a' := ?_) #[true, true, true, true, true, true, true, true, true, true, true, false, false, false] rfl rfl (by kernel_rfl) (fun _ _ _ h => h) (Or.inl ⟨by rfl, ?_⟩) ?_ ?_
          rotate_left
          · intro w'
            go_simp
            with_reducible rfl
          rotate_left
          · simp only [Act.put, List.setIfInBounds_toArray, List.set_cons_zero, List.set_cons_succ, i64_w, i32_w, IntKind.wrap_u32, IntKind.wrap_u8, IntKind.wrap_u16]
            rfl
          exact norm_ (by simp only [putAll, Act.put, List.setIfInBounds_toArray, List.set_cons_zero, List.set_cons_succ]) (hCont (gn, s1) _ ⟨hcl1, hsC⟩)
      rintro ⟨gn, A7, c7, A8, c8⟩ w7 ⟨hcl7, hs7⟩
      have hHeld : w7.cell? ⟨gm, 0, none⟩ = some (.slice Ar q.bytes.length cr) ∧ w7.cell? ⟨gm, 1, none⟩ = some (.bool q.closed) ∧ w7.cell? (ad.add i) = some (.slice A2 x.length c2) := ⟨(cell_b (sl_blk hs7 1 rfl) rfl), (cell_b (sl_blk hs7 1 rfl) rfl), (HX.out _ (sl_below0 hs7)).1⟩
      have hz_ := blk_lt (sl_blk hs7 4 rfl)
      have z0 := (blk_cell (sl_blk hs7 4 rfl) 0).trans (show _ = some (Value.slice none 0 0) from rfl)
      have z1 := (blk_cell (sl_blk hs7 4 rfl) 1).trans (show _ = some (Value.bool false) from rfl)
      have zf0 := blk_frozen (sl_blk hs7 4 rfl) 0
      have zf1 := blk_frozen (sl_blk hs7 4 rfl) 1
      refine norm_ (a' := ?_) ?_ ?_
      rotate_left
      · simp only [putAll, Act.put, List.setIfInBounds_toArray, List.set_cons_zero, List.set_cons_succ]
        rfl
      refine last_ (i := 11) (N := none) #[true, true, true, true, true, true, true, true, true, true, true, true, false, false] rfl rfl (by kernel_rfl) (by decide) (fun K hK => ?_)
      refine skip_ (w1 := ?_) (by rfl) rfl ?_ ?_
      rotate_left
      · go_simp
        rfl
      refine hK.out _ _ ?_
      clear hK K
      refine pure_ (i := 12) (N := some 9) (v := ?_) (a' := ?_) #[true, true, true, true, true, true, true, true, true, true, true, true, true, false] rfl rfl (by kernel_rfl) (fun _ _ _ h => h) (Or.inl ⟨by rfl, ?_⟩) ?_ ?_
      rotate_left
      · intro w'
        go_simp
        with_reducible rfl
      rotate_left
      · simp only [Act.put, List.setIfInBounds_toArray, List.set_cons_zero, List.set_cons_succ, i64_w, i32_w, IntKind.wrap_u32, IntKind.wrap_u8, IntKind.wrap_u16]
        rfl
      refine pure_ (i := 13) (N := some 10) (v := ?_) (a' := ?_) #[true, true, true, true, true, true, true, true, true, true, true, true, true, true] rfl rfl (by kernel_rfl) (fun _ _ _ h => h) (Or.inl ⟨by rfl, ?_⟩) ?_ ?_
      rotate_left
      · intro w'
        go_simp
        with_reducible rfl
      rotate_left
      · simp only [Act.put, List.setIfInBounds_toArray, List.set_cons_zero, List.set_cons_succ, i64_w, i32_w, IntKind.wrap_u32, IntKind.wrap_u8, IntKind.wrap_u16]
        rfl
      refine done_ (by kernel_rfl) ?_
      go_upto_region 9 with (fail)
      refine world_gen (F := fun w_ => Code.wp Try.prog _ _ _ w_) (fun w_ => SL w w_ [decR g Q, cellsR gm 49 #[.slice Ar q.bytes.length cr, .bool q.closed], row8 (.slice Ar q.bytes.length cr) q.bytes, rowF w (.slice A5 F.length c5) F, cellsR gn 49 #[.slice A7 Q.bytes.length c7, .bool Q.closed], row8 (.slice A7 Q.bytes.length c7) Q.bytes, rowF w (.slice A8 F.length c8) F]) (sl_put (sl_put hs7 4 rfl 0 _) 4 rfl 1 _) ?_
      clear hz_ z0 z1 zf0 zf1 hs7 HS hHeld m0 m1 mf0 mf1 hm_ x0
      intro w8 hs8
      have HS := Aside0.mk hs8
      have HCl := Aside0.mk (show Q.closed = true → A7 = none ∧ c7 = 0 from hcl7)
      clear hs8 hcl7
      have hm_ := blk_lt (sl_blk HS.out 1 rfl)
      have m0 := (blk_cell (sl_blk HS.out 1 rfl) 0).trans (show _ = some (Value.slice Ar q.bytes.length cr) from rfl)
      have m1 := (blk_cell (sl_blk HS.out 1 rfl) 1).trans (show _ = some (Value.bool q.closed) from rfl)
      have mf0 := blk_frozen (sl_blk HS.out 1 rfl) 0
      have mf1 := blk_frozen (sl_blk HS.out 1 rfl) 1
      have hn_ := blk_lt (sl_blk HS.out 4 rfl)
      have n0 := (blk_cell (sl_blk HS.out 4 rfl) 0).trans (show _ = some (Value.slice A7 Q.bytes.length c7) from rfl)
      have n1 := (blk_cell (sl_blk HS.out 4 rfl) 1).trans (show _ = some (Value.bool Q.closed) from rfl)
      have nf0 := blk_frozen (sl_blk HS.out 4 rfl) 0
      have nf1 := blk_frozen (sl_blk HS.out 4 rfl) 1
      go_upto_region 10 with (fail)
      refine world_gen (F := fun w_ => Code.wp Try.prog _ _ _ w_) (fun w_ => SL w w_ [decR g Q, cellsR gm 49 #[.slice A7 Q.bytes.length c7, .bool Q.closed], row8 (.slice Ar q.bytes.length cr) q.bytes, rowF w (.slice A5 F.length c5) F, cellsR gn 49 #[.slice A7 Q.bytes.length c7, .bool Q.closed], row8 (.slice A7 Q.bytes.length c7) Q.bytes, rowF w (.slice A8 F.length c8) F]) (sl_put (sl_put HS.out 1 rfl 0 _) 1 rfl 1 _) ?_
      clear HS m0 m1 mf0 mf1 hm_ n0 n1 nf0 nf1 hn_
      intro w9 hs9
      have HS := Aside0.mk hs9
      clear hs9
      have hm_ := blk_lt (sl_blk HS.out 1 rfl)
      have m0 := (blk_cell (sl_blk HS.out 1 rfl) 0).trans (show _ = some (Value.slice A7 Q.bytes.length c7) from rfl)
      have m1 := (blk_cell (sl_blk HS.out 1 rfl) 1).trans (show _ = some (Value.bool Q.closed) from rfl)
      have mf0 := blk_frozen (sl_blk HS.out 1 rfl) 0
      have mf1 := blk_frozen (sl_blk HS.out 1 rfl) 1
      refine start_ (n := 16) (S := fun w' => w'.cell? ⟨gm, 0, none⟩ = some (.slice A7 Q.bytes.length c7) ∧ w'.cell? ⟨gm, 1, none⟩ = some (.bool Q.closed)) (ds := []) #[false, false, false, false, false, false, false, false, false, false, false, false, false, false, false, false] (by kernel_rfl) rfl rfl ⟨m0, m1⟩ (fun hHeld => ?_)
      refine pure_ (i := 0) (N := some 41) (v := ?_) (a' := ?_) #[true, false, false, false, false, false, false, false, false, false, false, false, false, false, false, false] rfl rfl (by kernel_rfl) (fun _ _ _ h => h) (Or.inl ⟨by rfl, ?_⟩) ?_ ?_
      rotate_left
      · intro w'
        go_simp
        with_reducible rfl
      rotate_left
      · simp only [Act.put, List.setIfInBounds_toArray, List.set_cons_zero, List.set_cons_succ, i64_w, i32_w, IntKind.wrap_u32, IntKind.wrap_u8, IntKind.wrap_u16]
        rfl
      refine pure_ (i := 1) (N := some 42) (v := ?_) (a' := ?_) #[true, true, false, false, false, false, false, false, false, false, false, false, false, false, false, false] rfl rfl (by kernel_rfl) (fun _ _ _ h => h) (Or.inl ⟨by rfl, ?_⟩) ?_ ?_
      rotate_left
      · intro w'
        go_simp
        with_reducible rfl
      rotate_left
      · simp only [Act.put, List.setIfInBounds_toArray, List.set_cons_zero, List.set_cons_succ, i64_w, i32_w, IntKind.wrap_u32, IntKind.wrap_u8, IntKind.wrap_u16]
        rfl
      refine pure_ (i := 2) (N := some 43) (v := ?_) (a' := ?_) #[true, true, true, false, false, false, false, false, false, false, false, false, false, false, false, false] rfl rfl (by kernel_rfl) (fun _ _ _ h => h) (Or.inl ⟨by rfl, ?_⟩) ?_ ?_
      rotate_left
      · intro w'
        go_simp
        with_reducible rfl
      rotate_left
      · simp only [Act.put, List.setIfInBounds_toArray, List.set_cons_zero, List.set_cons_succ, i64_w, i32_w, IntKind.wrap_u32, IntKind.wrap_u8, IntKind.wrap_u16]
        rfl
      refine pure_ (i := 3) (N := some 44) (v := ?_) (a' := ?_) #[true, true, true, true, false, false, false, false, false, false, false, false, false, false, false, false] rfl rfl (by kernel_rfl) (fun _ _ _ h => h) (Or.inl ⟨by rfl, ?_⟩) ?_ ?_
      rotate_left
      · intro w'
        go_simp
        with_reducible rfl
      rotate_left
      · simp only [Act.put, List.setIfInBounds_toArray, List.set_cons_zero, List.set_cons_succ, i64_w, i32_w, IntKind.wrap_u32, IntKind.wrap_u8, IntKind.wrap_u16]
        rfl
      refine pure_ (i := 4) (N := some 45) (v := ?_) (a' := ?_) #[true, true, true, true, true, false, false, false, false, false, false, false, false, false, false, false] rfl rfl (by kernel_rfl) (fun _ _ _ h => h) (Or.inl ⟨by rfl, ?_⟩) ?_ ?_
      rotate_left
      · intro w'
        go_simp
        with_reducible rfl
      rotate_left
      · simp only [Act.put, List.setIfInBounds_toArray, List.set_cons_zero, List.set_cons_succ, i64_w, i32_w, IntKind.wrap_u32, IntKind.wrap_u8, IntKind.wrap_u16]
        rfl
      refine pure_ (i := 5) (N := some 46) (v := ?_) (a' := ?_) #[true, true, true, true, true, true, false, false, false, false, false, false, false, false, false, false] rfl rfl (by kernel_rfl) (fun _ _ _ h => h) (Or.inl ⟨by rfl, ?_⟩) ?_ ?_
      rotate_left
      · intro w'
        go_simp
        with_reducible rfl
      rotate_left
      · simp only [Act.put, List.setIfInBounds_toArray, List.set_cons_zero, List.set_cons_succ, i64_w, i32_w, IntKind.wrap_u32, IntKind.wrap_u8, IntKind.wrap_u16]
        rfl
      refine one_ (i := 6) (N := some 47) #[true, true, true, true, true, true, true, false, false, false, false, false, false, false, false, false] rfl rfl (by kernel_rfl) (by decide) (fun K hK => ?_)
      refine goes_ Try.func15 (by kernel_rfl) rfl #[.slice A5 F.length c5, .slice A8 F.length c8] (by rfl) rfl rfl (by (try simp only [List.map_toArray, List.map_cons, List.map_nil]); first | done | rfl) ?_
      with_reducible refine (same_sl (sl_drew HS.out) F 3 6 HFl.out rfl rfl).mono ?_
      rintro e w3 ⟨rfl, hs3⟩
      refine ⟨_, rfl, ?_⟩
      refine hK.out _ _ ⟨(cell_b (sl_blk hs3 1 rfl) rfl), (cell_b (sl_blk hs3 1 rfl) rfl)⟩ (fun hHeld => ?_)
      clear hK K
      refine norm_ (a' := ?_) ?_ ?_
      rotate_left
      · show Act.put _ (some 47) _ = _
        simp only [Act.put, List.setIfInBounds_toArray, List.set_cons_zero, List.set_cons_succ, i64_w, i32_w, IntKind.wrap_u32, IntKind.wrap_u8, IntKind.wrap_u16]
        rfl
      refine pure_ (i := 7) (N := some 48) (v := ?_) (a' := ?_) #[true, true, true, true, true, true, true, true, false, false, false, false, false, false, false, false] rfl rfl (by kernel_rfl) (fun _ _ _ h => h) (Or.inl ⟨by rfl, ?_⟩) ?_ ?_
      rotate_left
      · intro w'
        go_simp
        with_reducible rfl
      rotate_left
      · simp only [Act.put, List.setIfInBounds_toArray, List.set_cons_zero, List.set_cons_succ, i64_w, i32_w, IntKind.wrap_u32, IntKind.wrap_u8, IntKind.wrap_u16]
        rfl
      refine pure_ (i := 8) (N := some 49) (v := ?_) (a' := ?_) #[true, true, true, true, true, true, true, true, true, false, false, false, false, false, false, false] rfl rfl (by kernel_rfl) (fun _ _ _ h => h) (Or.inl ⟨by rfl, ?_⟩) ?_ ?_
      rotate_left
      · intro w'
        go_simp
        with_reducible rfl
      rotate_left
      · simp only [Act.put, List.setIfInBounds_toArray, List.set_cons_zero, List.set_cons_succ, i64_w, i32_w, IntKind.wrap_u32, IntKind.wrap_u8, IntKind.wrap_u16]
        rfl
      refine pure_ (i := 9) (N := some 50) (v := ?_) (a' := ?_) #[true, true, true, true, true, true, true, true, true, true, false, false, false, false, false, false] rfl rfl (by kernel_rfl) (fun _ _ _ h => h) (Or.inl ⟨by rfl, ?_⟩) ?_ ?_
      rotate_left
      · intro w'
        go_simp
        with_reducible rfl
      rotate_left
      · simp only [Act.put, List.setIfInBounds_toArray, List.set_cons_zero, List.set_cons_succ, i64_w, i32_w, IntKind.wrap_u32, IntKind.wrap_u8, IntKind.wrap_u16]
        rfl
      refine pure_ (i := 10) (N := some 51) (v := ?_) (a' := ?_) #[true, true, true, true, true, true, true, true, true, true, true, false, false, false, false, false] rfl rfl (by kernel_rfl) (fun _ _ _ h => h) (Or.inl ⟨by rfl, ?_⟩) ?_ ?_
      rotate_left
      · intro w'
        go_simp
        with_reducible rfl
      rotate_left
      · simp only [Act.put, List.setIfInBounds_toArray, List.set_cons_zero, List.set_cons_succ, i64_w, i32_w, IntKind.wrap_u32, IntKind.wrap_u8, IntKind.wrap_u16]
        rfl
      refine take_ (i := 12) (N := some 53) (v := ?_) (a' := ?_) #[true, true, true, true, true, true, true, true, true, true, true, false, true, false, false, false] rfl rfl (by kernel_rfl) (fun _ _ _ h => h) (Or.inl ⟨by rfl, ?_⟩) hHeld ?_ ?_
      rotate_left
      · rintro w' ⟨s0, s1⟩
        go_simp
        with_reducible rfl
      rotate_left
      · simp only [Act.put, List.setIfInBounds_toArray, List.set_cons_zero, List.set_cons_succ, i64_w, i32_w, IntKind.wrap_u32, IntKind.wrap_u8, IntKind.wrap_u16]
        rfl
      refine one_ (i := 11) (N := some 52) #[true, true, true, true, true, true, true, true, true, true, true, true, true, false, false, false] rfl rfl (by kernel_rfl) (by decide) (fun K hK => ?_)
      refine goes_ Try.func18 (by kernel_rfl) rfl #[.pointer (some ⟨g, 0, none⟩)] (by rfl) rfl rfl (by (try simp only [List.map_toArray, List.map_cons, List.map_nil]); first | done | rfl) ?_
      with_reducible refine (Buf_sl2 hs3 0 rfl).mono ?_
      rintro e w4 ⟨rfl, hs4⟩
      refine ⟨_, rfl, ?_⟩
      refine hK.out _ _ ⟨(cell_b (sl_blk hs4 1 rfl) rfl), (cell_b (sl_blk hs4 1 rfl) rfl)⟩ (fun hHeld => ?_)
      clear hK K
      refine norm_ (a' := ?_) ?_ ?_
      rotate_left
      · show Act.put _ (some 52) _ = _
        simp only [Act.put, List.setIfInBounds_toArray, List.set_cons_zero, List.set_cons_succ, i64_w, i32_w, IntKind.wrap_u32, IntKind.wrap_u8, IntKind.wrap_u16]
        rfl
      refine one_ (i := 13) (N := some 54) #[true, true, true, true, true, true, true, true, true, true, true, true, true, true, false, false] rfl rfl (by kernel_rfl) (by decide) (fun K hK => ?_)
      refine goes_ Try.func22 (by kernel_rfl) rfl #[.agg #[.slice A7 Q.bytes.length c7, .bool Q.closed]] (by rfl) rfl rfl (by (try simp only [List.map_toArray, List.map_cons, List.map_nil]); first | done | rfl) ?_
      with_reducible refine (rBuf_sl hs4 A7 Q.bytes.length c7 Q.closed).mono ?_
      rintro e w5 ⟨rfl, hs5⟩
      refine ⟨_, rfl, ?_⟩
      refine hK.out _ _ ⟨(cell_b (sl_blk hs5 1 rfl) rfl), (cell_b (sl_blk hs5 1 rfl) rfl)⟩ (fun hHeld => ?_)
      clear hK K
      refine norm_ (a' := ?_) ?_ ?_
      rotate_left
      · show Act.put _ (some 54) _ = _
        simp only [Act.put, List.setIfInBounds_toArray, List.set_cons_zero, List.set_cons_succ, i64_w, i32_w, IntKind.wrap_u32, IntKind.wrap_u8, IntKind.wrap_u16]
        rfl
      refine pure_ (i := 14) (N := some 55) (v := ?_) (a' := ?_) #[true, true, true, true, true, true, true, true, true, true, true, true, true, true, true, false] rfl rfl (by kernel_rfl) (fun _ _ _ h => h) (Or.inl ⟨by rfl, ?_⟩) ?_ ?_
      rotate_left
      · intro w'
        go_simp
        with_reducible rfl
      rotate_left
      · simp only [Act.put, List.setIfInBounds_toArray, List.set_cons_zero, List.set_cons_succ, i64_w, i32_w, IntKind.wrap_u32, IntKind.wrap_u8, IntKind.wrap_u16]
        rfl
      refine pure_ (i := 15) (N := some 56) (v := ?_) (a' := ?_) #[true, true, true, true, true, true, true, true, true, true, true, true, true, true, true, true] rfl rfl (by kernel_rfl) (fun _ _ _ h => h) (Or.inl ⟨by rfl, ?_⟩) ?_ ?_
      rotate_left
      · intro w'
        go_simp
        with_reducible rfl
      rotate_left
      · simp only [Act.put, List.setIfInBounds_toArray, List.set_cons_zero, List.set_cons_succ, i64_w, i32_w, IntKind.wrap_u32, IntKind.wrap_u8, IntKind.wrap_u16]
        rfl
      refine done_ (by kernel_rfl) ?_
      go_wp2
      go_roundg kq
      case measure => omega
      case rel => exact ⟨i + 1, Q, _, _, rfl, ⟨by have := HI.out; omega⟩, ⟨⟨HQb.out, by rw [T3.out]; have := HV.out.2.1; have := HQl.out; omega, fun h => ⟨HQc.out h, HCl.out h⟩⟩⟩, ⟨sl_pick hs5 [0, 1, 5] (by decide) rfl⟩⟩
    · have b1 : decide (i < l.length) = false := decide_eq_false hlt
      clear hlt hi
      go_wp2_with (first
        | (go_at_call 10; refine (ex_sl (by repeat (with_reducible first | exact HS.out | apply sl_drewN | apply sl_drew | apply sl_alloc))).mono ?_; rintro e w1 ⟨rfl, hs⟩; (try simp only [World.size_alloc] at hs); replace HS := Aside0.mk hs; clear hs))
      go_ret
      exact ⟨rfl, sl_below0 HS.out⟩
end Go.Proofs.Ytipmcklkflgppaa.Q
