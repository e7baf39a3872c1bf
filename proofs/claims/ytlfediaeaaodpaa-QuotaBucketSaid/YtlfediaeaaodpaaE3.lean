import Derived.Test.YtlfediaeaaodpaaRbn
namespace Go.Proofs.Ytlfediaeaaodpaa.Q
open Go.RowKit Go.Proofs.YtlfediaeaaodpaaW.PrintWords Go.Proofs.YtlfediaeaaodpaaW.PrintLast Go.Proofs.YtlfediaeaaodpaaW.PrintMore Go.Proofs.Ytlfediaeaaodpaa.Sl Go.Proofs.Ytlfediaeaaodpaa.Hand 
attribute [local go_sem] max2_int min2_int max_two min_two max_three min_three max_four min_four 
set_option linter.unusedVariables false
set_option linter.unusedSimpArgs false

theorem sl_two {w0 w : World} {A B : Res} {L : List Res} (h : SL w0 w (A :: B :: L)) : SL w0 w [A, B] := sl_take h 2
theorem sl_one {w0 w : World} {A : Res} {L : List Res} (h : SL w0 w (A :: L)) : SL w0 w [A] := sl_take h 1
theorem cell_b {w : World} {g t i : Nat} {cs : Array Value} {v : Value} (h : w.heap[g]? = some (.cells cs t (0, 0))) (hv : cs[i]? = some v) : w.cell? ⟨g, i, none⟩ = some v := (blk_cell h i).trans hv
theorem rLevel_sl {w0 w : World} {L : List Res} (hs : SL w0 w L) {b : BSt} (h : Bok b) {t : Int} (h0 : -9223372036854775808 ≤ t) (h1 : t < 9223372036854775808) :
    Calls Try.prog 14 #[.agg #[.bool true, .bool b.started, .int .i64 b.rate, .int .i64 b.burst, .int .i64 b.level, .int .i64 b.now], .int .i64 t] w fun e w' => e = .returned (.tuple #[.agg (#[.bool true, .bool (advB b t).started, .int .i64 (advB b t).rate, .int .i64 (advB b t).burst, .int .i64 (advB b t).level, .int .i64 (advB b t).now]), .int .i64 (levE b t)]) ∧ SL w0 w' L :=
  (rLevel_calls h h0 h1 w).mono fun e w' ⟨h1, h2⟩ => ⟨h1, sl_below hs h2⟩
theorem rTake_sl {w0 w : World} {L : List Res} (hs : SL w0 w L) {b : BSt} (h : Bok b) {t n : Int} (h0 : -9223372036854775808 ≤ t) (h1 : t < 9223372036854775808) :
    Calls Try.prog 16 #[.agg #[.bool true, .bool b.started, .int .i64 b.rate, .int .i64 b.burst, .int .i64 b.level, .int .i64 b.now], .int .i64 t, .int .i64 n] w fun e w' => e = .returned (.tuple #[.agg (#[.bool true, .bool (takS b t n).started, .int .i64 (takS b t n).rate, .int .i64 (takS b t n).burst, .int .i64 (takS b t n).level, .int .i64 (takS b t n).now]), .bool (takE b t n)]) ∧ SL w0 w' L :=
  (rTake_calls h h0 h1 w).mono fun e w' ⟨h1, h2⟩ => ⟨h1, sl_below hs h2⟩
theorem rNew_sl {w0 w : World} {L : List Res} (hs : SL w0 w L) {r b : Int} (h : NewOk r b) : Calls Try.prog 13 #[.int .i64 r, .int .i64 b] w fun e w' => e = .returned (.agg (#[.bool true, .bool (newB r b).started, .int .i64 (newB r b).rate, .int .i64 (newB r b).burst, .int .i64 (newB r b).level, .int .i64 (newB r b).now])) ∧ SL w0 w' L :=
  (rNew_ok h w).mono fun e w' ⟨h1, h2⟩ => ⟨h1, sl_below hs h2⟩
theorem sl_put6 {w0 w : World} {L : List Res} {g t : Nat} {cs : Array Value} (i : Nat) (h : SL w0 w L) (hi : L[i]? = some (cellsR g t cs)) (hc : cs.size = 6) (a0 a1 a2 a3 a4 a5 : Value) :
    SL w0 ((((((w.setCell ⟨g, 0, none⟩ a0).setCell ⟨g, 1, none⟩ a1).setCell ⟨g, 2, none⟩ a2).setCell ⟨g, 3, none⟩ a3).setCell ⟨g, 4, none⟩ a4).setCell ⟨g, 5, none⟩ a5) (L.set i (cellsR g t #[a0, a1, a2, a3, a4, a5])) := by
  obtain ⟨cs⟩ := cs
  match cs, hc with
  | [c0, c1, c2, c3, c4, c5], _ =>
    have h0 := sl_put h i hi 0 a0
    have g0 := getset (B := cellsR g t (Array.setIfInBounds #[c0, c1, c2, c3, c4, c5] 0 a0)) hi
    have h1 := sl_put h0 i g0 1 a1
    rw [List.set_set] at h1
    have g1 := getset (B := cellsR g t ((Array.setIfInBounds #[c0, c1, c2, c3, c4, c5] 0 a0).setIfInBounds 1 a1)) hi
    have h2 := sl_put h1 i g1 2 a2
    rw [List.set_set] at h2
    have g2 := getset (B := cellsR g t (((Array.setIfInBounds #[c0, c1, c2, c3, c4, c5] 0 a0).setIfInBounds 1 a1).setIfInBounds 2 a2)) hi
    have h3 := sl_put h2 i g2 3 a3
    rw [List.set_set] at h3
    have g3 := getset (B := cellsR g t ((((Array.setIfInBounds #[c0, c1, c2, c3, c4, c5] 0 a0).setIfInBounds 1 a1).setIfInBounds 2 a2).setIfInBounds 3 a3)) hi
    have h4 := sl_put h3 i g3 4 a4
    rw [List.set_set] at h4
    have g4 := getset (B := cellsR g t (((((Array.setIfInBounds #[c0, c1, c2, c3, c4, c5] 0 a0).setIfInBounds 1 a1).setIfInBounds 2 a2).setIfInBounds 3 a3).setIfInBounds 4 a4)) hi
    have h5 := sl_put h4 i g4 5 a5
    rw [List.set_set] at h5
    exact h5
theorem rLevel_zsl {w0 w : World} {L : List Res} (hs : SL w0 w L) (t : Int) : Calls Try.prog 14 #[.agg #[.bool false, .bool false, .int .i64 0, .int .i64 0, .int .i64 0, .int .i64 0], .int .i64 t] w fun e w' => e = .returned (.tuple #[.agg #[.bool false, .bool false, .int .i64 0, .int .i64 0, .int .i64 0, .int .i64 0], .int .i64 0]) ∧ SL w0 w' L :=
  (rLevel_zero t w).mono fun e w' ⟨h1, h2⟩ => ⟨h1, sl_below hs h2⟩
theorem rTake_zsl {w0 w : World} {L : List Res} (hs : SL w0 w L) (t n : Int) : Calls Try.prog 16 #[.agg #[.bool false, .bool false, .int .i64 0, .int .i64 0, .int .i64 0, .int .i64 0], .int .i64 t, .int .i64 n] w fun e w' => e = .returned (.tuple #[.agg #[.bool false, .bool false, .int .i64 0, .int .i64 0, .int .i64 0, .int .i64 0], .bool false]) ∧ SL w0 w' L :=
  (rTake_zero t n w).mono fun e w' ⟨h1, h2⟩ => ⟨h1, sl_below hs h2⟩
theorem rNew_zsl {w0 w : World} {L : List Res} (hs : SL w0 w L) {r b : Int} (h : ¬ NewOk r b) : Calls Try.prog 13 #[.int .i64 r, .int .i64 b] w fun e w' => e = .returned (.agg #[.bool false, .bool false, .int .i64 0, .int .i64 0, .int .i64 0, .int .i64 0]) ∧ SL w0 w' L :=
  (rNew_no h w).mono fun e w' ⟨h1, h2⟩ => ⟨h1, sl_below hs h2⟩
set_option maxHeartbeats 8000000 in
set_option maxRecDepth 100000 in
theorem Bucket_calls (r bu : Int) (A : Option Addr) (c : Nat) (l : List S30) (w : World) (hr : Kd.C k30 w A l.length l) (hg : ∀ x ∈ l, -9223372036854775808 ≤ x.f0 ∧ x.f0 < 9223372036854775808) :
    Calls Try.prog 3 #[.int .i64 r, .int .i64 bu, .slice A l.length c] w fun e w' => e = .returned (.bool true) ∧ Below w.heap.size w w' := by
  have HR := Aside0.mk hr
  have hm := hr.2.1
  have HG := Aside0.mk hg
  have HS := Aside0.mk (sl_start w)
  clear hr hg
  by_cases hl : 300 < l.length
  · have c1 : decide (300 < (l.length : Int)) = true := decide_eq_true (by omega)
    clear hl
    go_enter Try.func3, Try.ntmps3
    go_wp2_with (first
    | (go_at_call 11; refine (ex_calls w _ _ (by repeat (with_reducible first | exact HS.out | apply sl_drewN | apply sl_drew | apply sl_alloc))).mono ?_; rintro e w1 ⟨rfl, hs⟩; (try simp only [World.size_alloc] at hs); replace HS := Aside0.mk hs; clear hs))
    go_ret
    exact ⟨rfl, sl_below0 HS.out⟩
  have c1 : decide (300 < (l.length : Int)) = false := decide_eq_false (by omega)
  clear hl
  by_cases newok : NewOk r bu
  · have HB := Aside0.mk (newB_ok newok)
    go_enter Try.func3, Try.ntmps3
    go_wp2_with (first
    | (go_at_call 12; refine (New_sl _ _ (by repeat (with_reducible first | exact HS.out | apply sl_drewN | apply sl_drew | apply sl_alloc)) newok).mono ?_; rintro e w1 ⟨gb, rfl, hs⟩; (try simp only [World.size_alloc] at hs); replace HS := Aside0.mk hs; clear hs)
    | (go_at_call 13; refine (rNew_sl (by repeat (with_reducible first | exact HS.out | apply sl_drewN | apply sl_drew | apply sl_alloc)) newok).mono ?_; rintro e w1 ⟨rfl, hs⟩; (try simp only [World.size_alloc] at hs); replace HS := Aside0.mk hs; clear hs))
    have HSS := Aside0.mk (show SL w _ [bucketR gb (newB r bu), cellsR w1.heap.size 27 (mcells (newB r bu))] from sl_box HS.out (mcells (newB r bu)) 27)
    obtain ⟨gm, hgm⟩ : ∃ gm, gm = w1.heap.size := ⟨_, rfl⟩
    rw [← hgm] at HSS
    rw [← hgm]
    clear hgm HS
    generalize newB r bu = b0 at HB HSS ⊢
    go_loopg [9] l.length (fun kq v9 wr => ∃ (i : Nat) (b : BSt), v9 = .int .i64 (i : Int) ∧ Aside0 (i + kq = l.length) ∧ Aside0 (Bok b) ∧ Aside0 (SL w wr [bucketR gb b, cellsR gm 27 (mcells b)]))
    case atStart => exact ⟨0, b0, rfl, ⟨by omega⟩, HB, HSS⟩
    case round =>
      clear HSS HB
      obtain ⟨i, b, rfl, HI, HB, HS⟩ := hrel
      have hi := HI.out
      by_cases hlt : i < l.length
      · have b1 : decide (i < l.length) = true := decide_eq_true hlt
        obtain ⟨kq, rfl⟩ : ∃ m, gk = m + 1 := ⟨gk - 1, by omega⟩
        obtain ⟨ad, rfl, hx⟩ := atB_T30 HR.out (i : Int) (by omega) (by omega)
        have hgx := HG.out (rd_T30 l (i : Int)) (by
          unfold rd_T30
          rw [Int.toNat_natCast]
          simp [List.getD_eq_getElem?_getD, hlt])
        generalize rd_T30 l (i : Int) = x at hx hgx
        have HX := Aside0.mk (show ∀ w', Below w.heap.size w w' → w'.cell? (ad.add (i * 3)) = some (.int .i64 x.f0) ∧ w'.cell? ⟨(ad.add (i * 3)).block, (ad.add (i * 3)).off + 1, none⟩ = some (.int .i64 x.f1) ∧ w'.cell? ⟨(ad.add (i * 3)).block, (ad.add (i * 3)).off + 2, none⟩ = some (.bool x.f2) from hx)
        obtain ⟨x0, x1, x2⟩ := HX.out _ (sl_below0 HS.out)
        obtain ⟨g0, g1⟩ := hgx
        have p1 : (0 : Int) ≤ (i : Int) := by omega
        have p2 : (i : Int) < (l.length : Int) := by omega
        have hm_ := blk_lt (sl_blk HS.out 1 rfl)
        have m0 := (blk_cell (sl_blk HS.out 1 rfl) 0).trans (show _ = some (Value.bool true) from rfl)
        have m1 := (blk_cell (sl_blk HS.out 1 rfl) 1).trans (show _ = some (Value.bool b.started) from rfl)
        have m2 := (blk_cell (sl_blk HS.out 1 rfl) 2).trans (show _ = some (Value.int .i64 b.rate) from rfl)
        have m3 := (blk_cell (sl_blk HS.out 1 rfl) 3).trans (show _ = some (Value.int .i64 b.burst) from rfl)
        have m4 := (blk_cell (sl_blk HS.out 1 rfl) 4).trans (show _ = some (Value.int .i64 b.level) from rfl)
        have m5 := (blk_cell (sl_blk HS.out 1 rfl) 5).trans (show _ = some (Value.int .i64 b.now) from rfl)
        have mf0 := blk_frozen (sl_blk HS.out 1 rfl) 0
        have mf1 := blk_frozen (sl_blk HS.out 1 rfl) 1
        have mf2 := blk_frozen (sl_blk HS.out 1 rfl) 2
        have mf3 := blk_frozen (sl_blk HS.out 1 rfl) 3
        have mf4 := blk_frozen (sl_blk HS.out 1 rfl) 4
        have mf5 := blk_frozen (sl_blk HS.out 1 rfl) 5
        clear hx hlt hi
        cases hb : x.f2
        · rw [hb] at x2
          clear hb
          go_upto_region 14 with (fail)
          refine start_ (n := 18) (S := fun w' => w'.cell? ⟨gm, 0, none⟩ = some (.bool true) ∧ w'.cell? ⟨gm, 1, none⟩ = some (.bool b.started) ∧ w'.cell? ⟨gm, 2, none⟩ = some (.int .i64 b.rate) ∧ w'.cell? ⟨gm, 3, none⟩ = some (.int .i64 b.burst) ∧ w'.cell? ⟨gm, 4, none⟩ = some (.int .i64 b.level) ∧ w'.cell? ⟨gm, 5, none⟩ = some (.int .i64 b.now) ∧ w'.cell? (ad.add (i * 3)) = some (.int .i64 x.f0) ∧ w'.cell? ⟨(ad.add (i * 3)).block, (ad.add (i * 3)).off + 1, none⟩ = some (.int .i64 x.f1)) (ds := [16]) #[false, false, false, false, false, false, false, false, false, false, false, false, false, false, false, false, false, false] (by kernel_rfl) rfl rfl ⟨m0, m1, m2, m3, m4, m5, x0, x1⟩ (fun hHeld => ?_)
          refine pure_ (i := 1) (N := some 62) (v := ?_) (a' := ?_) #[false, true, false, false, false, false, false, false, false, false, false, false, false, false, false, false, false, false] rfl rfl (by kernel_rfl) (fun _ _ _ h => h) (Or.inl ⟨by rfl, ?_⟩) ?_ ?_
          rotate_left
          · intro w'
            go_simp
            with_reducible rfl
          rotate_left
          · simp only [Act.put, List.setIfInBounds_toArray, List.set_cons_zero, List.set_cons_succ, i64_w, i32_w, IntKind.wrap_u32, IntKind.wrap_u8, IntKind.wrap_u16]
            rfl
          refine pure_ (i := 2) (N := some 63) (v := ?_) (a' := ?_) #[false, true, true, false, false, false, false, false, false, false, false, false, false, false, false, false, false, false] rfl rfl (by kernel_rfl) (fun _ _ _ h => h) (Or.inl ⟨by rfl, ?_⟩) ?_ ?_
          rotate_left
          · intro w'
            go_simp
            with_reducible rfl
          rotate_left
          · simp only [Act.put, List.setIfInBounds_toArray, List.set_cons_zero, List.set_cons_succ, i64_w, i32_w, IntKind.wrap_u32, IntKind.wrap_u8, IntKind.wrap_u16]
            rfl
          refine pure_ (i := 3) (N := some 64) (v := ?_) (a' := ?_) #[false, true, true, true, false, false, false, false, false, false, false, false, false, false, false, false, false, false] rfl rfl (by kernel_rfl) (fun _ _ _ h => h) (Or.inl ⟨by rfl, ?_⟩) ?_ ?_
          rotate_left
          · intro w'
            go_simp
            with_reducible rfl
          rotate_left
          · simp only [Act.put, List.setIfInBounds_toArray, List.set_cons_zero, List.set_cons_succ, i64_w, i32_w, IntKind.wrap_u32, IntKind.wrap_u8, IntKind.wrap_u16]
            rfl
          refine pure_ (i := 4) (N := some 65) (v := ?_) (a' := ?_) #[false, true, true, true, true, false, false, false, false, false, false, false, false, false, false, false, false, false] rfl rfl (by kernel_rfl) (fun _ _ _ h => h) (Or.inl ⟨by rfl, ?_⟩) ?_ ?_
          rotate_left
          · intro w'
            go_simp
            with_reducible rfl
          rotate_left
          · simp only [Act.put, List.setIfInBounds_toArray, List.set_cons_zero, List.set_cons_succ, i64_w, i32_w, IntKind.wrap_u32, IntKind.wrap_u8, IntKind.wrap_u16]
            rfl
          refine pure_ (i := 6) (N := some 67) (v := ?_) (a' := ?_) #[false, true, true, true, true, false, true, false, false, false, false, false, false, false, false, false, false, false] rfl rfl (by kernel_rfl) (fun _ _ _ h => h) (Or.inl ⟨by rfl, ?_⟩) ?_ ?_
          rotate_left
          · intro w'
            go_simp
            with_reducible rfl
          rotate_left
          · simp only [Act.put, List.setIfInBounds_toArray, List.set_cons_zero, List.set_cons_succ, i64_w, i32_w, IntKind.wrap_u32, IntKind.wrap_u8, IntKind.wrap_u16]
            rfl
          refine pure_ (i := 7) (N := some 68) (v := ?_) (a' := ?_) #[false, true, true, true, true, false, true, true, false, false, false, false, false, false, false, false, false, false] rfl rfl (by kernel_rfl) (fun _ _ _ h => h) (Or.inl ⟨by rfl, ?_⟩) ?_ ?_
          rotate_left
          · intro w'
            go_simp
            with_reducible rfl
          rotate_left
          · simp only [Act.put, List.setIfInBounds_toArray, List.set_cons_zero, List.set_cons_succ, i64_w, i32_w, IntKind.wrap_u32, IntKind.wrap_u8, IntKind.wrap_u16]
            rfl
          refine pure_ (i := 8) (N := some 69) (v := ?_) (a' := ?_) #[false, true, true, true, true, false, true, true, true, false, false, false, false, false, false, false, false, false] rfl rfl (by kernel_rfl) (fun _ _ _ h => h) (Or.inl ⟨by rfl, ?_⟩) ?_ ?_
          rotate_left
          · intro w'
            go_simp
            with_reducible rfl
          rotate_left
          · simp only [Act.put, List.setIfInBounds_toArray, List.set_cons_zero, List.set_cons_succ, i64_w, i32_w, IntKind.wrap_u32, IntKind.wrap_u8, IntKind.wrap_u16]
            rfl
          refine pure_ (i := 9) (N := some 70) (v := ?_) (a' := ?_) #[false, true, true, true, true, false, true, true, true, true, false, false, false, false, false, false, false, false] rfl rfl (by kernel_rfl) (fun _ _ _ h => h) (Or.inl ⟨by rfl, ?_⟩) ?_ ?_
          rotate_left
          · intro w'
            go_simp
            with_reducible rfl
          rotate_left
          · simp only [Act.put, List.setIfInBounds_toArray, List.set_cons_zero, List.set_cons_succ, i64_w, i32_w, IntKind.wrap_u32, IntKind.wrap_u8, IntKind.wrap_u16]
            rfl
          refine take_ (i := 0) (N := some 61) (v := ?_) (a' := ?_) #[true, true, true, true, true, false, true, true, true, true, false, false, false, false, false, false, false, false] rfl rfl (by kernel_rfl) (fun _ _ _ h => h) (Or.inl ⟨by rfl, ?_⟩) hHeld ?_ ?_
          rotate_left
          · rintro w' ⟨s0, s1, s2, s3, s4, s5, s6, s7⟩
            go_simp
            with_reducible rfl
          rotate_left
          · simp only [Act.put, List.setIfInBounds_toArray, List.set_cons_zero, List.set_cons_succ, i64_w, i32_w, IntKind.wrap_u32, IntKind.wrap_u8, IntKind.wrap_u16]
            rfl
          refine take_ (i := 5) (N := some 66) (v := ?_) (a' := ?_) #[true, true, true, true, true, true, true, true, true, true, false, false, false, false, false, false, false, false] rfl rfl (by kernel_rfl) (fun _ _ _ h => h) (Or.inl ⟨by rfl, ?_⟩) hHeld ?_ ?_
          rotate_left
          · rintro w' ⟨s0, s1, s2, s3, s4, s5, s6, s7⟩
            go_simp
            with_reducible rfl
          rotate_left
          · simp only [Act.put, List.setIfInBounds_toArray, List.set_cons_zero, List.set_cons_succ, i64_w, i32_w, IntKind.wrap_u32, IntKind.wrap_u8, IntKind.wrap_u16]
            rfl
          refine take_ (i := 10) (N := some 71) (v := ?_) (a' := ?_) #[true, true, true, true, true, true, true, true, true, true, true, false, false, false, false, false, false, false] rfl rfl (by kernel_rfl) (fun _ _ _ h => h) (Or.inl ⟨by rfl, ?_⟩) hHeld ?_ ?_
          rotate_left
          · rintro w' ⟨s0, s1, s2, s3, s4, s5, s6, s7⟩
            go_simp
            with_reducible rfl
          rotate_left
          · simp only [Act.put, List.setIfInBounds_toArray, List.set_cons_zero, List.set_cons_succ, i64_w, i32_w, IntKind.wrap_u32, IntKind.wrap_u8, IntKind.wrap_u16]
            rfl
          refine join_ (σ := Nat) 2 #[true, true, true, true, true, true, true, true, true, true, true, true, true, true, true, true, false, false] (fun s_ => [(72, (Value.tuple #[.agg #[.bool true, .bool (takS b x.f0 x.f1).started, .int .i64 (takS b x.f0 x.f1).rate, .int .i64 (takS b x.f0 x.f1).burst, .int .i64 (takS b x.f0 x.f1).level, .int .i64 (takS b x.f0 x.f1).now], .bool (takE b x.f0 x.f1)])), (60, (Value.tuple #[.agg #[.bool true, .bool (takS b x.f0 x.f1).started, .int .i64 (takS b x.f0 x.f1).rate, .int .i64 (takS b x.f0 x.f1).burst, .int .i64 (takS b x.f0 x.f1).level, .int .i64 (takS b x.f0 x.f1).now], .bool (takE b x.f0 x.f1)])), (73, (Value.agg #[.bool true, .bool (takS b x.f0 x.f1).started, .int .i64 (takS b x.f0 x.f1).rate, .int .i64 (takS b x.f0 x.f1).burst, .int .i64 (takS b x.f0 x.f1).level, .int .i64 (takS b x.f0 x.f1).now])), (74, (.bool (takE b x.f0 x.f1) : Value)), (12, (Value.pointer (some ⟨s_, 0, none⟩)))]) (fun s_ w' => SL w w' [bucketR gb b, cellsR gm 27 (mcells b), cellsR s_ 27 #[.bool false, .bool false, .int .i64 0, .int .i64 0, .int .i64 0, .int .i64 0]]) ?_ ?_
          rotate_left
          · intro hCont
            refine two_ (i := 11) (j := 15) (Ni := some 72) (Nj := some 12) #[true, true, true, true, true, true, true, true, true, true, true, true, false, false, false, false, false, false] #[true, true, true, true, true, true, true, true, true, true, true, false, false, false, false, true, false, false] rfl rfl rfl rfl (by kernel_rfl) (by decide) (by decide) (fun K hK => ?_) (fun K hK => ?_)
            · skip
              refine goes_ Try.func16 (by kernel_rfl) rfl #[.agg #[.bool true, .bool b.started, .int .i64 b.rate, .int .i64 b.burst, .int .i64 b.level, .int .i64 b.now], .int .i64 x.f0, .int .i64 x.f1] (by rfl) rfl rfl (by (try simp only [List.map_toArray, List.map_cons, List.map_nil]); first | done | rfl) ?_
              with_reducible refine (rTake_sl (sl_drew HS.out) HB.out g0 g1).mono ?_
              rintro e w3 ⟨rfl, hsC⟩
              refine ⟨_, rfl, ?_⟩
              refine hK.out _ _ ⟨(cell_b (sl_blk hsC 1 rfl) rfl), (cell_b (sl_blk hsC 1 rfl) rfl), (cell_b (sl_blk hsC 1 rfl) rfl), (cell_b (sl_blk hsC 1 rfl) rfl), (cell_b (sl_blk hsC 1 rfl) rfl), (cell_b (sl_blk hsC 1 rfl) rfl), (HX.out _ (sl_below0 hsC)).1, (HX.out _ (sl_below0 hsC)).2.1⟩ (fun hHeld => ?_)
              clear hK K
              refine norm_ (a' := ?_) ?_ ?_
              rotate_left
              · show Act.put _ (some 72) _ = _
                simp only [Act.put, List.setIfInBounds_toArray, List.set_cons_zero, List.set_cons_succ, i64_w, i32_w, IntKind.wrap_u32, IntKind.wrap_u8, IntKind.wrap_u16]
                rfl
              refine pure_ (i := 12) (N := some 60) (v := ?_) (a' := ?_) #[true, true, true, true, true, true, true, true, true, true, true, true, true, false, false, false, false, false] rfl rfl (by kernel_rfl) (fun _ _ _ h => h) (Or.inl ⟨by rfl, ?_⟩) ?_ ?_
              rotate_left
              · intro w'
                go_simp
                with_reducible rfl
              rotate_left
              · simp only [Act.put, List.setIfInBounds_toArray, List.set_cons_zero, List.set_cons_succ, i64_w, i32_w, IntKind.wrap_u32, IntKind.wrap_u8, IntKind.wrap_u16]
                rfl
              refine pure_ (i := 13) (N := some 73) (v := ?_) (a' := ?_) #[true, true, true, true, true, true, true, true, true, true, true, true, true, true, false, false, false, false] rfl rfl (by kernel_rfl) (fun _ _ _ h => h) (Or.inl ⟨by rfl, ?_⟩) ?_ ?_
              rotate_left
              · intro w'
                go_simp
                with_reducible rfl
              rotate_left
              · simp only [Act.put, List.setIfInBounds_toArray, List.set_cons_zero, List.set_cons_succ, i64_w, i32_w, IntKind.wrap_u32, IntKind.wrap_u8, IntKind.wrap_u16]
                rfl
              refine pure_ (i := 14) (N := some 74) (v := ?_) (a' := ?_) #[true, true, true, true, true, true, true, true, true, true, true, true, true, true, true, false, false, false] rfl rfl (by kernel_rfl) (fun _ _ _ h => h) (Or.inl ⟨by rfl, ?_⟩) ?_ ?_
              rotate_left
              · intro w'
                go_simp
                with_reducible rfl
              rotate_left
              · simp only [Act.put, List.setIfInBounds_toArray, List.set_cons_zero, List.set_cons_succ, i64_w, i32_w, IntKind.wrap_u32, IntKind.wrap_u8, IntKind.wrap_u16]
                rfl
              refine one_ (i := 15) (N := some 12) #[true, true, true, true, true, true, true, true, true, true, true, true, true, true, true, true, false, false] rfl rfl (by kernel_rfl) (by decide) (fun K hK => ?_)
              refine box_step ?hg (N := 12) ?hd (cs := #[.bool false, .bool false, .int .i64 0, .int .i64 0, .int .i64 0, .int .i64 0]) (t := 27) ?hr ?_; (case hd => rfl); (case hg => rfl); (case hr => first | (go_simp; done) | (go_simp; rfl))
              intro gn hgn w4 hbox hb
              have hsA := sl_box' hsC hb (Nat.le_of_eq hgn.symm) hbox
              refine hK.out _ _ ⟨(cell_b (sl_blk hsA 1 rfl) rfl), (cell_b (sl_blk hsA 1 rfl) rfl), (cell_b (sl_blk hsA 1 rfl) rfl), (cell_b (sl_blk hsA 1 rfl) rfl), (cell_b (sl_blk hsA 1 rfl) rfl), (cell_b (sl_blk hsA 1 rfl) rfl), (HX.out _ (sl_below0 hsA)).1, (HX.out _ (sl_below0 hsA)).2.1⟩ (fun hHeld => ?_)
              clear hK K
              refine norm_ (a' := ?_) ?_ ?_
              rotate_left
              · show Act.put _ (some 12) _ = _
                simp only [Act.put, List.setIfInBounds_toArray, List.set_cons_zero, List.set_cons_succ, i64_w, i32_w, IntKind.wrap_u32, IntKind.wrap_u8, IntKind.wrap_u16]
                rfl
              exact norm_ (by simp only [putAll, Act.put, List.setIfInBounds_toArray, List.set_cons_zero, List.set_cons_succ]) (hCont gn _ hsA)
            · skip
              refine box_step ?hg (N := 12) ?hd (cs := #[.bool false, .bool false, .int .i64 0, .int .i64 0, .int .i64 0, .int .i64 0]) (t := 27) ?hr ?_; (case hd => rfl); (case hg => rfl); (case hr => first | (go_simp; done) | (go_simp; rfl))
              intro gn hgn w4 hbox hb
              have hsA := sl_box' (sl_drew HS.out) hb (Nat.le_of_eq hgn.symm) hbox
              refine hK.out _ _ ⟨(cell_b (sl_blk hsA 1 rfl) rfl), (cell_b (sl_blk hsA 1 rfl) rfl), (cell_b (sl_blk hsA 1 rfl) rfl), (cell_b (sl_blk hsA 1 rfl) rfl), (cell_b (sl_blk hsA 1 rfl) rfl), (cell_b (sl_blk hsA 1 rfl) rfl), (HX.out _ (sl_below0 hsA)).1, (HX.out _ (sl_below0 hsA)).2.1⟩ (fun hHeld => ?_)
              clear hK K
              refine norm_ (a' := ?_) ?_ ?_
              rotate_left
              · show Act.put _ (some 12) _ = _
                simp only [Act.put, List.setIfInBounds_toArray, List.set_cons_zero, List.set_cons_succ, i64_w, i32_w, IntKind.wrap_u32, IntKind.wrap_u8, IntKind.wrap_u16]
                rfl
              refine one_ (i := 11) (N := some 72) #[true, true, true, true, true, true, true, true, true, true, true, true, false, false, false, true, false, false] rfl rfl (by kernel_rfl) (by decide) (fun K hK => ?_)
              refine goes_ Try.func16 (by kernel_rfl) rfl #[.agg #[.bool true, .bool b.started, .int .i64 b.rate, .int .i64 b.burst, .int .i64 b.level, .int .i64 b.now], .int .i64 x.f0, .int .i64 x.f1] (by rfl) rfl rfl (by (try simp only [List.map_toArray, List.map_cons, List.map_nil]); first | done | rfl) ?_
              with_reducible refine (rTake_sl hsA HB.out g0 g1).mono ?_
              rintro e w3 ⟨rfl, hsC⟩
              refine ⟨_, rfl, ?_⟩
              refine hK.out _ _ ⟨(cell_b (sl_blk hsC 1 rfl) rfl), (cell_b (sl_blk hsC 1 rfl) rfl), (cell_b (sl_blk hsC 1 rfl) rfl), (cell_b (sl_blk hsC 1 rfl) rfl), (cell_b (sl_blk hsC 1 rfl) rfl), (cell_b (sl_blk hsC 1 rfl) rfl), (HX.out _ (sl_below0 hsC)).1, (HX.out _ (sl_below0 hsC)).2.1⟩ (fun hHeld => ?_)
              clear hK K
              refine norm_ (a' := ?_) ?_ ?_
              rotate_left
              · show Act.put _ (some 72) _ = _
                simp only [Act.put, List.setIfInBounds_toArray, List.set_cons_zero, List.set_cons_succ, i64_w, i32_w, IntKind.wrap_u32, IntKind.wrap_u8, IntKind.wrap_u16]
                rfl
              refine pure_ (i := 12) (N := some 60) (v := ?_) (a' := ?_) #[true, true, true, true, true, true, true, true, true, true, true, true, true, false, false, true, false, false] rfl rfl (by kernel_rfl) (fun _ _ _ h => h) (Or.inl ⟨by rfl, ?_⟩) ?_ ?_
              rotate_left
              · intro w'
                go_simp
                with_reducible rfl
              rotate_left
              · simp only [Act.put, List.setIfInBounds_toArray, List.set_cons_zero, List.set_cons_succ, i64_w, i32_w, IntKind.wrap_u32, IntKind.wrap_u8, IntKind.wrap_u16]
                rfl
              refine pure_ (i := 13) (N := some 73) (v := ?_) (a' := ?_) #[true, true, true, true, true, true, true, true, true, true, true, true, true, true, false, true, false, false] rfl rfl (by kernel_rfl) (fun _ _ _ h => h) (Or.inl ⟨by rfl, ?_⟩) ?_ ?_
              rotate_left
              · intro w'
                go_simp
                with_reducible rfl
              rotate_left
              · simp only [Act.put, List.setIfInBounds_toArray, List.set_cons_zero, List.set_cons_succ, i64_w, i32_w, IntKind.wrap_u32, IntKind.wrap_u8, IntKind.wrap_u16]
                rfl
              refine pure_ (i := 14) (N := some 74) (v := ?_) (a' := ?_) #[true, true, true, true, true, true, true, true, true, true, true, true, true, true, true, true, false, false] rfl rfl (by kernel_rfl) (fun _ _ _ h => h) (Or.inl ⟨by rfl, ?_⟩) ?_ ?_
              rotate_left
              · intro w'
                go_simp
                with_reducible rfl
              rotate_left
              · simp only [Act.put, List.setIfInBounds_toArray, List.set_cons_zero, List.set_cons_succ, i64_w, i32_w, IntKind.wrap_u32, IntKind.wrap_u8, IntKind.wrap_u16]
                rfl
              exact norm_ (by simp only [putAll, Act.put, List.setIfInBounds_toArray, List.set_cons_zero, List.set_cons_succ]) (hCont gn _ hsC)
          intro gn w7 hs7
          have hHeld : w7.cell? ⟨gm, 0, none⟩ = some (.bool true) ∧ w7.cell? ⟨gm, 1, none⟩ = some (.bool b.started) ∧ w7.cell? ⟨gm, 2, none⟩ = some (.int .i64 b.rate) ∧ w7.cell? ⟨gm, 3, none⟩ = some (.int .i64 b.burst) ∧ w7.cell? ⟨gm, 4, none⟩ = some (.int .i64 b.level) ∧ w7.cell? ⟨gm, 5, none⟩ = some (.int .i64 b.now) ∧ w7.cell? (ad.add (i * 3)) = some (.int .i64 x.f0) ∧ w7.cell? ⟨(ad.add (i * 3)).block, (ad.add (i * 3)).off + 1, none⟩ = some (.int .i64 x.f1) := ⟨(cell_b (sl_blk hs7 1 rfl) rfl), (cell_b (sl_blk hs7 1 rfl) rfl), (cell_b (sl_blk hs7 1 rfl) rfl), (cell_b (sl_blk hs7 1 rfl) rfl), (cell_b (sl_blk hs7 1 rfl) rfl), (cell_b (sl_blk hs7 1 rfl) rfl), (HX.out _ (sl_below0 hs7)).1, (HX.out _ (sl_below0 hs7)).2.1⟩
          have hz_ := blk_lt (sl_blk hs7 2 rfl)
          have z0 := (blk_cell (sl_blk hs7 2 rfl) 0).trans (show _ = some (Value.bool false) from rfl)
          have z1 := (blk_cell (sl_blk hs7 2 rfl) 1).trans (show _ = some (Value.bool false) from rfl)
          have z2 := (blk_cell (sl_blk hs7 2 rfl) 2).trans (show _ = some (Value.int .i64 0) from rfl)
          have z3 := (blk_cell (sl_blk hs7 2 rfl) 3).trans (show _ = some (Value.int .i64 0) from rfl)
          have z4 := (blk_cell (sl_blk hs7 2 rfl) 4).trans (show _ = some (Value.int .i64 0) from rfl)
          have z5 := (blk_cell (sl_blk hs7 2 rfl) 5).trans (show _ = some (Value.int .i64 0) from rfl)
          have zf0 := blk_frozen (sl_blk hs7 2 rfl) 0
          have zf1 := blk_frozen (sl_blk hs7 2 rfl) 1
          have zf2 := blk_frozen (sl_blk hs7 2 rfl) 2
          have zf3 := blk_frozen (sl_blk hs7 2 rfl) 3
          have zf4 := blk_frozen (sl_blk hs7 2 rfl) 4
          have zf5 := blk_frozen (sl_blk hs7 2 rfl) 5
          refine norm_ (a' := ?_) ?_ ?_
          rotate_left
          · simp only [putAll, Act.put, List.setIfInBounds_toArray, List.set_cons_zero, List.set_cons_succ]
            rfl
          refine last_ (i := 16) (N := none) #[true, true, true, true, true, true, true, true, true, true, true, true, true, true, true, true, true, false] rfl rfl (by kernel_rfl) (by decide) (fun K hK => ?_)
          refine skip_ (w1 := ?_) (by rfl) rfl ?_ ?_
          rotate_left
          · go_simp
            rfl
          refine hK.out _ _ ?_
          clear hK K
          refine pure_ (i := 17) (N := some 13) (v := ?_) (a' := ?_) #[true, true, true, true, true, true, true, true, true, true, true, true, true, true, true, true, true, true] rfl rfl (by kernel_rfl) (fun _ _ _ h => h) (Or.inl ⟨by rfl, ?_⟩) ?_ ?_
          rotate_left
          · intro w'
            go_simp
            with_reducible rfl
          rotate_left
          · simp only [Act.put, List.setIfInBounds_toArray, List.set_cons_zero, List.set_cons_succ, i64_w, i32_w, IntKind.wrap_u32, IntKind.wrap_u8, IntKind.wrap_u16]
            rfl
          refine done_ (by kernel_rfl) ?_
          go_upto_region 15 with (fail)
          refine world_gen (F := fun w_ => Code.wp Try.prog _ _ _ w_) (fun w_ => SL w w_ [bucketR gb b, cellsR gm 27 (mcells b), cellsR gn 27 (mcells (takS b x.f0 x.f1))]) (sl_put6 2 hs7 rfl rfl _ _ _ _ _ _) ?_
          clear hz_ z0 z1 z2 z3 z4 z5 zf0 zf1 zf2 zf3 zf4 zf5 hs7 HS hHeld m0 m1 m2 m3 m4 m5 mf0 mf1 mf2 mf3 mf4 mf5 hm_ x0 x1 x2
          intro w8 hs8
          have HS := Aside0.mk hs8
          clear hs8
          have hm_ := blk_lt (sl_blk HS.out 1 rfl)
          have m0 := (blk_cell (sl_blk HS.out 1 rfl) 0).trans (show _ = some (Value.bool true) from rfl)
          have m1 := (blk_cell (sl_blk HS.out 1 rfl) 1).trans (show _ = some (Value.bool b.started) from rfl)
          have m2 := (blk_cell (sl_blk HS.out 1 rfl) 2).trans (show _ = some (Value.int .i64 b.rate) from rfl)
          have m3 := (blk_cell (sl_blk HS.out 1 rfl) 3).trans (show _ = some (Value.int .i64 b.burst) from rfl)
          have m4 := (blk_cell (sl_blk HS.out 1 rfl) 4).trans (show _ = some (Value.int .i64 b.level) from rfl)
          have m5 := (blk_cell (sl_blk HS.out 1 rfl) 5).trans (show _ = some (Value.int .i64 b.now) from rfl)
          have mf0 := blk_frozen (sl_blk HS.out 1 rfl) 0
          have mf1 := blk_frozen (sl_blk HS.out 1 rfl) 1
          have mf2 := blk_frozen (sl_blk HS.out 1 rfl) 2
          have mf3 := blk_frozen (sl_blk HS.out 1 rfl) 3
          have mf4 := blk_frozen (sl_blk HS.out 1 rfl) 4
          have mf5 := blk_frozen (sl_blk HS.out 1 rfl) 5
          have hn_ := blk_lt (sl_blk HS.out 2 rfl)
          have n0 := (blk_cell (sl_blk HS.out 2 rfl) 0).trans (show _ = some (Value.bool true) from rfl)
          have n1 := (blk_cell (sl_blk HS.out 2 rfl) 1).trans (show _ = some (Value.bool (takS b x.f0 x.f1).started) from rfl)
          have n2 := (blk_cell (sl_blk HS.out 2 rfl) 2).trans (show _ = some (Value.int .i64 (takS b x.f0 x.f1).rate) from rfl)
          have n3 := (blk_cell (sl_blk HS.out 2 rfl) 3).trans (show _ = some (Value.int .i64 (takS b x.f0 x.f1).burst) from rfl)
          have n4 := (blk_cell (sl_blk HS.out 2 rfl) 4).trans (show _ = some (Value.int .i64 (takS b x.f0 x.f1).level) from rfl)
          have n5 := (blk_cell (sl_blk HS.out 2 rfl) 5).trans (show _ = some (Value.int .i64 (takS b x.f0 x.f1).now) from rfl)
          have nf0 := blk_frozen (sl_blk HS.out 2 rfl) 0
          have nf1 := blk_frozen (sl_blk HS.out 2 rfl) 1
          have nf2 := blk_frozen (sl_blk HS.out 2 rfl) 2
          have nf3 := blk_frozen (sl_blk HS.out 2 rfl) 3
          have nf4 := blk_frozen (sl_blk HS.out 2 rfl) 4
          have nf5 := blk_frozen (sl_blk HS.out 2 rfl) 5
          obtain ⟨x0, x1, x2⟩ := HX.out _ (sl_below0 HS.out)
          go_upto_region 16 with (fail)
          refine world_gen (F := fun w_ => Code.wp Try.prog _ _ _ w_) (fun w_ => SL w w_ [bucketR gb b, cellsR gm 27 (mcells (takS b x.f0 x.f1)), cellsR gn 27 (mcells (takS b x.f0 x.f1))]) (sl_put6 1 HS.out rfl rfl _ _ _ _ _ _) ?_
          clear HS m0 mf0 m1 mf1 m2 mf2 m3 mf3 m4 mf4 m5 mf5 n0 nf0 n1 nf1 n2 nf2 n3 nf3 n4 nf4 n5 nf5 hm_ hn_ x0 x1 x2
          intro w9 hs9
          have HS := Aside0.mk hs9
          clear hs9
          obtain ⟨x0, x1, x2⟩ := HX.out _ (sl_below0 HS.out)
          obtain ⟨ok, hok⟩ : ∃ ok, takE b x.f0 x.f1 = ok := ⟨_, rfl⟩
          have bz : (ok != ok) = false := by simp
          refine start_ (n := 14) (S := fun w' => w'.cell? (ad.add (i * 3)) = some (.int .i64 x.f0) ∧ w'.cell? ⟨(ad.add (i * 3)).block, (ad.add (i * 3)).off + 1, none⟩ = some (.int .i64 x.f1)) (ds := []) #[false, false, false, false, false, false, false, false, false, false, false, false, false, false] (by kernel_rfl) rfl rfl ⟨x0, x1⟩ (fun hHeld => ?_)
          refine pure_ (i := 0) (N := some 76) (v := ?_) (a' := ?_) #[true, false, false, false, false, false, false, false, false, false, false, false, false, false] rfl rfl (by kernel_rfl) (fun _ _ _ h => h) (Or.inl ⟨by rfl, ?_⟩) ?_ ?_
          rotate_left
          · intro w'
            go_simp
            with_reducible rfl
          rotate_left
          · simp only [Act.put, List.setIfInBounds_toArray, List.set_cons_zero, List.set_cons_succ, i64_w, i32_w, IntKind.wrap_u32, IntKind.wrap_u8, IntKind.wrap_u16]
            rfl
          refine pure_ (i := 1) (N := some 77) (v := ?_) (a' := ?_) #[true, true, false, false, false, false, false, false, false, false, false, false, false, false] rfl rfl (by kernel_rfl) (fun _ _ _ h => h) (Or.inl ⟨by rfl, ?_⟩) ?_ ?_
          rotate_left
          · intro w'
            go_simp
            with_reducible rfl
          rotate_left
          · simp only [Act.put, List.setIfInBounds_toArray, List.set_cons_zero, List.set_cons_succ, i64_w, i32_w, IntKind.wrap_u32, IntKind.wrap_u8, IntKind.wrap_u16]
            rfl
          refine pure_ (i := 2) (N := some 78) (v := ?_) (a' := ?_) #[true, true, true, false, false, false, false, false, false, false, false, false, false, false] rfl rfl (by kernel_rfl) (fun _ _ _ h => h) (Or.inl ⟨by rfl, ?_⟩) ?_ ?_
          rotate_left
          · intro w'
            go_simp
            with_reducible rfl
          rotate_left
          · simp only [Act.put, List.setIfInBounds_toArray, List.set_cons_zero, List.set_cons_succ, i64_w, i32_w, IntKind.wrap_u32, IntKind.wrap_u8, IntKind.wrap_u16]
            rfl
          refine pure_ (i := 3) (N := some 79) (v := ?_) (a' := ?_) #[true, true, true, true, false, false, false, false, false, false, false, false, false, false] rfl rfl (by kernel_rfl) (fun _ _ _ h => h) (Or.inl ⟨by rfl, ?_⟩) ?_ ?_
          rotate_left
          · intro w'
            go_simp
            with_reducible rfl
          rotate_left
          · simp only [Act.put, List.setIfInBounds_toArray, List.set_cons_zero, List.set_cons_succ, i64_w, i32_w, IntKind.wrap_u32, IntKind.wrap_u8, IntKind.wrap_u16]
            rfl
          refine pure_ (i := 4) (N := some 80) (v := ?_) (a' := ?_) #[true, true, true, true, true, false, false, false, false, false, false, false, false, false] rfl rfl (by kernel_rfl) (fun _ _ _ h => h) (Or.inl ⟨by rfl, ?_⟩) ?_ ?_
          rotate_left
          · intro w'
            go_simp
            with_reducible rfl
          rotate_left
          · simp only [Act.put, List.setIfInBounds_toArray, List.set_cons_zero, List.set_cons_succ, i64_w, i32_w, IntKind.wrap_u32, IntKind.wrap_u8, IntKind.wrap_u16]
            rfl
          refine pure_ (i := 6) (N := some 82) (v := ?_) (a' := ?_) #[true, true, true, true, true, false, true, false, false, false, false, false, false, false] rfl rfl (by kernel_rfl) (fun _ _ _ h => h) (Or.inl ⟨by rfl, ?_⟩) ?_ ?_
          rotate_left
          · intro w'
            go_simp
            with_reducible rfl
          rotate_left
          · simp only [Act.put, List.setIfInBounds_toArray, List.set_cons_zero, List.set_cons_succ, i64_w, i32_w, IntKind.wrap_u32, IntKind.wrap_u8, IntKind.wrap_u16]
            rfl
          refine pure_ (i := 7) (N := some 83) (v := ?_) (a' := ?_) #[true, true, true, true, true, false, true, true, false, false, false, false, false, false] rfl rfl (by kernel_rfl) (fun _ _ _ h => h) (Or.inl ⟨by rfl, ?_⟩) ?_ ?_
          rotate_left
          · intro w'
            go_simp
            with_reducible rfl
          rotate_left
          · simp only [Act.put, List.setIfInBounds_toArray, List.set_cons_zero, List.set_cons_succ, i64_w, i32_w, IntKind.wrap_u32, IntKind.wrap_u8, IntKind.wrap_u16]
            rfl
          refine pure_ (i := 8) (N := some 84) (v := ?_) (a' := ?_) #[true, true, true, true, true, false, true, true, true, false, false, false, false, false] rfl rfl (by kernel_rfl) (fun _ _ _ h => h) (Or.inl ⟨by rfl, ?_⟩) ?_ ?_
          rotate_left
          · intro w'
            go_simp
            with_reducible rfl
          rotate_left
          · simp only [Act.put, List.setIfInBounds_toArray, List.set_cons_zero, List.set_cons_succ, i64_w, i32_w, IntKind.wrap_u32, IntKind.wrap_u8, IntKind.wrap_u16]
            rfl
          refine pure_ (i := 9) (N := some 85) (v := ?_) (a' := ?_) #[true, true, true, true, true, false, true, true, true, true, false, false, false, false] rfl rfl (by kernel_rfl) (fun _ _ _ h => h) (Or.inl ⟨by rfl, ?_⟩) ?_ ?_
          rotate_left
          · intro w'
            go_simp
            with_reducible rfl
          rotate_left
          · simp only [Act.put, List.setIfInBounds_toArray, List.set_cons_zero, List.set_cons_succ, i64_w, i32_w, IntKind.wrap_u32, IntKind.wrap_u8, IntKind.wrap_u16]
            rfl
          refine pure_ (i := 12) (N := some 88) (v := ?_) (a' := ?_) #[true, true, true, true, true, false, true, true, true, true, false, false, true, false] rfl rfl (by kernel_rfl) (fun _ _ _ h => h) (Or.inl ⟨by rfl, ?_⟩) ?_ ?_
          rotate_left
          · intro w'
            go_simp
            with_reducible rfl
          rotate_left
          · simp only [Act.put, List.setIfInBounds_toArray, List.set_cons_zero, List.set_cons_succ, i64_w, i32_w, IntKind.wrap_u32, IntKind.wrap_u8, IntKind.wrap_u16]
            rfl
          refine take_ (i := 5) (N := some 81) (v := ?_) (a' := ?_) #[true, true, true, true, true, true, true, true, true, true, false, false, true, false] rfl rfl (by kernel_rfl) (fun _ _ _ h => h) (Or.inl ⟨by rfl, ?_⟩) hHeld ?_ ?_
          rotate_left
          · rintro w' ⟨s0, s1⟩
            go_simp
            with_reducible rfl
          rotate_left
          · simp only [Act.put, List.setIfInBounds_toArray, List.set_cons_zero, List.set_cons_succ, i64_w, i32_w, IntKind.wrap_u32, IntKind.wrap_u8, IntKind.wrap_u16]
            rfl
          refine take_ (i := 10) (N := some 86) (v := ?_) (a' := ?_) #[true, true, true, true, true, true, true, true, true, true, true, false, true, false] rfl rfl (by kernel_rfl) (fun _ _ _ h => h) (Or.inl ⟨by rfl, ?_⟩) hHeld ?_ ?_
          rotate_left
          · rintro w' ⟨s0, s1⟩
            go_simp
            with_reducible rfl
          rotate_left
          · simp only [Act.put, List.setIfInBounds_toArray, List.set_cons_zero, List.set_cons_succ, i64_w, i32_w, IntKind.wrap_u32, IntKind.wrap_u8, IntKind.wrap_u16]
            rfl
          refine one_ (i := 11) (N := some 87) #[true, true, true, true, true, true, true, true, true, true, true, true, true, false] rfl rfl (by kernel_rfl) (by decide) (fun K hK => ?_)
          refine goes_ Try.func17 (by kernel_rfl) rfl #[.pointer (some ⟨gb, 0, none⟩), .int .i64 x.f0, .int .i64 x.f1] (by rfl) rfl rfl (by (try simp only [List.map_toArray, List.map_cons, List.map_nil]); first | done | rfl) ?_
          with_reducible refine (Take_h (sl_drew HS.out) 0 _ _ rfl HB.out g0 g1).mono ?_
          rintro e w3 ⟨rfl, hs3⟩
          refine ⟨_, rfl, ?_⟩
          refine hK.out _ _ ⟨(HX.out _ (sl_below0 hs3)).1, (HX.out _ (sl_below0 hs3)).2.1⟩ (fun hHeld => ?_)
          clear hK K
          refine norm_ (a' := ?_) ?_ ?_
          rotate_left
          · show Act.put _ (some 87) _ = _
            simp only [Act.put, List.setIfInBounds_toArray, List.set_cons_zero, List.set_cons_succ, i64_w, i32_w, IntKind.wrap_u32, IntKind.wrap_u8, IntKind.wrap_u16]
            rfl
          refine pure_ (i := 13) (N := some 89) (v := ?_) (a' := ?_) #[true, true, true, true, true, true, true, true, true, true, true, true, true, true] rfl rfl (by kernel_rfl) (fun _ _ _ h => h) (Or.inl ⟨by rfl, ?_⟩) ?_ ?_
          rotate_left
          · intro w'
            go_simp
            with_reducible rfl
          rotate_left
          · simp only [Act.put, List.setIfInBounds_toArray, List.set_cons_zero, List.set_cons_succ, i64_w, i32_w, IntKind.wrap_u32, IntKind.wrap_u8, IntKind.wrap_u16]
            rfl
          refine done_ (by kernel_rfl) ?_
          go_wp2_with (first
            | (go_at_call 17; refine (Take_h (by repeat (with_reducible first | exact HS.out | apply sl_drewN | apply sl_drew | apply sl_alloc)) 0 _ _ (by rfl) HB.out g0 g1).mono ?_; rintro e w1 ⟨rfl, hs⟩; (try simp only [World.size_alloc] at hs); replace HS := Aside0.mk hs; clear hs)
            | (go_at_call 15; refine (Level_h (by repeat (with_reducible first | exact HS.out | apply sl_drewN | apply sl_drew | apply sl_alloc)) 0 _ (by rfl) HB.out g0 g1).mono ?_; rintro e w1 ⟨rfl, hs⟩; (try simp only [World.size_alloc] at hs); replace HS := Aside0.mk hs; clear hs))
          go_roundg kq
          case measure => omega
          case rel => exact ⟨i + 1, _, rfl, ⟨by have := HI.out; omega⟩, ⟨takS_ok HB.out g0 g1⟩, ⟨sl_two hs3⟩⟩
        · rw [hb] at x2
          clear hb
          go_upto_region 10 with (fail)
          refine start_ (n := 13) (S := fun w' => w'.cell? ⟨gm, 0, none⟩ = some (.bool true) ∧ w'.cell? ⟨gm, 1, none⟩ = some (.bool b.started) ∧ w'.cell? ⟨gm, 2, none⟩ = some (.int .i64 b.rate) ∧ w'.cell? ⟨gm, 3, none⟩ = some (.int .i64 b.burst) ∧ w'.cell? ⟨gm, 4, none⟩ = some (.int .i64 b.level) ∧ w'.cell? ⟨gm, 5, none⟩ = some (.int .i64 b.now) ∧ w'.cell? (ad.add (i * 3)) = some (.int .i64 x.f0) ∧ w'.cell? ⟨(ad.add (i * 3)).block, (ad.add (i * 3)).off + 1, none⟩ = some (.int .i64 x.f1)) (ds := [11]) #[false, false, false, false, false, false, false, false, false, false, false, false, false] (by kernel_rfl) rfl rfl ⟨m0, m1, m2, m3, m4, m5, x0, x1⟩ (fun hHeld => ?_)
          refine pure_ (i := 1) (N := some 42) (v := ?_) (a' := ?_) #[false, true, false, false, false, false, false, false, false, false, false, false, false] rfl rfl (by kernel_rfl) (fun _ _ _ h => h) (Or.inl ⟨by rfl, ?_⟩) ?_ ?_
          rotate_left
          · intro w'
            go_simp
            with_reducible rfl
          rotate_left
          · simp only [Act.put, List.setIfInBounds_toArray, List.set_cons_zero, List.set_cons_succ, i64_w, i32_w, IntKind.wrap_u32, IntKind.wrap_u8, IntKind.wrap_u16]
            rfl
          refine pure_ (i := 2) (N := some 43) (v := ?_) (a' := ?_) #[false, true, true, false, false, false, false, false, false, false, false, false, false] rfl rfl (by kernel_rfl) (fun _ _ _ h => h) (Or.inl ⟨by rfl, ?_⟩) ?_ ?_
          rotate_left
          · intro w'
            go_simp
            with_reducible rfl
          rotate_left
          · simp only [Act.put, List.setIfInBounds_toArray, List.set_cons_zero, List.set_cons_succ, i64_w, i32_w, IntKind.wrap_u32, IntKind.wrap_u8, IntKind.wrap_u16]
            rfl
          refine pure_ (i := 3) (N := some 44) (v := ?_) (a' := ?_) #[false, true, true, true, false, false, false, false, false, false, false, false, false] rfl rfl (by kernel_rfl) (fun _ _ _ h => h) (Or.inl ⟨by rfl, ?_⟩) ?_ ?_
          rotate_left
          · intro w'
            go_simp
            with_reducible rfl
          rotate_left
          · simp only [Act.put, List.setIfInBounds_toArray, List.set_cons_zero, List.set_cons_succ, i64_w, i32_w, IntKind.wrap_u32, IntKind.wrap_u8, IntKind.wrap_u16]
            rfl
          refine pure_ (i := 4) (N := some 45) (v := ?_) (a' := ?_) #[false, true, true, true, true, false, false, false, false, false, false, false, false] rfl rfl (by kernel_rfl) (fun _ _ _ h => h) (Or.inl ⟨by rfl, ?_⟩) ?_ ?_
          rotate_left
          · intro w'
            go_simp
            with_reducible rfl
          rotate_left
          · simp only [Act.put, List.setIfInBounds_toArray, List.set_cons_zero, List.set_cons_succ, i64_w, i32_w, IntKind.wrap_u32, IntKind.wrap_u8, IntKind.wrap_u16]
            rfl
          refine take_ (i := 0) (N := some 41) (v := ?_) (a' := ?_) #[true, true, true, true, true, false, false, false, false, false, false, false, false] rfl rfl (by kernel_rfl) (fun _ _ _ h => h) (Or.inl ⟨by rfl, ?_⟩) hHeld ?_ ?_
          rotate_left
          · rintro w' ⟨s0, s1, s2, s3, s4, s5, s6, s7⟩
            go_simp
            with_reducible rfl
          rotate_left
          · simp only [Act.put, List.setIfInBounds_toArray, List.set_cons_zero, List.set_cons_succ, i64_w, i32_w, IntKind.wrap_u32, IntKind.wrap_u8, IntKind.wrap_u16]
            rfl
          refine take_ (i := 5) (N := some 46) (v := ?_) (a' := ?_) #[true, true, true, true, true, true, false, false, false, false, false, false, false] rfl rfl (by kernel_rfl) (fun _ _ _ h => h) (Or.inl ⟨by rfl, ?_⟩) hHeld ?_ ?_
          rotate_left
          · rintro w' ⟨s0, s1, s2, s3, s4, s5, s6, s7⟩
            go_simp
            with_reducible rfl
          rotate_left
          · simp only [Act.put, List.setIfInBounds_toArray, List.set_cons_zero, List.set_cons_succ, i64_w, i32_w, IntKind.wrap_u32, IntKind.wrap_u8, IntKind.wrap_u16]
            rfl
          refine join_ (σ := Nat) 2 #[true, true, true, true, true, true, true, true, true, true, true, false, false] (fun s_ => [(47, (Value.tuple #[.agg #[.bool true, .bool (advB b x.f0).started, .int .i64 (advB b x.f0).rate, .int .i64 (advB b x.f0).burst, .int .i64 (advB b x.f0).level, .int .i64 (advB b x.f0).now], .int .i64 (levE b x.f0)])), (40, (Value.tuple #[.agg #[.bool true, .bool (advB b x.f0).started, .int .i64 (advB b x.f0).rate, .int .i64 (advB b x.f0).burst, .int .i64 (advB b x.f0).level, .int .i64 (advB b x.f0).now], .int .i64 (levE b x.f0)])), (48, (Value.agg #[.bool true, .bool (advB b x.f0).started, .int .i64 (advB b x.f0).rate, .int .i64 (advB b x.f0).burst, .int .i64 (advB b x.f0).level, .int .i64 (advB b x.f0).now])), (49, (.int .i64 (levE b x.f0) : Value)), (10, (Value.pointer (some ⟨s_, 0, none⟩)))]) (fun s_ w' => SL w w' [bucketR gb b, cellsR gm 27 (mcells b), cellsR s_ 27 #[.bool false, .bool false, .int .i64 0, .int .i64 0, .int .i64 0, .int .i64 0]]) ?_ ?_
          rotate_left
          · intro hCont
            refine two_ (i := 6) (j := 10) (Ni := some 47) (Nj := some 10) #[true, true, true, true, true, true, true, false, false, false, false, false, false] #[true, true, true, true, true, true, false, false, false, false, true, false, false] rfl rfl rfl rfl (by kernel_rfl) (by decide) (by decide) (fun K hK => ?_) (fun K hK => ?_)
            · skip
              refine goes_ Try.func14 (by kernel_rfl) rfl #[.agg #[.bool true, .bool b.started, .int .i64 b.rate, .int .i64 b.burst, .int .i64 b.level, .int .i64 b.now], .int .i64 x.f0] (by rfl) rfl rfl (by (try simp only [List.map_toArray, List.map_cons, List.map_nil]); first | done | rfl) ?_
              with_reducible refine (rLevel_sl (sl_drew HS.out) HB.out g0 g1).mono ?_
              rintro e w3 ⟨rfl, hsC⟩
              refine ⟨_, rfl, ?_⟩
              refine hK.out _ _ ⟨(cell_b (sl_blk hsC 1 rfl) rfl), (cell_b (sl_blk hsC 1 rfl) rfl), (cell_b (sl_blk hsC 1 rfl) rfl), (cell_b (sl_blk hsC 1 rfl) rfl), (cell_b (sl_blk hsC 1 rfl) rfl), (cell_b (sl_blk hsC 1 rfl) rfl), (HX.out _ (sl_below0 hsC)).1, (HX.out _ (sl_below0 hsC)).2.1⟩ (fun hHeld => ?_)
              clear hK K
              refine norm_ (a' := ?_) ?_ ?_
              rotate_left
              · show Act.put _ (some 47) _ = _
                simp only [Act.put, List.setIfInBounds_toArray, List.set_cons_zero, List.set_cons_succ, i64_w, i32_w, IntKind.wrap_u32, IntKind.wrap_u8, IntKind.wrap_u16]
                rfl
              refine pure_ (i := 7) (N := some 40) (v := ?_) (a' := ?_) #[true, true, true, true, true, true, true, true, false, false, false, false, false] rfl rfl (by kernel_rfl) (fun _ _ _ h => h) (Or.inl ⟨by rfl, ?_⟩) ?_ ?_
              rotate_left
              · intro w'
                go_simp
                with_reducible rfl
              rotate_left
              · simp only [Act.put, List.setIfInBounds_toArray, List.set_cons_zero, List.set_cons_succ, i64_w, i32_w, IntKind.wrap_u32, IntKind.wrap_u8, IntKind.wrap_u16]
                rfl
              refine pure_ (i := 8) (N := some 48) (v := ?_) (a' := ?_) #[true, true, true, true, true, true, true, true, true, false, false, false, false] rfl rfl (by kernel_rfl) (fun _ _ _ h => h) (Or.inl ⟨by rfl, ?_⟩) ?_ ?_
              rotate_left
              · intro w'
                go_simp
                with_reducible rfl
              rotate_left
              · simp only [Act.put, List.setIfInBounds_toArray, List.set_cons_zero, List.set_cons_succ, i64_w, i32_w, IntKind.wrap_u32, IntKind.wrap_u8, IntKind.wrap_u16]
                rfl
              refine pure_ (i := 9) (N := some 49) (v := ?_) (a' := ?_) #[true, true, true, true, true, true, true, true, true, true, false, false, false] rfl rfl (by kernel_rfl) (fun _ _ _ h => h) (Or.inl ⟨by rfl, ?_⟩) ?_ ?_
              rotate_left
              · intro w'
                go_simp
                with_reducible rfl
              rotate_left
              · simp only [Act.put, List.setIfInBounds_toArray, List.set_cons_zero, List.set_cons_succ, i64_w, i32_w, IntKind.wrap_u32, IntKind.wrap_u8, IntKind.wrap_u16]
                rfl
              refine one_ (i := 10) (N := some 10) #[true, true, true, true, true, true, true, true, true, true, true, false, false] rfl rfl (by kernel_rfl) (by decide) (fun K hK => ?_)
              refine box_step ?hg (N := 10) ?hd (cs := #[.bool false, .bool false, .int .i64 0, .int .i64 0, .int .i64 0, .int .i64 0]) (t := 27) ?hr ?_; (case hd => rfl); (case hg => rfl); (case hr => first | (go_simp; done) | (go_simp; rfl))
              intro gn hgn w4 hbox hb
              have hsA := sl_box' hsC hb (Nat.le_of_eq hgn.symm) hbox
              refine hK.out _ _ ⟨(cell_b (sl_blk hsA 1 rfl) rfl), (cell_b (sl_blk hsA 1 rfl) rfl), (cell_b (sl_blk hsA 1 rfl) rfl), (cell_b (sl_blk hsA 1 rfl) rfl), (cell_b (sl_blk hsA 1 rfl) rfl), (cell_b (sl_blk hsA 1 rfl) rfl), (HX.out _ (sl_below0 hsA)).1, (HX.out _ (sl_below0 hsA)).2.1⟩ (fun hHeld => ?_)
              clear hK K
              refine norm_ (a' := ?_) ?_ ?_
              rotate_left
              · show Act.put _ (some 10) _ = _
                simp only [Act.put, List.setIfInBounds_toArray, List.set_cons_zero, List.set_cons_succ, i64_w, i32_w, IntKind.wrap_u32, IntKind.wrap_u8, IntKind.wrap_u16]
                rfl
              exact norm_ (by simp only [putAll, Act.put, List.setIfInBounds_toArray, List.set_cons_zero, List.set_cons_succ]) (hCont gn _ hsA)
            · skip
              refine box_step ?hg (N := 10) ?hd (cs := #[.bool false, .bool false, .int .i64 0, .int .i64 0, .int .i64 0, .int .i64 0]) (t := 27) ?hr ?_; (case hd => rfl); (case hg => rfl); (case hr => first | (go_simp; done) | (go_simp; rfl))
              intro gn hgn w4 hbox hb
              have hsA := sl_box' (sl_drew HS.out) hb (Nat.le_of_eq hgn.symm) hbox
              refine hK.out _ _ ⟨(cell_b (sl_blk hsA 1 rfl) rfl), (cell_b (sl_blk hsA 1 rfl) rfl), (cell_b (sl_blk hsA 1 rfl) rfl), (cell_b (sl_blk hsA 1 rfl) rfl), (cell_b (sl_blk hsA 1 rfl) rfl), (cell_b (sl_blk hsA 1 rfl) rfl), (HX.out _ (sl_below0 hsA)).1, (HX.out _ (sl_below0 hsA)).2.1⟩ (fun hHeld => ?_)
              clear hK K
              refine norm_ (a' := ?_) ?_ ?_
              rotate_left
              · show Act.put _ (some 10) _ = _
                simp only [Act.put, List.setIfInBounds_toArray, List.set_cons_zero, List.set_cons_succ, i64_w, i32_w, IntKind.wrap_u32, IntKind.wrap_u8, IntKind.wrap_u16]
                rfl
              refine one_ (i := 6) (N := some 47) #[true, true, true, true, true, true, true, false, false, false, true, false, false] rfl rfl (by kernel_rfl) (by decide) (fun K hK => ?_)
              refine goes_ Try.func14 (by kernel_rfl) rfl #[.agg #[.bool true, .bool b.started, .int .i64 b.rate, .int .i64 b.burst, .int .i64 b.level, .int .i64 b.now], .int .i64 x.f0] (by rfl) rfl rfl (by (try simp only [List.map_toArray, List.map_cons, List.map_nil]); first | done | rfl) ?_
              with_reducible refine (rLevel_sl hsA HB.out g0 g1).mono ?_
              rintro e w3 ⟨rfl, hsC⟩
              refine ⟨_, rfl, ?_⟩
              refine hK.out _ _ ⟨(cell_b (sl_blk hsC 1 rfl) rfl), (cell_b (sl_blk hsC 1 rfl) rfl), (cell_b (sl_blk hsC 1 rfl) rfl), (cell_b (sl_blk hsC 1 rfl) rfl), (cell_b (sl_blk hsC 1 rfl) rfl), (cell_b (sl_blk hsC 1 rfl) rfl), (HX.out _ (sl_below0 hsC)).1, (HX.out _ (sl_below0 hsC)).2.1⟩ (fun hHeld => ?_)
              clear hK K
              refine norm_ (a' := ?_) ?_ ?_
              rotate_left
              · show Act.put _ (some 47) _ = _
                simp only [Act.put, List.setIfInBounds_toArray, List.set_cons_zero, List.set_cons_succ, i64_w, i32_w, IntKind.wrap_u32, IntKind.wrap_u8, IntKind.wrap_u16]
                rfl
              refine pure_ (i := 7) (N := some 40) (v := ?_) (a' := ?_) #[true, true, true, true, true, true, true, true, false, false, true, false, false] rfl rfl (by kernel_rfl) (fun _ _ _ h => h) (Or.inl ⟨by rfl, ?_⟩) ?_ ?_
              rotate_left
              · intro w'
                go_simp
                with_reducible rfl
              rotate_left
              · simp only [Act.put, List.setIfInBounds_toArray, List.set_cons_zero, List.set_cons_succ, i64_w, i32_w, IntKind.wrap_u32, IntKind.wrap_u8, IntKind.wrap_u16]
                rfl
              refine pure_ (i := 8) (N := some 48) (v := ?_) (a' := ?_) #[true, true, true, true, true, true, true, true, true, false, true, false, false] rfl rfl (by kernel_rfl) (fun _ _ _ h => h) (Or.inl ⟨by rfl, ?_⟩) ?_ ?_
              rotate_left
              · intro w'
                go_simp
                with_reducible rfl
              rotate_left
              · simp only [Act.put, List.setIfInBounds_toArray, List.set_cons_zero, List.set_cons_succ, i64_w, i32_w, IntKind.wrap_u32, IntKind.wrap_u8, IntKind.wrap_u16]
                rfl
              refine pure_ (i := 9) (N := some 49) (v := ?_) (a' := ?_) #[true, true, true, true, true, true, true, true, true, true, true, false, false] rfl rfl (by kernel_rfl) (fun _ _ _ h => h) (Or.inl ⟨by rfl, ?_⟩) ?_ ?_
              rotate_left
              · intro w'
                go_simp
                with_reducible rfl
              rotate_left
              · simp only [Act.put, List.setIfInBounds_toArray, List.set_cons_zero, List.set_cons_succ, i64_w, i32_w, IntKind.wrap_u32, IntKind.wrap_u8, IntKind.wrap_u16]
                rfl
              exact norm_ (by simp only [putAll, Act.put, List.setIfInBounds_toArray, List.set_cons_zero, List.set_cons_succ]) (hCont gn _ hsC)
          intro gn w7 hs7
          have hHeld : w7.cell? ⟨gm, 0, none⟩ = some (.bool true) ∧ w7.cell? ⟨gm, 1, none⟩ = some (.bool b.started) ∧ w7.cell? ⟨gm, 2, none⟩ = some (.int .i64 b.rate) ∧ w7.cell? ⟨gm, 3, none⟩ = some (.int .i64 b.burst) ∧ w7.cell? ⟨gm, 4, none⟩ = some (.int .i64 b.level) ∧ w7.cell? ⟨gm, 5, none⟩ = some (.int .i64 b.now) ∧ w7.cell? (ad.add (i * 3)) = some (.int .i64 x.f0) ∧ w7.cell? ⟨(ad.add (i * 3)).block, (ad.add (i * 3)).off + 1, none⟩ = some (.int .i64 x.f1) := ⟨(cell_b (sl_blk hs7 1 rfl) rfl), (cell_b (sl_blk hs7 1 rfl) rfl), (cell_b (sl_blk hs7 1 rfl) rfl), (cell_b (sl_blk hs7 1 rfl) rfl), (cell_b (sl_blk hs7 1 rfl) rfl), (cell_b (sl_blk hs7 1 rfl) rfl), (HX.out _ (sl_below0 hs7)).1, (HX.out _ (sl_below0 hs7)).2.1⟩
          have hz_ := blk_lt (sl_blk hs7 2 rfl)
          have z0 := (blk_cell (sl_blk hs7 2 rfl) 0).trans (show _ = some (Value.bool false) from rfl)
          have z1 := (blk_cell (sl_blk hs7 2 rfl) 1).trans (show _ = some (Value.bool false) from rfl)
          have z2 := (blk_cell (sl_blk hs7 2 rfl) 2).trans (show _ = some (Value.int .i64 0) from rfl)
          have z3 := (blk_cell (sl_blk hs7 2 rfl) 3).trans (show _ = some (Value.int .i64 0) from rfl)
          have z4 := (blk_cell (sl_blk hs7 2 rfl) 4).trans (show _ = some (Value.int .i64 0) from rfl)
          have z5 := (blk_cell (sl_blk hs7 2 rfl) 5).trans (show _ = some (Value.int .i64 0) from rfl)
          have zf0 := blk_frozen (sl_blk hs7 2 rfl) 0
          have zf1 := blk_frozen (sl_blk hs7 2 rfl) 1
          have zf2 := blk_frozen (sl_blk hs7 2 rfl) 2
          have zf3 := blk_frozen (sl_blk hs7 2 rfl) 3
          have zf4 := blk_frozen (sl_blk hs7 2 rfl) 4
          have zf5 := blk_frozen (sl_blk hs7 2 rfl) 5
          refine norm_ (a' := ?_) ?_ ?_
          rotate_left
          · simp only [putAll, Act.put, List.setIfInBounds_toArray, List.set_cons_zero, List.set_cons_succ]
            rfl
          refine last_ (i := 11) (N := none) #[true, true, true, true, true, true, true, true, true, true, true, true, false] rfl rfl (by kernel_rfl) (by decide) (fun K hK => ?_)
          refine skip_ (w1 := ?_) (by rfl) rfl ?_ ?_
          rotate_left
          · go_simp
            rfl
          refine hK.out _ _ ?_
          clear hK K
          refine pure_ (i := 12) (N := some 11) (v := ?_) (a' := ?_) #[true, true, true, true, true, true, true, true, true, true, true, true, true] rfl rfl (by kernel_rfl) (fun _ _ _ h => h) (Or.inl ⟨by rfl, ?_⟩) ?_ ?_
          rotate_left
          · intro w'
            go_simp
            with_reducible rfl
          rotate_left
          · simp only [Act.put, List.setIfInBounds_toArray, List.set_cons_zero, List.set_cons_succ, i64_w, i32_w, IntKind.wrap_u32, IntKind.wrap_u8, IntKind.wrap_u16]
            rfl
          refine done_ (by kernel_rfl) ?_
          go_upto_region 11 with (fail)
          refine world_gen (F := fun w_ => Code.wp Try.prog _ _ _ w_) (fun w_ => SL w w_ [bucketR gb b, cellsR gm 27 (mcells b), cellsR gn 27 (mcells (advB b x.f0))]) (sl_put6 2 hs7 rfl rfl _ _ _ _ _ _) ?_
          clear hz_ z0 z1 z2 z3 z4 z5 zf0 zf1 zf2 zf3 zf4 zf5 hs7 HS hHeld m0 m1 m2 m3 m4 m5 mf0 mf1 mf2 mf3 mf4 mf5 hm_ x0 x1 x2
          intro w8 hs8
          have HS := Aside0.mk hs8
          clear hs8
          have hm_ := blk_lt (sl_blk HS.out 1 rfl)
          have m0 := (blk_cell (sl_blk HS.out 1 rfl) 0).trans (show _ = some (Value.bool true) from rfl)
          have m1 := (blk_cell (sl_blk HS.out 1 rfl) 1).trans (show _ = some (Value.bool b.started) from rfl)
          have m2 := (blk_cell (sl_blk HS.out 1 rfl) 2).trans (show _ = some (Value.int .i64 b.rate) from rfl)
          have m3 := (blk_cell (sl_blk HS.out 1 rfl) 3).trans (show _ = some (Value.int .i64 b.burst) from rfl)
          have m4 := (blk_cell (sl_blk HS.out 1 rfl) 4).trans (show _ = some (Value.int .i64 b.level) from rfl)
          have m5 := (blk_cell (sl_blk HS.out 1 rfl) 5).trans (show _ = some (Value.int .i64 b.now) from rfl)
          have mf0 := blk_frozen (sl_blk HS.out 1 rfl) 0
          have mf1 := blk_frozen (sl_blk HS.out 1 rfl) 1
          have mf2 := blk_frozen (sl_blk HS.out 1 rfl) 2
          have mf3 := blk_frozen (sl_blk HS.out 1 rfl) 3
          have mf4 := blk_frozen (sl_blk HS.out 1 rfl) 4
          have mf5 := blk_frozen (sl_blk HS.out 1 rfl) 5
          have hn_ := blk_lt (sl_blk HS.out 2 rfl)
          have n0 := (blk_cell (sl_blk HS.out 2 rfl) 0).trans (show _ = some (Value.bool true) from rfl)
          have n1 := (blk_cell (sl_blk HS.out 2 rfl) 1).trans (show _ = some (Value.bool (advB b x.f0).started) from rfl)
          have n2 := (blk_cell (sl_blk HS.out 2 rfl) 2).trans (show _ = some (Value.int .i64 (advB b x.f0).rate) from rfl)
          have n3 := (blk_cell (sl_blk HS.out 2 rfl) 3).trans (show _ = some (Value.int .i64 (advB b x.f0).burst) from rfl)
          have n4 := (blk_cell (sl_blk HS.out 2 rfl) 4).trans (show _ = some (Value.int .i64 (advB b x.f0).level) from rfl)
          have n5 := (blk_cell (sl_blk HS.out 2 rfl) 5).trans (show _ = some (Value.int .i64 (advB b x.f0).now) from rfl)
          have nf0 := blk_frozen (sl_blk HS.out 2 rfl) 0
          have nf1 := blk_frozen (sl_blk HS.out 2 rfl) 1
          have nf2 := blk_frozen (sl_blk HS.out 2 rfl) 2
          have nf3 := blk_frozen (sl_blk HS.out 2 rfl) 3
          have nf4 := blk_frozen (sl_blk HS.out 2 rfl) 4
          have nf5 := blk_frozen (sl_blk HS.out 2 rfl) 5
          obtain ⟨x0, x1, x2⟩ := HX.out _ (sl_below0 HS.out)
          go_upto_region 12 with (fail)
          refine world_gen (F := fun w_ => Code.wp Try.prog _ _ _ w_) (fun w_ => SL w w_ [bucketR gb b, cellsR gm 27 (mcells (advB b x.f0)), cellsR gn 27 (mcells (advB b x.f0))]) (sl_put6 1 HS.out rfl rfl _ _ _ _ _ _) ?_
          clear HS m0 mf0 m1 mf1 m2 mf2 m3 mf3 m4 mf4 m5 mf5 n0 nf0 n1 nf1 n2 nf2 n3 nf3 n4 nf4 n5 nf5 hm_ hn_ x0 x1 x2
          intro w9 hs9
          have HS := Aside0.mk hs9
          clear hs9
          obtain ⟨x0, x1, x2⟩ := HX.out _ (sl_below0 HS.out)
          obtain ⟨lv, hlv⟩ : ∃ lv, levE b x.f0 = lv := ⟨_, rfl⟩
          have bz : (lv != lv) = false := by simp
          go_wp2_with (first
            | (go_at_call 17; refine (Take_h (by repeat (with_reducible first | exact HS.out | apply sl_drewN | apply sl_drew | apply sl_alloc)) 0 _ _ (by rfl) HB.out g0 g1).mono ?_; rintro e w1 ⟨rfl, hs⟩; (try simp only [World.size_alloc] at hs); replace HS := Aside0.mk hs; clear hs)
            | (go_at_call 15; refine (Level_h (by repeat (with_reducible first | exact HS.out | apply sl_drewN | apply sl_drew | apply sl_alloc)) 0 _ (by rfl) HB.out g0 g1).mono ?_; rintro e w1 ⟨rfl, hs⟩; (try simp only [World.size_alloc] at hs); replace HS := Aside0.mk hs; clear hs))
          go_roundg kq
          case measure => omega
          case rel => exact ⟨i + 1, _, rfl, ⟨by have := HI.out; omega⟩, ⟨advB_ok HB.out g0 g1⟩, ⟨sl_two HS.out⟩⟩
      · have b1 : decide (i < l.length) = false := decide_eq_false hlt
        clear hlt hi
        go_wp2_with (first
    | (go_at_call 11; refine (ex_calls w _ _ (by repeat (with_reducible first | exact HS.out | apply sl_drewN | apply sl_drew | apply sl_alloc))).mono ?_; rintro e w1 ⟨rfl, hs⟩; (try simp only [World.size_alloc] at hs); replace HS := Aside0.mk hs; clear hs))
        go_ret
        exact ⟨rfl, sl_below0 HS.out⟩
  · go_enter Try.func3, Try.ntmps3
    go_wp2_with (first
    | (go_at_call 12; refine (New_no _ _ newok).mono ?_; rintro e w1 ⟨rfl, rfl⟩)
    | (go_at_call 13; refine (rNew_zsl (by repeat (with_reducible first | exact HS.out | apply sl_drewN | apply sl_drew | apply sl_alloc)) newok).mono ?_; rintro e w1 ⟨rfl, hs⟩; (try simp only [World.size_alloc] at hs); replace HS := Aside0.mk hs; clear hs)
    | (go_at_call 17; refine (no_Take _ _ _).mono ?_; rintro e w1 ⟨rfl, rfl⟩)
    | (go_at_call 15; refine (no_Level _ _).mono ?_; rintro e w1 ⟨rfl, rfl⟩))
    have HSS := Aside0.mk (show SL w _ [cellsR w1.heap.size 27 #[.bool false, .bool false, .int .i64 0, .int .i64 0, .int .i64 0, .int .i64 0]] from sl_box HS.out #[.bool false, .bool false, .int .i64 0, .int .i64 0, .int .i64 0, .int .i64 0] 27)
    obtain ⟨gm, hgm⟩ : ∃ gm, gm = w1.heap.size := ⟨_, rfl⟩
    rw [← hgm] at HSS
    rw [← hgm]
    clear hgm HS
    go_loopg [9] l.length (fun kq v9 wr => ∃ (i : Nat), v9 = .int .i64 (i : Int) ∧ Aside0 (i + kq = l.length) ∧ Aside0 (SL w wr [cellsR gm 27 #[.bool false, .bool false, .int .i64 0, .int .i64 0, .int .i64 0, .int .i64 0]]))
    case atStart => exact ⟨0, rfl, ⟨by omega⟩, HSS⟩
    case round =>
      clear HSS
      obtain ⟨i, rfl, HI, HS⟩ := hrel
      have hi := HI.out
      by_cases hlt : i < l.length
      · have b1 : decide (i < l.length) = true := decide_eq_true hlt
        obtain ⟨kq, rfl⟩ : ∃ m, gk = m + 1 := ⟨gk - 1, by omega⟩
        obtain ⟨ad, rfl, hx⟩ := atB_T30 HR.out (i : Int) (by omega) (by omega)
        generalize rd_T30 l (i : Int) = x at hx
        have HX := Aside0.mk (show ∀ w', Below w.heap.size w w' → w'.cell? (ad.add (i * 3)) = some (.int .i64 x.f0) ∧ w'.cell? ⟨(ad.add (i * 3)).block, (ad.add (i * 3)).off + 1, none⟩ = some (.int .i64 x.f1) ∧ w'.cell? ⟨(ad.add (i * 3)).block, (ad.add (i * 3)).off + 2, none⟩ = some (.bool x.f2) from hx)
        obtain ⟨x0, x1, x2⟩ := HX.out _ (sl_below0 HS.out)
        have p1 : (0 : Int) ≤ (i : Int) := by omega
        have p2 : (i : Int) < (l.length : Int) := by omega
        have hm_ := blk_lt (sl_blk HS.out 0 rfl)
        have m0 := (blk_cell (sl_blk HS.out 0 rfl) 0).trans (show _ = some (Value.bool false) from rfl)
        have m1 := (blk_cell (sl_blk HS.out 0 rfl) 1).trans (show _ = some (Value.bool false) from rfl)
        have m2 := (blk_cell (sl_blk HS.out 0 rfl) 2).trans (show _ = some (Value.int .i64 0) from rfl)
        have m3 := (blk_cell (sl_blk HS.out 0 rfl) 3).trans (show _ = some (Value.int .i64 0) from rfl)
        have m4 := (blk_cell (sl_blk HS.out 0 rfl) 4).trans (show _ = some (Value.int .i64 0) from rfl)
        have m5 := (blk_cell (sl_blk HS.out 0 rfl) 5).trans (show _ = some (Value.int .i64 0) from rfl)
        have mf0 := blk_frozen (sl_blk HS.out 0 rfl) 0
        have mf1 := blk_frozen (sl_blk HS.out 0 rfl) 1
        have mf2 := blk_frozen (sl_blk HS.out 0 rfl) 2
        have mf3 := blk_frozen (sl_blk HS.out 0 rfl) 3
        have mf4 := blk_frozen (sl_blk HS.out 0 rfl) 4
        have mf5 := blk_frozen (sl_blk HS.out 0 rfl) 5
        clear hx hlt hi
        cases hb : x.f2
        · rw [hb] at x2
          clear hb
          go_upto_region 14 with (fail)
          refine start_ (n := 18) (S := fun w' => w'.cell? ⟨gm, 0, none⟩ = some (.bool false) ∧ w'.cell? ⟨gm, 1, none⟩ = some (.bool false) ∧ w'.cell? ⟨gm, 2, none⟩ = some (.int .i64 0) ∧ w'.cell? ⟨gm, 3, none⟩ = some (.int .i64 0) ∧ w'.cell? ⟨gm, 4, none⟩ = some (.int .i64 0) ∧ w'.cell? ⟨gm, 5, none⟩ = some (.int .i64 0) ∧ w'.cell? (ad.add (i * 3)) = some (.int .i64 x.f0) ∧ w'.cell? ⟨(ad.add (i * 3)).block, (ad.add (i * 3)).off + 1, none⟩ = some (.int .i64 x.f1)) (ds := [16]) #[false, false, false, false, false, false, false, false, false, false, false, false, false, false, false, false, false, false] (by kernel_rfl) rfl rfl ⟨m0, m1, m2, m3, m4, m5, x0, x1⟩ (fun hHeld => ?_)
          refine pure_ (i := 1) (N := some 62) (v := ?_) (a' := ?_) #[false, true, false, false, false, false, false, false, false, false, false, false, false, false, false, false, false, false] rfl rfl (by kernel_rfl) (fun _ _ _ h => h) (Or.inl ⟨by rfl, ?_⟩) ?_ ?_
          rotate_left
          · intro w'
            go_simp
            with_reducible rfl
          rotate_left
          · simp only [Act.put, List.setIfInBounds_toArray, List.set_cons_zero, List.set_cons_succ, i64_w, i32_w, IntKind.wrap_u32, IntKind.wrap_u8, IntKind.wrap_u16]
            rfl
          refine pure_ (i := 2) (N := some 63) (v := ?_) (a' := ?_) #[false, true, true, false, false, false, false, false, false, false, false, false, false, false, false, false, false, false] rfl rfl (by kernel_rfl) (fun _ _ _ h => h) (Or.inl ⟨by rfl, ?_⟩) ?_ ?_
          rotate_left
          · intro w'
            go_simp
            with_reducible rfl
          rotate_left
          · simp only [Act.put, List.setIfInBounds_toArray, List.set_cons_zero, List.set_cons_succ, i64_w, i32_w, IntKind.wrap_u32, IntKind.wrap_u8, IntKind.wrap_u16]
            rfl
          refine pure_ (i := 3) (N := some 64) (v := ?_) (a' := ?_) #[false, true, true, true, false, false, false, false, false, false, false, false, false, false, false, false, false, false] rfl rfl (by kernel_rfl) (fun _ _ _ h => h) (Or.inl ⟨by rfl, ?_⟩) ?_ ?_
          rotate_left
          · intro w'
            go_simp
            with_reducible rfl
          rotate_left
          · simp only [Act.put, List.setIfInBounds_toArray, List.set_cons_zero, List.set_cons_succ, i64_w, i32_w, IntKind.wrap_u32, IntKind.wrap_u8, IntKind.wrap_u16]
            rfl
          refine pure_ (i := 4) (N := some 65) (v := ?_) (a' := ?_) #[false, true, true, true, true, false, false, false, false, false, false, false, false, false, false, false, false, false] rfl rfl (by kernel_rfl) (fun _ _ _ h => h) (Or.inl ⟨by rfl, ?_⟩) ?_ ?_
          rotate_left
          · intro w'
            go_simp
            with_reducible rfl
          rotate_left
          · simp only [Act.put, List.setIfInBounds_toArray, List.set_cons_zero, List.set_cons_succ, i64_w, i32_w, IntKind.wrap_u32, IntKind.wrap_u8, IntKind.wrap_u16]
            rfl
          refine pure_ (i := 6) (N := some 67) (v := ?_) (a' := ?_) #[false, true, true, true, true, false, true, false, false, false, false, false, false, false, false, false, false, false] rfl rfl (by kernel_rfl) (fun _ _ _ h => h) (Or.inl ⟨by rfl, ?_⟩) ?_ ?_
          rotate_left
          · intro w'
            go_simp
            with_reducible rfl
          rotate_left
          · simp only [Act.put, List.setIfInBounds_toArray, List.set_cons_zero, List.set_cons_succ, i64_w, i32_w, IntKind.wrap_u32, IntKind.wrap_u8, IntKind.wrap_u16]
            rfl
          refine pure_ (i := 7) (N := some 68) (v := ?_) (a' := ?_) #[false, true, true, true, true, false, true, true, false, false, false, false, false, false, false, false, false, false] rfl rfl (by kernel_rfl) (fun _ _ _ h => h) (Or.inl ⟨by rfl, ?_⟩) ?_ ?_
          rotate_left
          · intro w'
            go_simp
            with_reducible rfl
          rotate_left
          · simp only [Act.put, List.setIfInBounds_toArray, List.set_cons_zero, List.set_cons_succ, i64_w, i32_w, IntKind.wrap_u32, IntKind.wrap_u8, IntKind.wrap_u16]
            rfl
          refine pure_ (i := 8) (N := some 69) (v := ?_) (a' := ?_) #[false, true, true, true, true, false, true, true, true, false, false, false, false, false, false, false, false, false] rfl rfl (by kernel_rfl) (fun _ _ _ h => h) (Or.inl ⟨by rfl, ?_⟩) ?_ ?_
          rotate_left
          · intro w'
            go_simp
            with_reducible rfl
          rotate_left
          · simp only [Act.put, List.setIfInBounds_toArray, List.set_cons_zero, List.set_cons_succ, i64_w, i32_w, IntKind.wrap_u32, IntKind.wrap_u8, IntKind.wrap_u16]
            rfl
          refine pure_ (i := 9) (N := some 70) (v := ?_) (a' := ?_) #[false, true, true, true, true, false, true, true, true, true, false, false, false, false, false, false, false, false] rfl rfl (by kernel_rfl) (fun _ _ _ h => h) (Or.inl ⟨by rfl, ?_⟩) ?_ ?_
          rotate_left
          · intro w'
            go_simp
            with_reducible rfl
          rotate_left
          · simp only [Act.put, List.setIfInBounds_toArray, List.set_cons_zero, List.set_cons_succ, i64_w, i32_w, IntKind.wrap_u32, IntKind.wrap_u8, IntKind.wrap_u16]
            rfl
          refine take_ (i := 0) (N := some 61) (v := ?_) (a' := ?_) #[true, true, true, true, true, false, true, true, true, true, false, false, false, false, false, false, false, false] rfl rfl (by kernel_rfl) (fun _ _ _ h => h) (Or.inl ⟨by rfl, ?_⟩) hHeld ?_ ?_
          rotate_left
          · rintro w' ⟨s0, s1, s2, s3, s4, s5, s6, s7⟩
            go_simp
            with_reducible rfl
          rotate_left
          · simp only [Act.put, List.setIfInBounds_toArray, List.set_cons_zero, List.set_cons_succ, i64_w, i32_w, IntKind.wrap_u32, IntKind.wrap_u8, IntKind.wrap_u16]
            rfl
          refine take_ (i := 5) (N := some 66) (v := ?_) (a' := ?_) #[true, true, true, true, true, true, true, true, true, true, false, false, false, false, false, false, false, false] rfl rfl (by kernel_rfl) (fun _ _ _ h => h) (Or.inl ⟨by rfl, ?_⟩) hHeld ?_ ?_
          rotate_left
          · rintro w' ⟨s0, s1, s2, s3, s4, s5, s6, s7⟩
            go_simp
            with_reducible rfl
          rotate_left
          · simp only [Act.put, List.setIfInBounds_toArray, List.set_cons_zero, List.set_cons_succ, i64_w, i32_w, IntKind.wrap_u32, IntKind.wrap_u8, IntKind.wrap_u16]
            rfl
          refine take_ (i := 10) (N := some 71) (v := ?_) (a' := ?_) #[true, true, true, true, true, true, true, true, true, true, true, false, false, false, false, false, false, false] rfl rfl (by kernel_rfl) (fun _ _ _ h => h) (Or.inl ⟨by rfl, ?_⟩) hHeld ?_ ?_
          rotate_left
          · rintro w' ⟨s0, s1, s2, s3, s4, s5, s6, s7⟩
            go_simp
            with_reducible rfl
          rotate_left
          · simp only [Act.put, List.setIfInBounds_toArray, List.set_cons_zero, List.set_cons_succ, i64_w, i32_w, IntKind.wrap_u32, IntKind.wrap_u8, IntKind.wrap_u16]
            rfl
          refine join_ (σ := Nat) 2 #[true, true, true, true, true, true, true, true, true, true, true, true, true, true, true, true, false, false] (fun s_ => [(72, (Value.tuple #[.agg #[.bool false, .bool false, .int .i64 0, .int .i64 0, .int .i64 0, .int .i64 0], .bool false])), (60, (Value.tuple #[.agg #[.bool false, .bool false, .int .i64 0, .int .i64 0, .int .i64 0, .int .i64 0], .bool false])), (73, (Value.agg #[.bool false, .bool false, .int .i64 0, .int .i64 0, .int .i64 0, .int .i64 0])), (74, (.bool false : Value)), (12, (Value.pointer (some ⟨s_, 0, none⟩)))]) (fun s_ w' => SL w w' [cellsR gm 27 #[.bool false, .bool false, .int .i64 0, .int .i64 0, .int .i64 0, .int .i64 0], cellsR s_ 27 #[.bool false, .bool false, .int .i64 0, .int .i64 0, .int .i64 0, .int .i64 0]]) ?_ ?_
          rotate_left
          · intro hCont
            refine two_ (i := 11) (j := 15) (Ni := some 72) (Nj := some 12) #[true, true, true, true, true, true, true, true, true, true, true, true, false, false, false, false, false, false] #[true, true, true, true, true, true, true, true, true, true, true, false, false, false, false, true, false, false] rfl rfl rfl rfl (by kernel_rfl) (by decide) (by decide) (fun K hK => ?_) (fun K hK => ?_)
            · skip
              refine goes_ Try.func16 (by kernel_rfl) rfl #[.agg #[.bool false, .bool false, .int .i64 0, .int .i64 0, .int .i64 0, .int .i64 0], .int .i64 x.f0, .int .i64 x.f1] (by rfl) rfl rfl (by (try simp only [List.map_toArray, List.map_cons, List.map_nil]); first | done | rfl) ?_
              with_reducible refine (rTake_zsl (sl_drew HS.out) x.f0 x.f1).mono ?_
              rintro e w3 ⟨rfl, hsC⟩
              refine ⟨_, rfl, ?_⟩
              refine hK.out _ _ ⟨(cell_b (sl_blk hsC 0 rfl) rfl), (cell_b (sl_blk hsC 0 rfl) rfl), (cell_b (sl_blk hsC 0 rfl) rfl), (cell_b (sl_blk hsC 0 rfl) rfl), (cell_b (sl_blk hsC 0 rfl) rfl), (cell_b (sl_blk hsC 0 rfl) rfl), (HX.out _ (sl_below0 hsC)).1, (HX.out _ (sl_below0 hsC)).2.1⟩ (fun hHeld => ?_)
              clear hK K
              refine norm_ (a' := ?_) ?_ ?_
              rotate_left
              · show Act.put _ (some 72) _ = _
                simp only [Act.put, List.setIfInBounds_toArray, List.set_cons_zero, List.set_cons_succ, i64_w, i32_w, IntKind.wrap_u32, IntKind.wrap_u8, IntKind.wrap_u16]
                rfl
              refine pure_ (i := 12) (N := some 60) (v := ?_) (a' := ?_) #[true, true, true, true, true, true, true, true, true, true, true, true, true, false, false, false, false, false] rfl rfl (by kernel_rfl) (fun _ _ _ h => h) (Or.inl ⟨by rfl, ?_⟩) ?_ ?_
              rotate_left
              · intro w'
                go_simp
                with_reducible rfl
              rotate_left
              · simp only [Act.put, List.setIfInBounds_toArray, List.set_cons_zero, List.set_cons_succ, i64_w, i32_w, IntKind.wrap_u32, IntKind.wrap_u8, IntKind.wrap_u16]
                rfl
              refine pure_ (i := 13) (N := some 73) (v := ?_) (a' := ?_) #[true, true, true, true, true, true, true, true, true, true, true, true, true, true, false, false, false, false] rfl rfl (by kernel_rfl) (fun _ _ _ h => h) (Or.inl ⟨by rfl, ?_⟩) ?_ ?_
              rotate_left
              · intro w'
                go_simp
                with_reducible rfl
              rotate_left
              · simp only [Act.put, List.setIfInBounds_toArray, List.set_cons_zero, List.set_cons_succ, i64_w, i32_w, IntKind.wrap_u32, IntKind.wrap_u8, IntKind.wrap_u16]
                rfl
              refine pure_ (i := 14) (N := some 74) (v := ?_) (a' := ?_) #[true, true, true, true, true, true, true, true, true, true, true, true, true, true, true, false, false, false] rfl rfl (by kernel_rfl) (fun _ _ _ h => h) (Or.inl ⟨by rfl, ?_⟩) ?_ ?_
              rotate_left
              · intro w'
                go_simp
                with_reducible rfl
              rotate_left
              · simp only [Act.put, List.setIfInBounds_toArray, List.set_cons_zero, List.set_cons_succ, i64_w, i32_w, IntKind.wrap_u32, IntKind.wrap_u8, IntKind.wrap_u16]
                rfl
              refine one_ (i := 15) (N := some 12) #[true, true, true, true, true, true, true, true, true, true, true, true, true, true, true, true, false, false] rfl rfl (by kernel_rfl) (by decide) (fun K hK => ?_)
              refine box_step ?hg (N := 12) ?hd (cs := #[.bool false, .bool false, .int .i64 0, .int .i64 0, .int .i64 0, .int .i64 0]) (t := 27) ?hr ?_; (case hd => rfl); (case hg => rfl); (case hr => first | (go_simp; done) | (go_simp; rfl))
              intro gn hgn w4 hbox hb
              have hsA := sl_box' hsC hb (Nat.le_of_eq hgn.symm) hbox
              refine hK.out _ _ ⟨(cell_b (sl_blk hsA 0 rfl) rfl), (cell_b (sl_blk hsA 0 rfl) rfl), (cell_b (sl_blk hsA 0 rfl) rfl), (cell_b (sl_blk hsA 0 rfl) rfl), (cell_b (sl_blk hsA 0 rfl) rfl), (cell_b (sl_blk hsA 0 rfl) rfl), (HX.out _ (sl_below0 hsA)).1, (HX.out _ (sl_below0 hsA)).2.1⟩ (fun hHeld => ?_)
              clear hK K
              refine norm_ (a' := ?_) ?_ ?_
              rotate_left
              · show Act.put _ (some 12) _ = _
                simp only [Act.put, List.setIfInBounds_toArray, List.set_cons_zero, List.set_cons_succ, i64_w, i32_w, IntKind.wrap_u32, IntKind.wrap_u8, IntKind.wrap_u16]
                rfl
              exact norm_ (by simp only [putAll, Act.put, List.setIfInBounds_toArray, List.set_cons_zero, List.set_cons_succ]) (hCont gn _ hsA)
            · skip
              refine box_step ?hg (N := 12) ?hd (cs := #[.bool false, .bool false, .int .i64 0, .int .i64 0, .int .i64 0, .int .i64 0]) (t := 27) ?hr ?_; (case hd => rfl); (case hg => rfl); (case hr => first | (go_simp; done) | (go_simp; rfl))
              intro gn hgn w4 hbox hb
              have hsA := sl_box' (sl_drew HS.out) hb (Nat.le_of_eq hgn.symm) hbox
              refine hK.out _ _ ⟨(cell_b (sl_blk hsA 0 rfl) rfl), (cell_b (sl_blk hsA 0 rfl) rfl), (cell_b (sl_blk hsA 0 rfl) rfl), (cell_b (sl_blk hsA 0 rfl) rfl), (cell_b (sl_blk hsA 0 rfl) rfl), (cell_b (sl_blk hsA 0 rfl) rfl), (HX.out _ (sl_below0 hsA)).1, (HX.out _ (sl_below0 hsA)).2.1⟩ (fun hHeld => ?_)
              clear hK K
              refine norm_ (a' := ?_) ?_ ?_
              rotate_left
              · show Act.put _ (some 12) _ = _
                simp only [Act.put, List.setIfInBounds_toArray, List.set_cons_zero, List.set_cons_succ, i64_w, i32_w, IntKind.wrap_u32, IntKind.wrap_u8, IntKind.wrap_u16]
                rfl
              refine one_ (i := 11) (N := some 72) #[true, true, true, true, true, true, true, true, true, true, true, true, false, false, false, true, false, false] rfl rfl (by kernel_rfl) (by decide) (fun K hK => ?_)
              refine goes_ Try.func16 (by kernel_rfl) rfl #[.agg #[.bool false, .bool false, .int .i64 0, .int .i64 0, .int .i64 0, .int .i64 0], .int .i64 x.f0, .int .i64 x.f1] (by rfl) rfl rfl (by (try simp only [List.map_toArray, List.map_cons, List.map_nil]); first | done | rfl) ?_
              with_reducible refine (rTake_zsl hsA x.f0 x.f1).mono ?_
              rintro e w3 ⟨rfl, hsC⟩
              refine ⟨_, rfl, ?_⟩
              refine hK.out _ _ ⟨(cell_b (sl_blk hsC 0 rfl) rfl), (cell_b (sl_blk hsC 0 rfl) rfl), (cell_b (sl_blk hsC 0 rfl) rfl), (cell_b (sl_blk hsC 0 rfl) rfl), (cell_b (sl_blk hsC 0 rfl) rfl), (cell_b (sl_blk hsC 0 rfl) rfl), (HX.out _ (sl_below0 hsC)).1, (HX.out _ (sl_below0 hsC)).2.1⟩ (fun hHeld => ?_)
              clear hK K
              refine norm_ (a' := ?_) ?_ ?_
              rotate_left
              · show Act.put _ (some 72) _ = _
                simp only [Act.put, List.setIfInBounds_toArray, List.set_cons_zero, List.set_cons_succ, i64_w, i32_w, IntKind.wrap_u32, IntKind.wrap_u8, IntKind.wrap_u16]
                rfl
              refine pure_ (i := 12) (N := some 60) (v := ?_) (a' := ?_) #[true, true, true, true, true, true, true, true, true, true, true, true, true, false, false, true, false, false] rfl rfl (by kernel_rfl) (fun _ _ _ h => h) (Or.inl ⟨by rfl, ?_⟩) ?_ ?_
              rotate_left
              · intro w'
                go_simp
                with_reducible rfl
              rotate_left
              · simp only [Act.put, List.setIfInBounds_toArray, List.set_cons_zero, List.set_cons_succ, i64_w, i32_w, IntKind.wrap_u32, IntKind.wrap_u8, IntKind.wrap_u16]
                rfl
              refine pure_ (i := 13) (N := some 73) (v := ?_) (a' := ?_) #[true, true, true, true, true, true, true, true, true, true, true, true, true, true, false, true, false, false] rfl rfl (by kernel_rfl) (fun _ _ _ h => h) (Or.inl ⟨by rfl, ?_⟩) ?_ ?_
              rotate_left
              · intro w'
                go_simp
                with_reducible rfl
              rotate_left
              · simp only [Act.put, List.setIfInBounds_toArray, List.set_cons_zero, List.set_cons_succ, i64_w, i32_w, IntKind.wrap_u32, IntKind.wrap_u8, IntKind.wrap_u16]
                rfl
              refine pure_ (i := 14) (N := some 74) (v := ?_) (a' := ?_) #[true, true, true, true, true, true, true, true, true, true, true, true, true, true, true, true, false, false] rfl rfl (by kernel_rfl) (fun _ _ _ h => h) (Or.inl ⟨by rfl, ?_⟩) ?_ ?_
              rotate_left
              · intro w'
                go_simp
                with_reducible rfl
              rotate_left
              · simp only [Act.put, List.setIfInBounds_toArray, List.set_cons_zero, List.set_cons_succ, i64_w, i32_w, IntKind.wrap_u32, IntKind.wrap_u8, IntKind.wrap_u16]
                rfl
              exact norm_ (by simp only [putAll, Act.put, List.setIfInBounds_toArray, List.set_cons_zero, List.set_cons_succ]) (hCont gn _ hsC)
          intro gn w7 hs7
          have hHeld : w7.cell? ⟨gm, 0, none⟩ = some (.bool false) ∧ w7.cell? ⟨gm, 1, none⟩ = some (.bool false) ∧ w7.cell? ⟨gm, 2, none⟩ = some (.int .i64 0) ∧ w7.cell? ⟨gm, 3, none⟩ = some (.int .i64 0) ∧ w7.cell? ⟨gm, 4, none⟩ = some (.int .i64 0) ∧ w7.cell? ⟨gm, 5, none⟩ = some (.int .i64 0) ∧ w7.cell? (ad.add (i * 3)) = some (.int .i64 x.f0) ∧ w7.cell? ⟨(ad.add (i * 3)).block, (ad.add (i * 3)).off + 1, none⟩ = some (.int .i64 x.f1) := ⟨(cell_b (sl_blk hs7 0 rfl) rfl), (cell_b (sl_blk hs7 0 rfl) rfl), (cell_b (sl_blk hs7 0 rfl) rfl), (cell_b (sl_blk hs7 0 rfl) rfl), (cell_b (sl_blk hs7 0 rfl) rfl), (cell_b (sl_blk hs7 0 rfl) rfl), (HX.out _ (sl_below0 hs7)).1, (HX.out _ (sl_below0 hs7)).2.1⟩
          have hz_ := blk_lt (sl_blk hs7 1 rfl)
          have z0 := (blk_cell (sl_blk hs7 1 rfl) 0).trans (show _ = some (Value.bool false) from rfl)
          have z1 := (blk_cell (sl_blk hs7 1 rfl) 1).trans (show _ = some (Value.bool false) from rfl)
          have z2 := (blk_cell (sl_blk hs7 1 rfl) 2).trans (show _ = some (Value.int .i64 0) from rfl)
          have z3 := (blk_cell (sl_blk hs7 1 rfl) 3).trans (show _ = some (Value.int .i64 0) from rfl)
          have z4 := (blk_cell (sl_blk hs7 1 rfl) 4).trans (show _ = some (Value.int .i64 0) from rfl)
          have z5 := (blk_cell (sl_blk hs7 1 rfl) 5).trans (show _ = some (Value.int .i64 0) from rfl)
          have zf0 := blk_frozen (sl_blk hs7 1 rfl) 0
          have zf1 := blk_frozen (sl_blk hs7 1 rfl) 1
          have zf2 := blk_frozen (sl_blk hs7 1 rfl) 2
          have zf3 := blk_frozen (sl_blk hs7 1 rfl) 3
          have zf4 := blk_frozen (sl_blk hs7 1 rfl) 4
          have zf5 := blk_frozen (sl_blk hs7 1 rfl) 5
          refine norm_ (a' := ?_) ?_ ?_
          rotate_left
          · simp only [putAll, Act.put, List.setIfInBounds_toArray, List.set_cons_zero, List.set_cons_succ]
            rfl
          refine last_ (i := 16) (N := none) #[true, true, true, true, true, true, true, true, true, true, true, true, true, true, true, true, true, false] rfl rfl (by kernel_rfl) (by decide) (fun K hK => ?_)
          refine skip_ (w1 := ?_) (by rfl) rfl ?_ ?_
          rotate_left
          · go_simp
            rfl
          refine hK.out _ _ ?_
          clear hK K
          refine pure_ (i := 17) (N := some 13) (v := ?_) (a' := ?_) #[true, true, true, true, true, true, true, true, true, true, true, true, true, true, true, true, true, true] rfl rfl (by kernel_rfl) (fun _ _ _ h => h) (Or.inl ⟨by rfl, ?_⟩) ?_ ?_
          rotate_left
          · intro w'
            go_simp
            with_reducible rfl
          rotate_left
          · simp only [Act.put, List.setIfInBounds_toArray, List.set_cons_zero, List.set_cons_succ, i64_w, i32_w, IntKind.wrap_u32, IntKind.wrap_u8, IntKind.wrap_u16]
            rfl
          refine done_ (by kernel_rfl) ?_
          go_upto_region 15 with (fail)
          refine world_gen (F := fun w_ => Code.wp Try.prog _ _ _ w_) (fun w_ => SL w w_ [cellsR gm 27 #[.bool false, .bool false, .int .i64 0, .int .i64 0, .int .i64 0, .int .i64 0], cellsR gn 27 #[.bool false, .bool false, .int .i64 0, .int .i64 0, .int .i64 0, .int .i64 0]]) (sl_put6 1 hs7 rfl rfl _ _ _ _ _ _) ?_
          clear hz_ z0 z1 z2 z3 z4 z5 zf0 zf1 zf2 zf3 zf4 zf5 hs7 HS hHeld m0 m1 m2 m3 m4 m5 mf0 mf1 mf2 mf3 mf4 mf5 hm_ x0 x1 x2
          intro w8 hs8
          have HS := Aside0.mk hs8
          clear hs8
          have hm_ := blk_lt (sl_blk HS.out 0 rfl)
          have m0 := (blk_cell (sl_blk HS.out 0 rfl) 0).trans (show _ = some (Value.bool false) from rfl)
          have m1 := (blk_cell (sl_blk HS.out 0 rfl) 1).trans (show _ = some (Value.bool false) from rfl)
          have m2 := (blk_cell (sl_blk HS.out 0 rfl) 2).trans (show _ = some (Value.int .i64 0) from rfl)
          have m3 := (blk_cell (sl_blk HS.out 0 rfl) 3).trans (show _ = some (Value.int .i64 0) from rfl)
          have m4 := (blk_cell (sl_blk HS.out 0 rfl) 4).trans (show _ = some (Value.int .i64 0) from rfl)
          have m5 := (blk_cell (sl_blk HS.out 0 rfl) 5).trans (show _ = some (Value.int .i64 0) from rfl)
          have mf0 := blk_frozen (sl_blk HS.out 0 rfl) 0
          have mf1 := blk_frozen (sl_blk HS.out 0 rfl) 1
          have mf2 := blk_frozen (sl_blk HS.out 0 rfl) 2
          have mf3 := blk_frozen (sl_blk HS.out 0 rfl) 3
          have mf4 := blk_frozen (sl_blk HS.out 0 rfl) 4
          have mf5 := blk_frozen (sl_blk HS.out 0 rfl) 5
          have hn_ := blk_lt (sl_blk HS.out 1 rfl)
          have n0 := (blk_cell (sl_blk HS.out 1 rfl) 0).trans (show _ = some (Value.bool false) from rfl)
          have n1 := (blk_cell (sl_blk HS.out 1 rfl) 1).trans (show _ = some (Value.bool false) from rfl)
          have n2 := (blk_cell (sl_blk HS.out 1 rfl) 2).trans (show _ = some (Value.int .i64 0) from rfl)
          have n3 := (blk_cell (sl_blk HS.out 1 rfl) 3).trans (show _ = some (Value.int .i64 0) from rfl)
          have n4 := (blk_cell (sl_blk HS.out 1 rfl) 4).trans (show _ = some (Value.int .i64 0) from rfl)
          have n5 := (blk_cell (sl_blk HS.out 1 rfl) 5).trans (show _ = some (Value.int .i64 0) from rfl)
          have nf0 := blk_frozen (sl_blk HS.out 1 rfl) 0
          have nf1 := blk_frozen (sl_blk HS.out 1 rfl) 1
          have nf2 := blk_frozen (sl_blk HS.out 1 rfl) 2
          have nf3 := blk_frozen (sl_blk HS.out 1 rfl) 3
          have nf4 := blk_frozen (sl_blk HS.out 1 rfl) 4
          have nf5 := blk_frozen (sl_blk HS.out 1 rfl) 5
          obtain ⟨x0, x1, x2⟩ := HX.out _ (sl_below0 HS.out)
          go_upto_region 16 with (fail)
          refine world_gen (F := fun w_ => Code.wp Try.prog _ _ _ w_) (fun w_ => SL w w_ [cellsR gm 27 #[.bool false, .bool false, .int .i64 0, .int .i64 0, .int .i64 0, .int .i64 0], cellsR gn 27 #[.bool false, .bool false, .int .i64 0, .int .i64 0, .int .i64 0, .int .i64 0]]) (sl_put6 0 HS.out rfl rfl _ _ _ _ _ _) ?_
          clear HS m0 mf0 m1 mf1 m2 mf2 m3 mf3 m4 mf4 m5 mf5 n0 nf0 n1 nf1 n2 nf2 n3 nf3 n4 nf4 n5 nf5 hm_ hn_ x0 x1 x2
          intro w9 hs9
          have HS := Aside0.mk hs9
          clear hs9
          obtain ⟨x0, x1, x2⟩ := HX.out _ (sl_below0 HS.out)
          refine start_ (n := 14) (S := fun w' => w'.cell? (ad.add (i * 3)) = some (.int .i64 x.f0) ∧ w'.cell? ⟨(ad.add (i * 3)).block, (ad.add (i * 3)).off + 1, none⟩ = some (.int .i64 x.f1)) (ds := []) #[false, false, false, false, false, false, false, false, false, false, false, false, false, false] (by kernel_rfl) rfl rfl ⟨x0, x1⟩ (fun hHeld => ?_)
          refine pure_ (i := 0) (N := some 76) (v := ?_) (a' := ?_) #[true, false, false, false, false, false, false, false, false, false, false, false, false, false] rfl rfl (by kernel_rfl) (fun _ _ _ h => h) (Or.inl ⟨by rfl, ?_⟩) ?_ ?_
          rotate_left
          · intro w'
            go_simp
            with_reducible rfl
          rotate_left
          · simp only [Act.put, List.setIfInBounds_toArray, List.set_cons_zero, List.set_cons_succ, i64_w, i32_w, IntKind.wrap_u32, IntKind.wrap_u8, IntKind.wrap_u16]
            rfl
          refine pure_ (i := 1) (N := some 77) (v := ?_) (a' := ?_) #[true, true, false, false, false, false, false, false, false, false, false, false, false, false] rfl rfl (by kernel_rfl) (fun _ _ _ h => h) (Or.inl ⟨by rfl, ?_⟩) ?_ ?_
          rotate_left
          · intro w'
            go_simp
            with_reducible rfl
          rotate_left
          · simp only [Act.put, List.setIfInBounds_toArray, List.set_cons_zero, List.set_cons_succ, i64_w, i32_w, IntKind.wrap_u32, IntKind.wrap_u8, IntKind.wrap_u16]
            rfl
          refine pure_ (i := 2) (N := some 78) (v := ?_) (a' := ?_) #[true, true, true, false, false, false, false, false, false, false, false, false, false, false] rfl rfl (by kernel_rfl) (fun _ _ _ h => h) (Or.inl ⟨by rfl, ?_⟩) ?_ ?_
          rotate_left
          · intro w'
            go_simp
            with_reducible rfl
          rotate_left
          · simp only [Act.put, List.setIfInBounds_toArray, List.set_cons_zero, List.set_cons_succ, i64_w, i32_w, IntKind.wrap_u32, IntKind.wrap_u8, IntKind.wrap_u16]
            rfl
          refine pure_ (i := 3) (N := some 79) (v := ?_) (a' := ?_) #[true, true, true, true, false, false, false, false, false, false, false, false, false, false] rfl rfl (by kernel_rfl) (fun _ _ _ h => h) (Or.inl ⟨by rfl, ?_⟩) ?_ ?_
          rotate_left
          · intro w'
            go_simp
            with_reducible rfl
          rotate_left
          · simp only [Act.put, List.setIfInBounds_toArray, List.set_cons_zero, List.set_cons_succ, i64_w, i32_w, IntKind.wrap_u32, IntKind.wrap_u8, IntKind.wrap_u16]
            rfl
          refine pure_ (i := 4) (N := some 80) (v := ?_) (a' := ?_) #[true, true, true, true, true, false, false, false, false, false, false, false, false, false] rfl rfl (by kernel_rfl) (fun _ _ _ h => h) (Or.inl ⟨by rfl, ?_⟩) ?_ ?_
          rotate_left
          · intro w'
            go_simp
            with_reducible rfl
          rotate_left
          · simp only [Act.put, List.setIfInBounds_toArray, List.set_cons_zero, List.set_cons_succ, i64_w, i32_w, IntKind.wrap_u32, IntKind.wrap_u8, IntKind.wrap_u16]
            rfl
          refine pure_ (i := 6) (N := some 82) (v := ?_) (a' := ?_) #[true, true, true, true, true, false, true, false, false, false, false, false, false, false] rfl rfl (by kernel_rfl) (fun _ _ _ h => h) (Or.inl ⟨by rfl, ?_⟩) ?_ ?_
          rotate_left
          · intro w'
            go_simp
            with_reducible rfl
          rotate_left
          · simp only [Act.put, List.setIfInBounds_toArray, List.set_cons_zero, List.set_cons_succ, i64_w, i32_w, IntKind.wrap_u32, IntKind.wrap_u8, IntKind.wrap_u16]
            rfl
          refine pure_ (i := 7) (N := some 83) (v := ?_) (a' := ?_) #[true, true, true, true, true, false, true, true, false, false, false, false, false, false] rfl rfl (by kernel_rfl) (fun _ _ _ h => h) (Or.inl ⟨by rfl, ?_⟩) ?_ ?_
          rotate_left
          · intro w'
            go_simp
            with_reducible rfl
          rotate_left
          · simp only [Act.put, List.setIfInBounds_toArray, List.set_cons_zero, List.set_cons_succ, i64_w, i32_w, IntKind.wrap_u32, IntKind.wrap_u8, IntKind.wrap_u16]
            rfl
          refine pure_ (i := 8) (N := some 84) (v := ?_) (a' := ?_) #[true, true, true, true, true, false, true, true, true, false, false, false, false, false] rfl rfl (by kernel_rfl) (fun _ _ _ h => h) (Or.inl ⟨by rfl, ?_⟩) ?_ ?_
          rotate_left
          · intro w'
            go_simp
            with_reducible rfl
          rotate_left
          · simp only [Act.put, List.setIfInBounds_toArray, List.set_cons_zero, List.set_cons_succ, i64_w, i32_w, IntKind.wrap_u32, IntKind.wrap_u8, IntKind.wrap_u16]
            rfl
          refine pure_ (i := 9) (N := some 85) (v := ?_) (a' := ?_) #[true, true, true, true, true, false, true, true, true, true, false, false, false, false] rfl rfl (by kernel_rfl) (fun _ _ _ h => h) (Or.inl ⟨by rfl, ?_⟩) ?_ ?_
          rotate_left
          · intro w'
            go_simp
            with_reducible rfl
          rotate_left
          · simp only [Act.put, List.setIfInBounds_toArray, List.set_cons_zero, List.set_cons_succ, i64_w, i32_w, IntKind.wrap_u32, IntKind.wrap_u8, IntKind.wrap_u16]
            rfl
          refine pure_ (i := 12) (N := some 88) (v := ?_) (a' := ?_) #[true, true, true, true, true, false, true, true, true, true, false, false, true, false] rfl rfl (by kernel_rfl) (fun _ _ _ h => h) (Or.inl ⟨by rfl, ?_⟩) ?_ ?_
          rotate_left
          · intro w'
            go_simp
            with_reducible rfl
          rotate_left
          · simp only [Act.put, List.setIfInBounds_toArray, List.set_cons_zero, List.set_cons_succ, i64_w, i32_w, IntKind.wrap_u32, IntKind.wrap_u8, IntKind.wrap_u16]
            rfl
          refine take_ (i := 5) (N := some 81) (v := ?_) (a' := ?_) #[true, true, true, true, true, true, true, true, true, true, false, false, true, false] rfl rfl (by kernel_rfl) (fun _ _ _ h => h) (Or.inl ⟨by rfl, ?_⟩) hHeld ?_ ?_
          rotate_left
          · rintro w' ⟨s0, s1⟩
            go_simp
            with_reducible rfl
          rotate_left
          · simp only [Act.put, List.setIfInBounds_toArray, List.set_cons_zero, List.set_cons_succ, i64_w, i32_w, IntKind.wrap_u32, IntKind.wrap_u8, IntKind.wrap_u16]
            rfl
          refine take_ (i := 10) (N := some 86) (v := ?_) (a' := ?_) #[true, true, true, true, true, true, true, true, true, true, true, false, true, false] rfl rfl (by kernel_rfl) (fun _ _ _ h => h) (Or.inl ⟨by rfl, ?_⟩) hHeld ?_ ?_
          rotate_left
          · rintro w' ⟨s0, s1⟩
            go_simp
            with_reducible rfl
          rotate_left
          · simp only [Act.put, List.setIfInBounds_toArray, List.set_cons_zero, List.set_cons_succ, i64_w, i32_w, IntKind.wrap_u32, IntKind.wrap_u8, IntKind.wrap_u16]
            rfl
          refine one_ (i := 11) (N := some 87) #[true, true, true, true, true, true, true, true, true, true, true, true, true, false] rfl rfl (by kernel_rfl) (by decide) (fun K hK => ?_)
          refine goes_ Try.func17 (by kernel_rfl) rfl #[.pointer none, .int .i64 x.f0, .int .i64 x.f1] (by rfl) rfl rfl (by (try simp only [List.map_toArray, List.map_cons, List.map_nil]); first | done | rfl) ?_
          with_reducible refine (no_Take _ _ _).mono ?_
          rintro e w3 ⟨rfl, rfl⟩
          refine ⟨_, rfl, ?_⟩
          refine hK.out _ _ ⟨(HX.out _ (sl_below0 (sl_drew HS.out))).1, (HX.out _ (sl_below0 (sl_drew HS.out))).2.1⟩ (fun hHeld => ?_)
          clear hK K
          refine norm_ (a' := ?_) ?_ ?_
          rotate_left
          · show Act.put _ (some 87) _ = _
            simp only [Act.put, List.setIfInBounds_toArray, List.set_cons_zero, List.set_cons_succ, i64_w, i32_w, IntKind.wrap_u32, IntKind.wrap_u8, IntKind.wrap_u16]
            rfl
          refine pure_ (i := 13) (N := some 89) (v := ?_) (a' := ?_) #[true, true, true, true, true, true, true, true, true, true, true, true, true, true] rfl rfl (by kernel_rfl) (fun _ _ _ h => h) (Or.inl ⟨by rfl, ?_⟩) ?_ ?_
          rotate_left
          · intro w'
            go_simp
            with_reducible rfl
          rotate_left
          · simp only [Act.put, List.setIfInBounds_toArray, List.set_cons_zero, List.set_cons_succ, i64_w, i32_w, IntKind.wrap_u32, IntKind.wrap_u8, IntKind.wrap_u16]
            rfl
          refine done_ (by kernel_rfl) ?_
          go_wp2_with (first
    | (go_at_call 12; refine (New_no _ _ newok).mono ?_; rintro e w1 ⟨rfl, rfl⟩)
    | (go_at_call 13; refine (rNew_zsl (by repeat (with_reducible first | exact HS.out | apply sl_drewN | apply sl_drew | apply sl_alloc)) newok).mono ?_; rintro e w1 ⟨rfl, hs⟩; (try simp only [World.size_alloc] at hs); replace HS := Aside0.mk hs; clear hs)
    | (go_at_call 17; refine (no_Take _ _ _).mono ?_; rintro e w1 ⟨rfl, rfl⟩)
    | (go_at_call 15; refine (no_Level _ _).mono ?_; rintro e w1 ⟨rfl, rfl⟩))
          go_roundg kq
          case measure => omega
          case rel => exact ⟨i + 1, rfl, ⟨by have := HI.out; omega⟩, ⟨sl_one (sl_drew HS.out)⟩⟩
        · rw [hb] at x2
          clear hb
          go_upto_region 10 with (fail)
          refine start_ (n := 13) (S := fun w' => w'.cell? ⟨gm, 0, none⟩ = some (.bool false) ∧ w'.cell? ⟨gm, 1, none⟩ = some (.bool false) ∧ w'.cell? ⟨gm, 2, none⟩ = some (.int .i64 0) ∧ w'.cell? ⟨gm, 3, none⟩ = some (.int .i64 0) ∧ w'.cell? ⟨gm, 4, none⟩ = some (.int .i64 0) ∧ w'.cell? ⟨gm, 5, none⟩ = some (.int .i64 0) ∧ w'.cell? (ad.add (i * 3)) = some (.int .i64 x.f0) ∧ w'.cell? ⟨(ad.add (i * 3)).block, (ad.add (i * 3)).off + 1, none⟩ = some (.int .i64 x.f1)) (ds := [11]) #[false, false, false, false, false, false, false, false, false, false, false, false, false] (by kernel_rfl) rfl rfl ⟨m0, m1, m2, m3, m4, m5, x0, x1⟩ (fun hHeld => ?_)
          refine pure_ (i := 1) (N := some 42) (v := ?_) (a' := ?_) #[false, true, false, false, false, false, false, false, false, false, false, false, false] rfl rfl (by kernel_rfl) (fun _ _ _ h => h) (Or.inl ⟨by rfl, ?_⟩) ?_ ?_
          rotate_left
          · intro w'
            go_simp
            with_reducible rfl
          rotate_left
          · simp only [Act.put, List.setIfInBounds_toArray, List.set_cons_zero, List.set_cons_succ, i64_w, i32_w, IntKind.wrap_u32, IntKind.wrap_u8, IntKind.wrap_u16]
            rfl
          refine pure_ (i := 2) (N := some 43) (v := ?_) (a' := ?_) #[false, true, true, false, false, false, false, false, false, false, false, false, false] rfl rfl (by kernel_rfl) (fun _ _ _ h => h) (Or.inl ⟨by rfl, ?_⟩) ?_ ?_
          rotate_left
          · intro w'
            go_simp
            with_reducible rfl
          rotate_left
          · simp only [Act.put, List.setIfInBounds_toArray, List.set_cons_zero, List.set_cons_succ, i64_w, i32_w, IntKind.wrap_u32, IntKind.wrap_u8, IntKind.wrap_u16]
            rfl
          refine pure_ (i := 3) (N := some 44) (v := ?_) (a' := ?_) #[false, true, true, true, false, false, false, false, false, false, false, false, false] rfl rfl (by kernel_rfl) (fun _ _ _ h => h) (Or.inl ⟨by rfl, ?_⟩) ?_ ?_
          rotate_left
          · intro w'
            go_simp
            with_reducible rfl
          rotate_left
          · simp only [Act.put, List.setIfInBounds_toArray, List.set_cons_zero, List.set_cons_succ, i64_w, i32_w, IntKind.wrap_u32, IntKind.wrap_u8, IntKind.wrap_u16]
            rfl
          refine pure_ (i := 4) (N := some 45) (v := ?_) (a' := ?_) #[false, true, true, true, true, false, false, false, false, false, false, false, false] rfl rfl (by kernel_rfl) (fun _ _ _ h => h) (Or.inl ⟨by rfl, ?_⟩) ?_ ?_
          rotate_left
          · intro w'
            go_simp
            with_reducible rfl
          rotate_left
          · simp only [Act.put, List.setIfInBounds_toArray, List.set_cons_zero, List.set_cons_succ, i64_w, i32_w, IntKind.wrap_u32, IntKind.wrap_u8, IntKind.wrap_u16]
            rfl
          refine take_ (i := 0) (N := some 41) (v := ?_) (a' := ?_) #[true, true, true, true, true, false, false, false, false, false, false, false, false] rfl rfl (by kernel_rfl) (fun _ _ _ h => h) (Or.inl ⟨by rfl, ?_⟩) hHeld ?_ ?_
          rotate_left
          · rintro w' ⟨s0, s1, s2, s3, s4, s5, s6, s7⟩
            go_simp
            with_reducible rfl
          rotate_left
          · simp only [Act.put, List.setIfInBounds_toArray, List.set_cons_zero, List.set_cons_succ, i64_w, i32_w, IntKind.wrap_u32, IntKind.wrap_u8, IntKind.wrap_u16]
            rfl
          refine take_ (i := 5) (N := some 46) (v := ?_) (a' := ?_) #[true, true, true, true, true, true, false, false, false, false, false, false, false] rfl rfl (by kernel_rfl) (fun _ _ _ h => h) (Or.inl ⟨by rfl, ?_⟩) hHeld ?_ ?_
          rotate_left
          · rintro w' ⟨s0, s1, s2, s3, s4, s5, s6, s7⟩
            go_simp
            with_reducible rfl
          rotate_left
          · simp only [Act.put, List.setIfInBounds_toArray, List.set_cons_zero, List.set_cons_succ, i64_w, i32_w, IntKind.wrap_u32, IntKind.wrap_u8, IntKind.wrap_u16]
            rfl
          refine join_ (σ := Nat) 2 #[true, true, true, true, true, true, true, true, true, true, true, false, false] (fun s_ => [(47, (Value.tuple #[.agg #[.bool false, .bool false, .int .i64 0, .int .i64 0, .int .i64 0, .int .i64 0], .int .i64 0])), (40, (Value.tuple #[.agg #[.bool false, .bool false, .int .i64 0, .int .i64 0, .int .i64 0, .int .i64 0], .int .i64 0])), (48, (Value.agg #[.bool false, .bool false, .int .i64 0, .int .i64 0, .int .i64 0, .int .i64 0])), (49, (.int .i64 0 : Value)), (10, (Value.pointer (some ⟨s_, 0, none⟩)))]) (fun s_ w' => SL w w' [cellsR gm 27 #[.bool false, .bool false, .int .i64 0, .int .i64 0, .int .i64 0, .int .i64 0], cellsR s_ 27 #[.bool false, .bool false, .int .i64 0, .int .i64 0, .int .i64 0, .int .i64 0]]) ?_ ?_
          rotate_left
          · intro hCont
            refine two_ (i := 6) (j := 10) (Ni := some 47) (Nj := some 10) #[true, true, true, true, true, true, true, false, false, false, false, false, false] #[true, true, true, true, true, true, false, false, false, false, true, false, false] rfl rfl rfl rfl (by kernel_rfl) (by decide) (by decide) (fun K hK => ?_) (fun K hK => ?_)
            · skip
              refine goes_ Try.func14 (by kernel_rfl) rfl #[.agg #[.bool false, .bool false, .int .i64 0, .int .i64 0, .int .i64 0, .int .i64 0], .int .i64 x.f0] (by rfl) rfl rfl (by (try simp only [List.map_toArray, List.map_cons, List.map_nil]); first | done | rfl) ?_
              with_reducible refine (rLevel_zsl (sl_drew HS.out) x.f0).mono ?_
              rintro e w3 ⟨rfl, hsC⟩
              refine ⟨_, rfl, ?_⟩
              refine hK.out _ _ ⟨(cell_b (sl_blk hsC 0 rfl) rfl), (cell_b (sl_blk hsC 0 rfl) rfl), (cell_b (sl_blk hsC 0 rfl) rfl), (cell_b (sl_blk hsC 0 rfl) rfl), (cell_b (sl_blk hsC 0 rfl) rfl), (cell_b (sl_blk hsC 0 rfl) rfl), (HX.out _ (sl_below0 hsC)).1, (HX.out _ (sl_below0 hsC)).2.1⟩ (fun hHeld => ?_)
              clear hK K
              refine norm_ (a' := ?_) ?_ ?_
              rotate_left
              · show Act.put _ (some 47) _ = _
                simp only [Act.put, List.setIfInBounds_toArray, List.set_cons_zero, List.set_cons_succ, i64_w, i32_w, IntKind.wrap_u32, IntKind.wrap_u8, IntKind.wrap_u16]
                rfl
              refine pure_ (i := 7) (N := some 40) (v := ?_) (a' := ?_) #[true, true, true, true, true, true, true, true, false, false, false, false, false] rfl rfl (by kernel_rfl) (fun _ _ _ h => h) (Or.inl ⟨by rfl, ?_⟩) ?_ ?_
              rotate_left
              · intro w'
                go_simp
                with_reducible rfl
              rotate_left
              · simp only [Act.put, List.setIfInBounds_toArray, List.set_cons_zero, List.set_cons_succ, i64_w, i32_w, IntKind.wrap_u32, IntKind.wrap_u8, IntKind.wrap_u16]
                rfl
              refine pure_ (i := 8) (N := some 48) (v := ?_) (a' := ?_) #[true, true, true, true, true, true, true, true, true, false, false, false, false] rfl rfl (by kernel_rfl) (fun _ _ _ h => h) (Or.inl ⟨by rfl, ?_⟩) ?_ ?_
              rotate_left
              · intro w'
                go_simp
                with_reducible rfl
              rotate_left
              · simp only [Act.put, List.setIfInBounds_toArray, List.set_cons_zero, List.set_cons_succ, i64_w, i32_w, IntKind.wrap_u32, IntKind.wrap_u8, IntKind.wrap_u16]
                rfl
              refine pure_ (i := 9) (N := some 49) (v := ?_) (a' := ?_) #[true, true, true, true, true, true, true, true, true, true, false, false, false] rfl rfl (by kernel_rfl) (fun _ _ _ h => h) (Or.inl ⟨by rfl, ?_⟩) ?_ ?_
              rotate_left
              · intro w'
                go_simp
                with_reducible rfl
              rotate_left
              · simp only [Act.put, List.setIfInBounds_toArray, List.set_cons_zero, List.set_cons_succ, i64_w, i32_w, IntKind.wrap_u32, IntKind.wrap_u8, IntKind.wrap_u16]
                rfl
              refine one_ (i := 10) (N := some 10) #[true, true, true, true, true, true, true, true, true, true, true, false, false] rfl rfl (by kernel_rfl) (by decide) (fun K hK => ?_)
              refine box_step ?hg (N := 10) ?hd (cs := #[.bool false, .bool false, .int .i64 0, .int .i64 0, .int .i64 0, .int .i64 0]) (t := 27) ?hr ?_; (case hd => rfl); (case hg => rfl); (case hr => first | (go_simp; done) | (go_simp; rfl))
              intro gn hgn w4 hbox hb
              have hsA := sl_box' hsC hb (Nat.le_of_eq hgn.symm) hbox
              refine hK.out _ _ ⟨(cell_b (sl_blk hsA 0 rfl) rfl), (cell_b (sl_blk hsA 0 rfl) rfl), (cell_b (sl_blk hsA 0 rfl) rfl), (cell_b (sl_blk hsA 0 rfl) rfl), (cell_b (sl_blk hsA 0 rfl) rfl), (cell_b (sl_blk hsA 0 rfl) rfl), (HX.out _ (sl_below0 hsA)).1, (HX.out _ (sl_below0 hsA)).2.1⟩ (fun hHeld => ?_)
              clear hK K
              refine norm_ (a' := ?_) ?_ ?_
              rotate_left
              · show Act.put _ (some 10) _ = _
                simp only [Act.put, List.setIfInBounds_toArray, List.set_cons_zero, List.set_cons_succ, i64_w, i32_w, IntKind.wrap_u32, IntKind.wrap_u8, IntKind.wrap_u16]
                rfl
              exact norm_ (by simp only [putAll, Act.put, List.setIfInBounds_toArray, List.set_cons_zero, List.set_cons_succ]) (hCont gn _ hsA)
            · skip
              refine box_step ?hg (N := 10) ?hd (cs := #[.bool false, .bool false, .int .i64 0, .int .i64 0, .int .i64 0, .int .i64 0]) (t := 27) ?hr ?_; (case hd => rfl); (case hg => rfl); (case hr => first | (go_simp; done) | (go_simp; rfl))
              intro gn hgn w4 hbox hb
              have hsA := sl_box' (sl_drew HS.out) hb (Nat.le_of_eq hgn.symm) hbox
              refine hK.out _ _ ⟨(cell_b (sl_blk hsA 0 rfl) rfl), (cell_b (sl_blk hsA 0 rfl) rfl), (cell_b (sl_blk hsA 0 rfl) rfl), (cell_b (sl_blk hsA 0 rfl) rfl), (cell_b (sl_blk hsA 0 rfl) rfl), (cell_b (sl_blk hsA 0 rfl) rfl), (HX.out _ (sl_below0 hsA)).1, (HX.out _ (sl_below0 hsA)).2.1⟩ (fun hHeld => ?_)
              clear hK K
              refine norm_ (a' := ?_) ?_ ?_
              rotate_left
              · show Act.put _ (some 10) _ = _
                simp only [Act.put, List.setIfInBounds_toArray, List.set_cons_zero, List.set_cons_succ, i64_w, i32_w, IntKind.wrap_u32, IntKind.wrap_u8, IntKind.wrap_u16]
                rfl
              refine one_ (i := 6) (N := some 47) #[true, true, true, true, true, true, true, false, false, false, true, false, false] rfl rfl (by kernel_rfl) (by decide) (fun K hK => ?_)
              refine goes_ Try.func14 (by kernel_rfl) rfl #[.agg #[.bool false, .bool false, .int .i64 0, .int .i64 0, .int .i64 0, .int .i64 0], .int .i64 x.f0] (by rfl) rfl rfl (by (try simp only [List.map_toArray, List.map_cons, List.map_nil]); first | done | rfl) ?_
              with_reducible refine (rLevel_zsl hsA x.f0).mono ?_
              rintro e w3 ⟨rfl, hsC⟩
              refine ⟨_, rfl, ?_⟩
              refine hK.out _ _ ⟨(cell_b (sl_blk hsC 0 rfl) rfl), (cell_b (sl_blk hsC 0 rfl) rfl), (cell_b (sl_blk hsC 0 rfl) rfl), (cell_b (sl_blk hsC 0 rfl) rfl), (cell_b (sl_blk hsC 0 rfl) rfl), (cell_b (sl_blk hsC 0 rfl) rfl), (HX.out _ (sl_below0 hsC)).1, (HX.out _ (sl_below0 hsC)).2.1⟩ (fun hHeld => ?_)
              clear hK K
              refine norm_ (a' := ?_) ?_ ?_
              rotate_left
              · show Act.put _ (some 47) _ = _
                simp only [Act.put, List.setIfInBounds_toArray, List.set_cons_zero, List.set_cons_succ, i64_w, i32_w, IntKind.wrap_u32, IntKind.wrap_u8, IntKind.wrap_u16]
                rfl
              refine pure_ (i := 7) (N := some 40) (v := ?_) (a' := ?_) #[true, true, true, true, true, true, true, true, false, false, true, false, false] rfl rfl (by kernel_rfl) (fun _ _ _ h => h) (Or.inl ⟨by rfl, ?_⟩) ?_ ?_
              rotate_left
              · intro w'
                go_simp
                with_reducible rfl
              rotate_left
              · simp only [Act.put, List.setIfInBounds_toArray, List.set_cons_zero, List.set_cons_succ, i64_w, i32_w, IntKind.wrap_u32, IntKind.wrap_u8, IntKind.wrap_u16]
                rfl
              refine pure_ (i := 8) (N := some 48) (v := ?_) (a' := ?_) #[true, true, true, true, true, true, true, true, true, false, true, false, false] rfl rfl (by kernel_rfl) (fun _ _ _ h => h) (Or.inl ⟨by rfl, ?_⟩) ?_ ?_
              rotate_left
              · intro w'
                go_simp
                with_reducible rfl
              rotate_left
              · simp only [Act.put, List.setIfInBounds_toArray, List.set_cons_zero, List.set_cons_succ, i64_w, i32_w, IntKind.wrap_u32, IntKind.wrap_u8, IntKind.wrap_u16]
                rfl
              refine pure_ (i := 9) (N := some 49) (v := ?_) (a' := ?_) #[true, true, true, true, true, true, true, true, true, true, true, false, false] rfl rfl (by kernel_rfl) (fun _ _ _ h => h) (Or.inl ⟨by rfl, ?_⟩) ?_ ?_
              rotate_left
              · intro w'
                go_simp
                with_reducible rfl
              rotate_left
              · simp only [Act.put, List.setIfInBounds_toArray, List.set_cons_zero, List.set_cons_succ, i64_w, i32_w, IntKind.wrap_u32, IntKind.wrap_u8, IntKind.wrap_u16]
                rfl
              exact norm_ (by simp only [putAll, Act.put, List.setIfInBounds_toArray, List.set_cons_zero, List.set_cons_succ]) (hCont gn _ hsC)
          intro gn w7 hs7
          have hHeld : w7.cell? ⟨gm, 0, none⟩ = some (.bool false) ∧ w7.cell? ⟨gm, 1, none⟩ = some (.bool false) ∧ w7.cell? ⟨gm, 2, none⟩ = some (.int .i64 0) ∧ w7.cell? ⟨gm, 3, none⟩ = some (.int .i64 0) ∧ w7.cell? ⟨gm, 4, none⟩ = some (.int .i64 0) ∧ w7.cell? ⟨gm, 5, none⟩ = some (.int .i64 0) ∧ w7.cell? (ad.add (i * 3)) = some (.int .i64 x.f0) ∧ w7.cell? ⟨(ad.add (i * 3)).block, (ad.add (i * 3)).off + 1, none⟩ = some (.int .i64 x.f1) := ⟨(cell_b (sl_blk hs7 0 rfl) rfl), (cell_b (sl_blk hs7 0 rfl) rfl), (cell_b (sl_blk hs7 0 rfl) rfl), (cell_b (sl_blk hs7 0 rfl) rfl), (cell_b (sl_blk hs7 0 rfl) rfl), (cell_b (sl_blk hs7 0 rfl) rfl), (HX.out _ (sl_below0 hs7)).1, (HX.out _ (sl_below0 hs7)).2.1⟩
          have hz_ := blk_lt (sl_blk hs7 1 rfl)
          have z0 := (blk_cell (sl_blk hs7 1 rfl) 0).trans (show _ = some (Value.bool false) from rfl)
          have z1 := (blk_cell (sl_blk hs7 1 rfl) 1).trans (show _ = some (Value.bool false) from rfl)
          have z2 := (blk_cell (sl_blk hs7 1 rfl) 2).trans (show _ = some (Value.int .i64 0) from rfl)
          have z3 := (blk_cell (sl_blk hs7 1 rfl) 3).trans (show _ = some (Value.int .i64 0) from rfl)
          have z4 := (blk_cell (sl_blk hs7 1 rfl) 4).trans (show _ = some (Value.int .i64 0) from rfl)
          have z5 := (blk_cell (sl_blk hs7 1 rfl) 5).trans (show _ = some (Value.int .i64 0) from rfl)
          have zf0 := blk_frozen (sl_blk hs7 1 rfl) 0
          have zf1 := blk_frozen (sl_blk hs7 1 rfl) 1
          have zf2 := blk_frozen (sl_blk hs7 1 rfl) 2
          have zf3 := blk_frozen (sl_blk hs7 1 rfl) 3
          have zf4 := blk_frozen (sl_blk hs7 1 rfl) 4
          have zf5 := blk_frozen (sl_blk hs7 1 rfl) 5
          refine norm_ (a' := ?_) ?_ ?_
          rotate_left
          · simp only [putAll, Act.put, List.setIfInBounds_toArray, List.set_cons_zero, List.set_cons_succ]
            rfl
          refine last_ (i := 11) (N := none) #[true, true, true, true, true, true, true, true, true, true, true, true, false] rfl rfl (by kernel_rfl) (by decide) (fun K hK => ?_)
          refine skip_ (w1 := ?_) (by rfl) rfl ?_ ?_
          rotate_left
          · go_simp
            rfl
          refine hK.out _ _ ?_
          clear hK K
          refine pure_ (i := 12) (N := some 11) (v := ?_) (a' := ?_) #[true, true, true, true, true, true, true, true, true, true, true, true, true] rfl rfl (by kernel_rfl) (fun _ _ _ h => h) (Or.inl ⟨by rfl, ?_⟩) ?_ ?_
          rotate_left
          · intro w'
            go_simp
            with_reducible rfl
          rotate_left
          · simp only [Act.put, List.setIfInBounds_toArray, List.set_cons_zero, List.set_cons_succ, i64_w, i32_w, IntKind.wrap_u32, IntKind.wrap_u8, IntKind.wrap_u16]
            rfl
          refine done_ (by kernel_rfl) ?_
          go_upto_region 11 with (fail)
          refine world_gen (F := fun w_ => Code.wp Try.prog _ _ _ w_) (fun w_ => SL w w_ [cellsR gm 27 #[.bool false, .bool false, .int .i64 0, .int .i64 0, .int .i64 0, .int .i64 0], cellsR gn 27 #[.bool false, .bool false, .int .i64 0, .int .i64 0, .int .i64 0, .int .i64 0]]) (sl_put6 1 hs7 rfl rfl _ _ _ _ _ _) ?_
          clear hz_ z0 z1 z2 z3 z4 z5 zf0 zf1 zf2 zf3 zf4 zf5 hs7 HS hHeld m0 m1 m2 m3 m4 m5 mf0 mf1 mf2 mf3 mf4 mf5 hm_ x0 x1 x2
          intro w8 hs8
          have HS := Aside0.mk hs8
          clear hs8
          have hm_ := blk_lt (sl_blk HS.out 0 rfl)
          have m0 := (blk_cell (sl_blk HS.out 0 rfl) 0).trans (show _ = some (Value.bool false) from rfl)
          have m1 := (blk_cell (sl_blk HS.out 0 rfl) 1).trans (show _ = some (Value.bool false) from rfl)
          have m2 := (blk_cell (sl_blk HS.out 0 rfl) 2).trans (show _ = some (Value.int .i64 0) from rfl)
          have m3 := (blk_cell (sl_blk HS.out 0 rfl) 3).trans (show _ = some (Value.int .i64 0) from rfl)
          have m4 := (blk_cell (sl_blk HS.out 0 rfl) 4).trans (show _ = some (Value.int .i64 0) from rfl)
          have m5 := (blk_cell (sl_blk HS.out 0 rfl) 5).trans (show _ = some (Value.int .i64 0) from rfl)
          have mf0 := blk_frozen (sl_blk HS.out 0 rfl) 0
          have mf1 := blk_frozen (sl_blk HS.out 0 rfl) 1
          have mf2 := blk_frozen (sl_blk HS.out 0 rfl) 2
          have mf3 := blk_frozen (sl_blk HS.out 0 rfl) 3
          have mf4 := blk_frozen (sl_blk HS.out 0 rfl) 4
          have mf5 := blk_frozen (sl_blk HS.out 0 rfl) 5
          have hn_ := blk_lt (sl_blk HS.out 1 rfl)
          have n0 := (blk_cell (sl_blk HS.out 1 rfl) 0).trans (show _ = some (Value.bool false) from rfl)
          have n1 := (blk_cell (sl_blk HS.out 1 rfl) 1).trans (show _ = some (Value.bool false) from rfl)
          have n2 := (blk_cell (sl_blk HS.out 1 rfl) 2).trans (show _ = some (Value.int .i64 0) from rfl)
          have n3 := (blk_cell (sl_blk HS.out 1 rfl) 3).trans (show _ = some (Value.int .i64 0) from rfl)
          have n4 := (blk_cell (sl_blk HS.out 1 rfl) 4).trans (show _ = some (Value.int .i64 0) from rfl)
          have n5 := (blk_cell (sl_blk HS.out 1 rfl) 5).trans (show _ = some (Value.int .i64 0) from rfl)
          have nf0 := blk_frozen (sl_blk HS.out 1 rfl) 0
          have nf1 := blk_frozen (sl_blk HS.out 1 rfl) 1
          have nf2 := blk_frozen (sl_blk HS.out 1 rfl) 2
          have nf3 := blk_frozen (sl_blk HS.out 1 rfl) 3
          have nf4 := blk_frozen (sl_blk HS.out 1 rfl) 4
          have nf5 := blk_frozen (sl_blk HS.out 1 rfl) 5
          obtain ⟨x0, x1, x2⟩ := HX.out _ (sl_below0 HS.out)
          go_upto_region 12 with (fail)
          refine world_gen (F := fun w_ => Code.wp Try.prog _ _ _ w_) (fun w_ => SL w w_ [cellsR gm 27 #[.bool false, .bool false, .int .i64 0, .int .i64 0, .int .i64 0, .int .i64 0], cellsR gn 27 #[.bool false, .bool false, .int .i64 0, .int .i64 0, .int .i64 0, .int .i64 0]]) (sl_put6 0 HS.out rfl rfl _ _ _ _ _ _) ?_
          clear HS m0 mf0 m1 mf1 m2 mf2 m3 mf3 m4 mf4 m5 mf5 n0 nf0 n1 nf1 n2 nf2 n3 nf3 n4 nf4 n5 nf5 hm_ hn_ x0 x1 x2
          intro w9 hs9
          have HS := Aside0.mk hs9
          clear hs9
          obtain ⟨x0, x1, x2⟩ := HX.out _ (sl_below0 HS.out)
          go_wp2_with (first
    | (go_at_call 12; refine (New_no _ _ newok).mono ?_; rintro e w1 ⟨rfl, rfl⟩)
    | (go_at_call 13; refine (rNew_zsl (by repeat (with_reducible first | exact HS.out | apply sl_drewN | apply sl_drew | apply sl_alloc)) newok).mono ?_; rintro e w1 ⟨rfl, hs⟩; (try simp only [World.size_alloc] at hs); replace HS := Aside0.mk hs; clear hs)
    | (go_at_call 17; refine (no_Take _ _ _).mono ?_; rintro e w1 ⟨rfl, rfl⟩)
    | (go_at_call 15; refine (no_Level _ _).mono ?_; rintro e w1 ⟨rfl, rfl⟩))
          go_roundg kq
          case measure => omega
          case rel => exact ⟨i + 1, rfl, ⟨by have := HI.out; omega⟩, ⟨sl_one HS.out⟩⟩
      · have b1 : decide (i < l.length) = false := decide_eq_false hlt
        clear hlt hi
        go_wp2_with (first
    | (go_at_call 11; refine (ex_calls w _ _ (by repeat (with_reducible first | exact HS.out | apply sl_drewN | apply sl_drew | apply sl_alloc))).mono ?_; rintro e w1 ⟨rfl, hs⟩; (try simp only [World.size_alloc] at hs); replace HS := Aside0.mk hs; clear hs))
        go_ret
        exact ⟨rfl, sl_below0 HS.out⟩
end Go.Proofs.Ytlfediaeaaodpaa.Q
