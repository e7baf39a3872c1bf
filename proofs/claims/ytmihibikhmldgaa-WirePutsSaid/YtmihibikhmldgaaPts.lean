import Derived.Laws.CopyOwn
import Derived.Laws.MakeOwn
import Derived.Test.YtmihibikhmldgaaPu
namespace Go.Proofs.Ytmihibikhmldgaa.Q
open Go.RowKit Go.Proofs.YtmihibikhmldgaaW.PrintWords Go.Proofs.YtmihibikhmldgaaW.PrintLast Go.Proofs.YtmihibikhmldgaaW.PrintMore Go.Proofs.Ytmihibikhmldgaa.Sl Go.Proofs.Ytmihibikhmldgaa.Hand 
attribute [local go_sem] max2_int min2_int max_two min_two max_three min_three max_four min_four 
set_option linter.unusedVariables false
set_option linter.unusedSimpArgs false

theorem size5 : (Try.prog.info? 5).map (·.size) = some 1 := by kernel_rfl
theorem made8 (m : Nat) : madeCells #[Value.int .u8 0] m = ((List.replicate m (0 : Int)).flatMap enc8).toArray := by
  apply Array.ext'
  apply List.ext_getElem
  · rw [List.toList_toArray, flat8.flat_len, List.length_replicate]
    simp only [madeCells, Array.toList_map, List.length_map, Array.length_toList, Array.size_range]
    exact (Nat.mul_one m).symm
  · intro i h1 h2
    have e : (List.replicate m (0 : Int)).flatMap enc8 = List.replicate m (Value.int .u8 0) := by
      rw [List.flatMap_replicate]
      simp [enc8]
    simp [e, madeCells, Nat.mod_one]
theorem copy8 {w0 w : World} {L : List Res} {ops : Array Oper} {rest : List Oper} {o : Oper} {a : Act} {Q : Exit → Act → World → Prop} (h : SL w0 w L) (i : Nat) {g cap c n : Nat} {B : Option Addr} (zs ys : List Int) (hgd : o.guard = none) (d s : Operand) (ho : o.op = .call { callee := .builtin .copy, args := #[d, s], argTypes := #[22, 22] })
    (hd : a.eval d = .slice (some ⟨g, 0, none⟩) n cap) (hs : a.eval s = .slice B n c) (hn : ys.length = n) (hy : Kd.C (Kd.int .u8) w B ys.length ys) {X : Array Value} (hX : X = (zs.flatMap enc8).toArray) (hi : L[i]? = some (cellsR g 5 X)) (hz : n ≤ zs.length) {Y : Array Value} (hY : Y = ((ys ++ zs.drop n).flatMap enc8).toArray)
    (hk : ∀ w1, SL w0 w1 (L.set i (cellsR g 5 Y)) → wpList Try.prog ops Q rest (a.put o.dst (goInt (n : Int))) w1) :
    wpList Try.prog ops Q (o :: rest) a w := by
  subst hn
  rcases Nat.eq_zero_or_pos ys.length with h0 | h0
  · obtain rfl : ys = [] := List.eq_nil_of_length_eq_zero h0
    refine wpList_copy_nothing hgd d s 22 22 ho 5 Try.underlying22 size5 _ B _ _ _ _ hd hs (by simp) ?_
    have e : Y = X := by rw [hX, hY]; simp
    exact hk w (sl_imp h hi fun F hP => by rw [e]; exact hP)
  · obtain ⟨ad, rfl, hc⟩ := flat8.cells hy h0
    have hl : (ys.flatMap enc8).length = ys.length := (flat8.flat_len ys).trans (Nat.mul_one _)
    refine wpList_copy_own hgd d s 22 22 ho 5 Try.underlying22 size5 g 0 ys.length cap ad ys.length c hd hs X 5 (sl_blk h i hi) (ys.flatMap enc8) (by rw [hl]; simp) hc ?_ (flat8.flat_one ys) ?_
    · rw [hX, hl, Nat.zero_add]
      rw [List.size_toArray, flat8.flat_len]
      exact Nat.le_trans hz (Nat.le_of_eq (Nat.mul_one _).symm)
    · rw [hl]
      have e : (X.toList.take 0 ++ (ys.flatMap enc8 ++ X.toList.drop (0 + ys.length))).toArray = Y := by
        rw [hX, hY, List.flatMap_append, List.take_zero, List.nil_append, Nat.zero_add, List.toList_toArray]
        congr 2
        have := flat8.flat_drop zs ys.length
        rw [show ys.length * (Kd.int .u8).sz = ys.length from Nat.mul_one _] at this
        exact this
      rw [e]
      exact hk _ (sl_row h i hi Y)
/-- A part of a block of bytes. -/
theorem part8 {w : World} {g : Nat} {X : Array Value} {zs ys us : List Int} {m : Nat} (hb : w.heap[g]? = some (.cells X 5 (0, 0))) (hX : X = ((us ++ ys ++ zs).flatMap enc8).toArray) (hm : us.length = m) (hl : us.length + ys.length ≤ 1000000) : Kd.C (Kd.int .u8) w (some ⟨g, m, none⟩) ys.length ys := by
  subst hm
  refine ⟨rfl, by omega, fun _ => ⟨_, rfl, fun j p hj => ⟨[.int .u8 p], rfl, rfl, fun i u hu => ?_⟩⟩⟩
  have hi : i = 0 := by
    have h_ := (List.getElem?_eq_some_iff.1 hu).1
    exact Nat.lt_one_iff.1 h_
  subst hi
  have hu : Value.int .u8 p = u := Option.some.inj hu
  subst hu
  have hjl := (List.getElem?_eq_some_iff.1 hj).1
  have e : ((⟨g, us.length, none⟩ : Addr).add (j * (Kd.int .u8).sz + 0)) = ⟨g, us.length + j, none⟩ := by
    show Addr.add ⟨g, us.length, none⟩ (j * 1 + 0) = _
    rw [add_at, Nat.mul_one, Nat.add_zero]
  rw [e]
  refine (blk_cell hb _).trans ?_
  rw [hX, List.getElem?_toArray]
  have e2 : ∀ l : List Int, l.flatMap enc8 = l.map (Value.int .u8) := fun l => by
    induction l with
    | nil => rfl
    | cons x l ih => rw [List.flatMap_cons, ih]; rfl
  rw [e2, List.getElem?_map, List.append_assoc, List.getElem?_append_right (Nat.le_add_right _ _), Nat.add_sub_cancel_left, List.getElem?_append_left hjl, hj]
  rfl
theorem same_t {w0 w : World} {L : List Res} (h : SL w0 w L) (A B : Option Addr) (c e n : Nat) (x : List Int) (hn : n = x.length) (hx : Kd.C (Kd.int .u8) w A x.length x) (hc : x.length ≤ c) (hy : Kd.C (Kd.int .u8) w B x.length x) (he : x.length ≤ e) (hb : x.length ≤ 1000000) :
    Calls Try.prog 13 #[.slice A n c, .slice B n e] w fun e w' => e = .returned (.bool true) ∧ SL w0 w' L := by
  have := same_c h A B c e n n x x hn hn hx hc hy he (by omega)
  rw [decide_eq_true (show x = x from rfl)] at this
  exact this
theorem put_m {w0 w : World} {L : List Res} {M : Nat} (h : SL w0 w L) (A B : Option Addr) (c e : Nat) (b bs : List Int) (kind n : Int) (hM : (b ++ item kind n bs).length = M) (hr : Kd.C (Kd.int .u8) w A b.length b) (hc : b.length ≤ c) (hx : Kd.C (Kd.int .u8) w B bs.length bs) (n0 : 0 ≤ n) (n1 : n < 4294967296) (hb : Byt bs) (hl : b.length ≤ 1000000) (hlx : bs.length ≤ 1000000) :
    Calls Try.prog 12 #[.slice A b.length c, .agg #[.int .i64 kind, .int .u32 n, .slice B bs.length e]] w fun r w' => ∃ A' c', r = .returned (.slice A' M c') ∧ SL w0 w' (L ++ [rowO (.slice A' M c') (b ++ item kind n bs)]) := by
  subst hM
  exact put_c h A B c e b bs kind n hr hc hx n0 n1 hb hl hlx
theorem want_m {w0 w : World} {L : List Res} {M : Nat} (h : SL w0 w L) (A B : Option Addr) (c e : Nat) (b bs : List Int) (kind n : Int) (hM : (b ++ item kind n bs).length = M) (hr : Kd.C (Kd.int .u8) w A b.length b) (hc : b.length ≤ c) (hx : Kd.C (Kd.int .u8) w B bs.length bs) (he : bs.length ≤ e) (n0 : 0 ≤ n) (n1 : n < 4294967296) (hb : Byt bs) (hl : b.length ≤ 1000000) (hlx : bs.length ≤ 1000000) :
    Calls Try.prog 14 #[.slice A b.length c, .agg #[.int .i64 kind, .int .u32 n, .slice B bs.length e]] w fun r w' => ∃ A' c', r = .returned (.slice A' M c') ∧ SL w0 w' (L ++ [rowO (.slice A' M c') (b ++ item kind n bs)]) := by
  subst hM
  exact want_c h A B c e b bs kind n hr hc hx he n0 n1 hb hl hlx
set_option maxHeartbeats 8000000 in
set_option maxRecDepth 100000 in
theorem Puts_law (A B : Option Addr) (c e : Nat) (b bs : List Int) (kind n : Int) (w : World) (hr : Kd.C (Kd.int .u8) w A b.length b) (hc : b.length ≤ c) (hx : Kd.C (Kd.int .u8) w B bs.length bs) (he : bs.length ≤ e) (n0 : 0 ≤ n) (n1 : n < 4294967296) (hb : Byt bs) :
    Calls Try.prog 3 #[.slice A b.length c, .agg #[.int .i64 kind, .int .u32 n, .slice B bs.length e]] w fun e w' => e = .returned (.bool true) ∧ Below w.heap.size w w' := by
  have HS := Aside0.mk (sl_start w)
  have HR := Aside0.mk hr
  have HC := Aside0.mk hc
  have HXx := Aside0.mk hx
  have HE := Aside0.mk he
  have HN := Aside0.mk (And.intro n0 n1)
  have HB := Aside0.mk hb
  have HX := Aside0.mk (show ∀ {w' : World} {m_ : Nat}, m_ = w'.heap.size → Below w.heap.size w w' → Kd.C k25 (w'.alloc (.cells #[.int .i64 kind, .int .u32 n, .slice B bs.length e] 25)) (some ⟨m_, 0, none⟩) 1 [(⟨kind, n, bs⟩ : S25)] from fun h1 h2 => one25 (⟨kind, n, bs⟩ : S25) B bs.length e rfl h1 (Kd.C_below hx h2) he)
  have hm := hr.2.1
  by_cases hl : 2000 < b.length
  · have d1 : decide (2000 < (b.length : Int)) = true := decide_eq_true (by omega)
    clear hr hc hx he n0 n1 hb hl
    go_enter Try.func3, Try.ntmps3
    go_wp2_with (first | (go_at_call 11; refine (ex_c (by repeat (with_reducible first | exact HS.out | apply sl_drewN | apply sl_drew | apply sl_box | apply sl_alloc))).mono ?_; rintro e w1 ⟨rfl, hs⟩; (try simp only [World.size_alloc] at hs); replace HS := Aside0.mk hs; clear hs))
    go_ret
    exact ⟨rfl, sl_below0 HS.out⟩
  have d1 : decide (2000 < (b.length : Int)) = false := decide_eq_false (by omega)
  by_cases l : lightB [(⟨kind, n, bs⟩ : S25)] = true
  rotate_left
  · have l : lightB [(⟨kind, n, bs⟩ : S25)] = false := Bool.eq_false_iff.2 l
    have HL := Aside0.mk l
    clear hr hc hx he n0 n1 hb l hl
    go_enter Try.func3, Try.ntmps3
    go_wp2_with (first
    | (go_at_call 10; refine (light_c (by repeat (with_reducible first | exact HS.out | apply sl_drewN | apply sl_drew | apply sl_box | apply sl_alloc)) _ 1 1 [(⟨kind, n, bs⟩ : S25)] rfl (HX.out (by first | rfl | simp) (sl_below0 (by repeat (with_reducible first | exact HS.out | apply sl_drewN | apply sl_drew | apply sl_box | apply sl_alloc)))) (Nat.le_refl 1)).mono ?_; rw [HL.out]; rintro e w1 ⟨rfl, hs⟩; (try simp only [World.size_alloc] at hs); replace HS := Aside0.mk hs; clear hs; (try clear hm0 hm1 hm2 hlt0); have hlt0 := blk_lt (sl_blk HS.out 0 rfl); have hm0 := c_at HS.out 0 rfl 0 rfl; have hm1 := c_at HS.out 0 rfl 1 rfl; have hm2 := c_at HS.out 0 rfl 2 rfl)
    | (go_at_call 11; refine (ex_c (by repeat (with_reducible first | exact HS.out | apply sl_drewN | apply sl_drew | apply sl_box | apply sl_alloc))).mono ?_; rintro e w1 ⟨rfl, hs⟩; (try simp only [World.size_alloc] at hs); replace HS := Aside0.mk hs; clear hs))
    go_ret
    exact ⟨rfl, sl_below0 HS.out⟩
  have HL := Aside0.mk l
  have hb3 : bs.length ≤ 300 := (light_t l).2 (⟨kind, n, bs⟩ : S25) (by simp)
  have HB3 := Aside0.mk hb3
  have HB2 := Aside0.mk hl
  obtain ⟨i0, hi0, hzz⟩ := Option.map_eq_some_iff.1 info5
  simp only [Prod.mk.injEq] at hzz
  obtain ⟨hz0, hz1, hz2⟩ := hzz
  obtain ⟨Z, hZ⟩ : ∃ Z, ((List.replicate (b.length + 8) (0 : Int)).flatMap enc8).toArray = Z := ⟨_, rfl⟩
  obtain ⟨Y, hY⟩ : ∃ Y, Y = ((b ++ (List.replicate (b.length + 8) (0 : Int)).drop b.length).flatMap enc8).toArray := ⟨_, rfl⟩
  obtain ⟨Z8, hZ8⟩ : ∃ Z8, ((List.replicate 8 (0 : Int)).flatMap enc8).toArray = Z8 := ⟨_, rfl⟩
  have hmk : ∀ W : World, (Instr.makeSlice 22 (.int .i64 (b.length : Int)) (.int .i64 ((b.length : Int) + 8))).run Try.prog W = .ok (.slice (some ⟨W.heap.size, 0, none⟩) b.length (b.length + 8)) (W.alloc (.cells Z 5)) := fun W => by
    have h := run_make (P := Try.prog) (w := W) 22 5 i0 (.int .u8 0) Try.underlying22 hi0 hz0 .i64 .i64 (b.length : Int) ((b.length : Int) + 8) (by omega) (by omega) (by rw [hz2]; omega) (by omega)
    rw [hz1] at h
    have e1 : ((b.length : Int) + 8).toNat = b.length + 8 := by omega
    rw [e1, Int.toNat_natCast, Nat.mul_one] at h
    rw [h, ← hZ]
    exact congrArg (fun X => Result.ok _ (W.alloc (.cells X 5))) (made8 _)
  have hmk8 : ∀ W : World, (Instr.makeSlice 22 (.int .i64 8) (.int .i64 8)).run Try.prog W = .ok (.slice (some ⟨W.heap.size, 0, none⟩) 8 8) (W.alloc (.cells Z8 5)) := fun W => by
    have h := run_make (P := Try.prog) (w := W) 22 5 i0 (.int .u8 0) Try.underlying22 hi0 hz0 .i64 .i64 8 8 (by omega) (by omega) (by rw [hz2]; omega) (by omega)
    rw [hz1] at h
    rw [h, ← hZ8]
    exact congrArg (fun X => Result.ok _ (W.alloc (.cells X 5))) (made8 8)
  have HZ := Aside0.mk (And.intro hZ.symm (And.intro hY hZ8.symm))
  have hdz : (List.replicate (b.length + 8) (0 : Int)).drop b.length = List.replicate 8 0 := by rw [List.drop_replicate]; congr 1; omega
  have HP0 := Aside0.mk (show ∀ {w' : World} {g : Nat}, w'.heap[g]? = some (.cells Y 5 (0, 0)) → Kd.C (Kd.int .u8) w' (some ⟨g, 0, none⟩) b.length b from fun hb => part8 (us := []) (ys := b) (zs := (List.replicate (b.length + 8) (0 : Int)).drop b.length) hb (by rw [hY]; rfl) rfl (by simp; omega))
  have HP1 := Aside0.mk (show ∀ {w' : World} {g : Nat}, w'.heap[g]? = some (.cells Y 5 (0, 0)) → Kd.C (Kd.int .u8) w' (some ⟨g, b.length, none⟩) 8 (List.replicate 8 0) from fun hb => part8 (us := b) (ys := List.replicate 8 0) (zs := []) hb (by rw [hY, hdz, List.append_nil]) rfl (by simp; omega))
  have HP8 := Aside0.mk (show ∀ {w' : World} {g : Nat}, w'.heap[g]? = some (.cells Z8 5 (0, 0)) → Kd.C (Kd.int .u8) w' (some ⟨g, 0, none⟩) 8 (List.replicate 8 0) from fun hb => part8 (us := []) (ys := List.replicate 8 0) (zs := []) hb (by rw [← hZ8]; rfl) rfl (by simp))
  have hil := item_len kind n bs
  have HBl := Aside0.mk (show b.length ≤ 1000000 by omega)
  obtain ⟨M, hM⟩ : ∃ M, (b ++ item kind n bs).length = M := ⟨_, rfl⟩
  have HOl := Aside0.mk (And.intro hM (show (b ++ item kind n bs).length ≤ 1000000 by rw [List.length_append]; omega))
  clear hM
  clear hdz hil
  have HRl := Aside0.mk (show b.length ≤ (List.replicate (b.length + 8) (0 : Int)).length by rw [List.length_replicate]; omega)
  clear hr hc hx he n0 n1 hb l hb3 hz0 hz1 hz2 hi0 hZ hY hZ8
  go_enter Try.func3, Try.ntmps3
  go_wp2_with (first
    | (go_at_call 10; refine (light_c (by repeat (with_reducible first | exact HS.out | apply sl_drewN | apply sl_drew | apply sl_box | apply sl_alloc)) _ 1 1 [(⟨kind, n, bs⟩ : S25)] rfl (HX.out (by first | rfl | simp) (sl_below0 (by repeat (with_reducible first | exact HS.out | apply sl_drewN | apply sl_drew | apply sl_box | apply sl_alloc)))) (Nat.le_refl 1)).mono ?_; rw [HL.out]; rintro e w1 ⟨rfl, hs⟩; (try simp only [World.size_alloc] at hs); replace HS := Aside0.mk hs; clear hs; (try clear hm0 hm1 hm2 hlt0); have hlt0 := blk_lt (sl_blk HS.out 0 rfl); have hm0 := c_at HS.out 0 rfl 0 rfl; have hm1 := c_at HS.out 0 rfl 1 rfl; have hm2 := c_at HS.out 0 rfl 2 rfl)
    | (refine copy8 (by repeat (with_reducible first | exact HS.out | apply sl_drewN | apply sl_drew | apply sl_box | apply sl_alloc)) 2 (List.replicate (b.length + 8) (0 : Int)) b rfl (.tmp 23) (.tmp 24) rfl rfl rfl rfl (Kd.C_below HR.out (sl_below0 (by repeat (with_reducible first | exact HS.out | apply sl_drewN | apply sl_drew | apply sl_box | apply sl_alloc)))) HZ.out.1 (by rfl) HRl.out HZ.out.2.1 ?_; (try clear hm0 hm1 hm2 hlt0); intro w3 hs; obtain ⟨gr, hgr⟩ : ∃ gr, w1.heap.size = gr := ⟨_, rfl⟩; rw [hgr] at hs ⊢; clear hgr; (try simp only [World.size_alloc] at hs); replace HS := Aside0.mk hs; clear hs; (try clear hm0 hm1 hm2 hlt0); have hlt0 := blk_lt (sl_blk HS.out 0 rfl); have hm0 := c_at HS.out 0 rfl 0 rfl; have hm1 := c_at HS.out 0 rfl 1 rfl; have hm2 := c_at HS.out 0 rfl 2 rfl)
    | (go_at_call 12; refine (put_m (by repeat (with_reducible first | exact HS.out | apply sl_drewN | apply sl_drew | apply sl_box | apply sl_alloc)) (some ⟨_, 0, none⟩) B (b.length + 8) e b bs kind n HOl.out.1 (HP0.out (sl_blk (by repeat (with_reducible first | exact HS.out | apply sl_drewN | apply sl_drew | apply sl_box | apply sl_alloc)) 2 (by rfl))) (by omega) (Kd.C_below HXx.out (sl_below0 (by repeat (with_reducible first | exact HS.out | apply sl_drewN | apply sl_drew | apply sl_box | apply sl_alloc)))) HN.out.1 HN.out.2 HB.out HBl.out (by have := HB3.out; omega)).mono ?_; rintro e_ w1 ⟨A3, c3, rfl, hs⟩; (try simp only [World.size_alloc] at hs); replace HS := Aside0.mk hs; clear hs; (try clear hm0 hm1 hm2 hlt0); have hlt0 := blk_lt (sl_blk HS.out 0 rfl); have hm0 := c_at HS.out 0 rfl 0 rfl; have hm1 := c_at HS.out 0 rfl 1 rfl; have hm2 := c_at HS.out 0 rfl 2 rfl))
  have p0 : (0 : Int) ≤ (b.length : Int) + 8 := by omega
  have p1 : ((b.length : Int) + 8).toNat = b.length + 8 := by omega
  have p2 : (b.length : Int) + 8 - (b.length : Int) = 8 := by omega
  have p3 : (b.length : Int) ≤ (b.length : Int) + 8 := by omega
  have p4 : wrap64 8 = 8 := by unfold wrap64; omega
  refine start_ (n := 30) (S := fun w' => w'.cell? ⟨w.heap.size, 0, none⟩ = some (.int .i64 kind) ∧ w'.cell? ⟨w.heap.size, 1, none⟩ = some (.int .u32 n) ∧ w'.cell? ⟨w.heap.size, 2, none⟩ = some (.slice B bs.length e)) (ds := [3, 4, 18, 19, 24, 27]) #[false, false, false, false, false, false, false, false, false, false, false, false, false, false, false, false, false, false, false, false, false, false, false, false, false, false, false, false, false, false] (by kernel_rfl) rfl rfl ⟨hm0, hm1, hm2⟩ (fun hHeld => ?_)
  refine pure_ (i := 0) (N := some 29) (v := ?_) (a' := ?_) #[true, false, false, false, false, false, false, false, false, false, false, false, false, false, false, false, false, false, false, false, false, false, false, false, false, false, false, false, false, false] rfl rfl (by kernel_rfl) (fun _ _ _ h => h) (Or.inl ⟨by rfl, ?_⟩) ?_ ?_
  rotate_left
  · intro w'
    go_simp
    with_reducible rfl
  rotate_left
  · simp only [Act.put, List.setIfInBounds_toArray, List.set_cons_zero, List.set_cons_succ, i64_w, i32_w, IntKind.wrap_u32, IntKind.wrap_u8, IntKind.wrap_u16]
    rfl
  refine pure_ (i := 1) (N := some 30) (v := ?_) (a' := ?_) #[true, true, false, false, false, false, false, false, false, false, false, false, false, false, false, false, false, false, false, false, false, false, false, false, false, false, false, false, false, false] rfl rfl (by kernel_rfl) (fun _ _ _ h => h) (Or.inl ⟨by rfl, ?_⟩) ?_ ?_
  rotate_left
  · intro w'
    go_simp
    with_reducible rfl
  rotate_left
  · simp only [Act.put, List.setIfInBounds_toArray, List.set_cons_zero, List.set_cons_succ, i64_w, i32_w, IntKind.wrap_u32, IntKind.wrap_u8, IntKind.wrap_u16]
    rfl
  refine take_ (i := 2) (N := some 31) (v := ?_) (a' := ?_) #[true, true, true, false, false, false, false, false, false, false, false, false, false, false, false, false, false, false, false, false, false, false, false, false, false, false, false, false, false, false] rfl rfl (by kernel_rfl) (fun _ _ _ h => h) (Or.inl ⟨by rfl, ?_⟩) hHeld ?_ ?_
  rotate_left
  · rintro w' ⟨s0, s1, s2⟩
    go_simp
    with_reducible rfl
  rotate_left
  · simp only [Act.put, List.setIfInBounds_toArray, List.set_cons_zero, List.set_cons_succ, i64_w, i32_w, IntKind.wrap_u32, IntKind.wrap_u8, IntKind.wrap_u16]
    rfl
  refine last_ (i := 3) (N := some 32) #[true, true, true, true, false, false, false, false, false, false, false, false, false, false, false, false, false, false, false, false, false, false, false, false, false, false, false, false, false, false] rfl rfl (by kernel_rfl) (by decide) (fun K hK => ?_)
  refine goes_ Try.func14 (by kernel_rfl) rfl #[.slice A b.length c, .agg #[.int .i64 kind, .int .u32 n, .slice B bs.length e]] (by rfl) rfl rfl (by (try simp only [List.map_toArray, List.map_cons, List.map_nil]); first | done | rfl) ?_
  with_reducible refine (want_m (sl_drew HS.out) A B c e b bs kind n HOl.out.1 (Kd.C_below HR.out (sl_below0 (sl_drew HS.out))) HC.out (Kd.C_below HXx.out (sl_below0 (sl_drew HS.out))) HE.out HN.out.1 HN.out.2 HB.out HBl.out (by have := HB3.out; omega)).mono ?_
  rintro e_ w4 ⟨A4, c4, rfl, hs4⟩
  refine ⟨_, rfl, ?_⟩
  refine hK.out _ _ ?_
  clear hK K
  refine norm_ (a' := ?_) ?_ ?_
  rotate_left
  · show Act.put _ (some 32) _ = _
    simp only [Act.put, List.setIfInBounds_toArray, List.set_cons_zero, List.set_cons_succ, i64_w, i32_w, IntKind.wrap_u32, IntKind.wrap_u8, IntKind.wrap_u16]
    rfl
  refine last_ (i := 4) (N := some 33) #[true, true, true, true, true, false, false, false, false, false, false, false, false, false, false, false, false, false, false, false, false, false, false, false, false, false, false, false, false, false] rfl rfl (by kernel_rfl) (by decide) (fun K hK => ?_)
  refine goes_ Try.func13 (by kernel_rfl) rfl #[.slice A3 M c3, .slice A4 M c4] (by rfl) rfl rfl (by (try simp only [List.map_toArray, List.map_cons, List.map_nil]); first | done | rfl) ?_
  with_reducible refine (same_t hs4 A3 A4 c3 c4 M _ HOl.out.1.symm (sl_readO hs4 3 rfl).2.2 (by have := (sl_readO hs4 3 rfl).2.1; have := HOl.out.1; omega) (sl_readO hs4 4 rfl).2.2 (by have := (sl_readO hs4 4 rfl).2.1; have := HOl.out.1; omega) HOl.out.2).mono ?_
  rintro e_ w5 ⟨rfl, hs5⟩
  refine ⟨_, rfl, ?_⟩
  refine hK.out _ _ ?_
  clear hK K
  refine norm_ (a' := ?_) ?_ ?_
  rotate_left
  · show Act.put _ (some 33) _ = _
    simp only [Act.put, List.setIfInBounds_toArray, List.set_cons_zero, List.set_cons_succ, i64_w, i32_w, IntKind.wrap_u32, IntKind.wrap_u8, IntKind.wrap_u16]
    rfl
  refine pure_ (i := 5) (N := some 34) (v := ?_) (a' := ?_) #[true, true, true, true, true, true, false, false, false, false, false, false, false, false, false, false, false, false, false, false, false, false, false, false, false, false, false, false, false, false] rfl rfl (by kernel_rfl) (fun _ _ _ h => h) (Or.inl ⟨by rfl, ?_⟩) ?_ ?_
  rotate_left
  · intro w'
    go_simp
    with_reducible rfl
  rotate_left
  · simp only [Act.put, List.setIfInBounds_toArray, List.set_cons_zero, List.set_cons_succ, i64_w, i32_w, IntKind.wrap_u32, IntKind.wrap_u8, IntKind.wrap_u16]
    rfl
  refine pure_ (i := 6) (N := some 35) (v := ?_) (a' := ?_) #[true, true, true, true, true, true, true, false, false, false, false, false, false, false, false, false, false, false, false, false, false, false, false, false, false, false, false, false, false, false] rfl rfl (by kernel_rfl) (fun _ _ _ h => h) (Or.inl ⟨by rfl, ?_⟩) ?_ ?_
  rotate_left
  · intro w'
    go_simp
    with_reducible rfl
  rotate_left
  · simp only [Act.put, List.setIfInBounds_toArray, List.set_cons_zero, List.set_cons_succ, i64_w, i32_w, IntKind.wrap_u32, IntKind.wrap_u8, IntKind.wrap_u16]
    rfl
  refine pure_ (i := 7) (N := some 36) (v := ?_) (a' := ?_) #[true, true, true, true, true, true, true, true, false, false, false, false, false, false, false, false, false, false, false, false, false, false, false, false, false, false, false, false, false, false] rfl rfl (by kernel_rfl) (fun _ _ _ h => h) (Or.inl ⟨by rfl, ?_⟩) ?_ ?_
  rotate_left
  · intro w'
    go_simp
    with_reducible rfl
  rotate_left
  · simp only [Act.put, List.setIfInBounds_toArray, List.set_cons_zero, List.set_cons_succ, i64_w, i32_w, IntKind.wrap_u32, IntKind.wrap_u8, IntKind.wrap_u16]
    rfl
  refine pure_ (i := 8) (N := some 37) (v := ?_) (a' := ?_) #[true, true, true, true, true, true, true, true, true, false, false, false, false, false, false, false, false, false, false, false, false, false, false, false, false, false, false, false, false, false] rfl rfl (by kernel_rfl) (fun _ _ _ h => h) (Or.inl ⟨by rfl, ?_⟩) ?_ ?_
  rotate_left
  · intro w'
    go_simp
    with_reducible rfl
  rotate_left
  · simp only [Act.put, List.setIfInBounds_toArray, List.set_cons_zero, List.set_cons_succ, i64_w, i32_w, IntKind.wrap_u32, IntKind.wrap_u8, IntKind.wrap_u16]
    rfl
  refine pure_ (i := 9) (N := some 38) (v := ?_) (a' := ?_) #[true, true, true, true, true, true, true, true, true, true, false, false, false, false, false, false, false, false, false, false, false, false, false, false, false, false, false, false, false, false] rfl rfl (by kernel_rfl) (fun _ _ _ h => h) (Or.inl ⟨by rfl, ?_⟩) ?_ ?_
  rotate_left
  · intro w'
    go_simp
    with_reducible rfl
  rotate_left
  · simp only [Act.put, List.setIfInBounds_toArray, List.set_cons_zero, List.set_cons_succ, i64_w, i32_w, IntKind.wrap_u32, IntKind.wrap_u8, IntKind.wrap_u16]
    rfl
  refine pure_ (i := 10) (N := some 39) (v := ?_) (a' := ?_) #[true, true, true, true, true, true, true, true, true, true, true, false, false, false, false, false, false, false, false, false, false, false, false, false, false, false, false, false, false, false] rfl rfl (by kernel_rfl) (fun _ _ _ h => h) (Or.inl ⟨by rfl, ?_⟩) ?_ ?_
  rotate_left
  · intro w'
    go_simp
    with_reducible rfl
  rotate_left
  · simp only [Act.put, List.setIfInBounds_toArray, List.set_cons_zero, List.set_cons_succ, i64_w, i32_w, IntKind.wrap_u32, IntKind.wrap_u8, IntKind.wrap_u16]
    rfl
  refine pure_ (i := 11) (N := some 40) (v := ?_) (a' := ?_) #[true, true, true, true, true, true, true, true, true, true, true, true, false, false, false, false, false, false, false, false, false, false, false, false, false, false, false, false, false, false] rfl rfl (by kernel_rfl) (fun _ _ _ h => h) (Or.inl ⟨by rfl, ?_⟩) ?_ ?_
  rotate_left
  · intro w'
    go_simp
    with_reducible rfl
  rotate_left
  · simp only [Act.put, List.setIfInBounds_toArray, List.set_cons_zero, List.set_cons_succ, i64_w, i32_w, IntKind.wrap_u32, IntKind.wrap_u8, IntKind.wrap_u16]
    rfl
  refine pure_ (i := 12) (N := some 41) (v := ?_) (a' := ?_) #[true, true, true, true, true, true, true, true, true, true, true, true, true, false, false, false, false, false, false, false, false, false, false, false, false, false, false, false, false, false] rfl rfl (by kernel_rfl) (fun _ _ _ h => h) (Or.inl ⟨by rfl, ?_⟩) ?_ ?_
  rotate_left
  · intro w'
    go_simp
    with_reducible rfl
  rotate_left
  · simp only [Act.put, List.setIfInBounds_toArray, List.set_cons_zero, List.set_cons_succ, i64_w, i32_w, IntKind.wrap_u32, IntKind.wrap_u8, IntKind.wrap_u16]
    rfl
  refine pure_ (i := 13) (N := some 42) (v := ?_) (a' := ?_) #[true, true, true, true, true, true, true, true, true, true, true, true, true, true, false, false, false, false, false, false, false, false, false, false, false, false, false, false, false, false] rfl rfl (by kernel_rfl) (fun _ _ _ h => h) (Or.inl ⟨by rfl, ?_⟩) ?_ ?_
  rotate_left
  · intro w'
    go_simp
    with_reducible rfl
  rotate_left
  · simp only [Act.put, List.setIfInBounds_toArray, List.set_cons_zero, List.set_cons_succ, i64_w, i32_w, IntKind.wrap_u32, IntKind.wrap_u8, IntKind.wrap_u16]
    rfl
  refine pure_ (i := 14) (N := some 43) (v := ?_) (a' := ?_) #[true, true, true, true, true, true, true, true, true, true, true, true, true, true, true, false, false, false, false, false, false, false, false, false, false, false, false, false, false, false] rfl rfl (by kernel_rfl) (fun _ _ _ h => h) (Or.inl ⟨by rfl, ?_⟩) ?_ ?_
  rotate_left
  · intro w'
    go_simp
    with_reducible rfl
  rotate_left
  · simp only [Act.put, List.setIfInBounds_toArray, List.set_cons_zero, List.set_cons_succ, i64_w, i32_w, IntKind.wrap_u32, IntKind.wrap_u8, IntKind.wrap_u16]
    rfl
  refine pure_ (i := 15) (N := some 44) (v := ?_) (a' := ?_) #[true, true, true, true, true, true, true, true, true, true, true, true, true, true, true, true, false, false, false, false, false, false, false, false, false, false, false, false, false, false] rfl rfl (by kernel_rfl) (fun _ _ _ h => h) (Or.inl ⟨by rfl, ?_⟩) ?_ ?_
  rotate_left
  · intro w'
    go_simp
    with_reducible rfl
  rotate_left
  · simp only [Act.put, List.setIfInBounds_toArray, List.set_cons_zero, List.set_cons_succ, i64_w, i32_w, IntKind.wrap_u32, IntKind.wrap_u8, IntKind.wrap_u16]
    rfl
  refine pure_ (i := 16) (N := some 45) (v := ?_) (a' := ?_) #[true, true, true, true, true, true, true, true, true, true, true, true, true, true, true, true, true, false, false, false, false, false, false, false, false, false, false, false, false, false] rfl rfl (by kernel_rfl) (fun _ _ _ h => h) (Or.inl ⟨by rfl, ?_⟩) ?_ ?_
  rotate_left
  · intro w'
    go_simp
    with_reducible rfl
  rotate_left
  · simp only [Act.put, List.setIfInBounds_toArray, List.set_cons_zero, List.set_cons_succ, i64_w, i32_w, IntKind.wrap_u32, IntKind.wrap_u8, IntKind.wrap_u16]
    rfl
  refine pure_ (i := 17) (N := some 46) (v := ?_) (a' := ?_) #[true, true, true, true, true, true, true, true, true, true, true, true, true, true, true, true, true, true, false, false, false, false, false, false, false, false, false, false, false, false] rfl rfl (by kernel_rfl) (fun _ _ _ h => h) (Or.inl ⟨by rfl, ?_⟩) ?_ ?_
  rotate_left
  · intro w'
    go_simp
    with_reducible rfl
  rotate_left
  · simp only [Act.put, List.setIfInBounds_toArray, List.set_cons_zero, List.set_cons_succ, i64_w, i32_w, IntKind.wrap_u32, IntKind.wrap_u8, IntKind.wrap_u16]
    rfl
  refine last_ (i := 18) (N := some 47) #[true, true, true, true, true, true, true, true, true, true, true, true, true, true, true, true, true, true, true, false, false, false, false, false, false, false, false, false, false, false] rfl rfl (by kernel_rfl) (by decide) (fun K hK => ?_)
  refine value_ (w1 := ?_) (v := ?_) (by rfl) rfl ?_ ?_
  rotate_left 2
  · go_simp
    constructor
    · rfl
    · rfl
  refine hK.out _ _ ?_
  clear hK K
  refine norm_ (a' := ?_) ?_ ?_
  rotate_left
  · show Act.put _ (some 47) _ = _
    simp only [Act.put, List.setIfInBounds_toArray, List.set_cons_zero, List.set_cons_succ, i64_w, i32_w, IntKind.wrap_u32, IntKind.wrap_u8, IntKind.wrap_u16]
    rfl
  refine last_ (i := 19) (N := some 48) #[true, true, true, true, true, true, true, true, true, true, true, true, true, true, true, true, true, true, true, true, false, false, false, false, false, false, false, false, false, false] rfl rfl (by kernel_rfl) (by decide) (fun K hK => ?_)
  refine goes_ Try.func13 (by kernel_rfl) rfl #[.slice (some ⟨gr, b.length, none⟩) 8 8, .slice (some ⟨w5.heap.size, 0, none⟩) 8 8] (by rfl) rfl rfl (by (try simp only [List.map_toArray, List.map_cons, List.map_nil]); first | done | rfl) ?_
  with_reducible refine (same_t (sl_box hs5 Z8 5) _ _ 8 8 8 (List.replicate 8 0) rfl (HP1.out (sl_blk (sl_box hs5 Z8 5) 2 rfl)) (Nat.le_of_eq List.length_replicate) (HP8.out (sl_blk (sl_box hs5 Z8 5) 5 rfl)) (Nat.le_of_eq List.length_replicate) (Nat.le_trans (Nat.le_of_eq List.length_replicate) (by decide))).mono ?_
  rintro e_ w6 ⟨rfl, hs6⟩
  refine ⟨_, rfl, ?_⟩
  refine hK.out _ _ ?_
  clear hK K
  refine norm_ (a' := ?_) ?_ ?_
  rotate_left
  · show Act.put _ (some 48) _ = _
    simp only [Act.put, List.setIfInBounds_toArray, List.set_cons_zero, List.set_cons_succ, i64_w, i32_w, IntKind.wrap_u32, IntKind.wrap_u8, IntKind.wrap_u16]
    rfl
  refine pure_ (i := 20) (N := some 49) (v := ?_) (a' := ?_) #[true, true, true, true, true, true, true, true, true, true, true, true, true, true, true, true, true, true, true, true, true, false, false, false, false, false, false, false, false, false] rfl rfl (by kernel_rfl) (fun _ _ _ h => h) (Or.inl ⟨by rfl, ?_⟩) ?_ ?_
  rotate_left
  · intro w'
    go_simp
    with_reducible rfl
  rotate_left
  · simp only [Act.put, List.setIfInBounds_toArray, List.set_cons_zero, List.set_cons_succ, i64_w, i32_w, IntKind.wrap_u32, IntKind.wrap_u8, IntKind.wrap_u16]
    rfl
  refine pure_ (i := 21) (N := some 50) (v := ?_) (a' := ?_) #[true, true, true, true, true, true, true, true, true, true, true, true, true, true, true, true, true, true, true, true, true, true, false, false, false, false, false, false, false, false] rfl rfl (by kernel_rfl) (fun _ _ _ h => h) (Or.inl ⟨by rfl, ?_⟩) ?_ ?_
  rotate_left
  · intro w'
    go_simp
    with_reducible rfl
  rotate_left
  · simp only [Act.put, List.setIfInBounds_toArray, List.set_cons_zero, List.set_cons_succ, i64_w, i32_w, IntKind.wrap_u32, IntKind.wrap_u8, IntKind.wrap_u16]
    rfl
  refine pure_ (i := 22) (N := some 51) (v := ?_) (a' := ?_) #[true, true, true, true, true, true, true, true, true, true, true, true, true, true, true, true, true, true, true, true, true, true, true, false, false, false, false, false, false, false] rfl rfl (by kernel_rfl) (fun _ _ _ h => h) (Or.inl ⟨by rfl, ?_⟩) ?_ ?_
  rotate_left
  · intro w'
    go_simp
    with_reducible rfl
  rotate_left
  · simp only [Act.put, List.setIfInBounds_toArray, List.set_cons_zero, List.set_cons_succ, i64_w, i32_w, IntKind.wrap_u32, IntKind.wrap_u8, IntKind.wrap_u16]
    rfl
  refine pure_ (i := 23) (N := some 52) (v := ?_) (a' := ?_) #[true, true, true, true, true, true, true, true, true, true, true, true, true, true, true, true, true, true, true, true, true, true, true, true, false, false, false, false, false, false] rfl rfl (by kernel_rfl) (fun _ _ _ h => h) (Or.inl ⟨by rfl, ?_⟩) ?_ ?_
  rotate_left
  · intro w'
    go_simp
    with_reducible rfl
  rotate_left
  · simp only [Act.put, List.setIfInBounds_toArray, List.set_cons_zero, List.set_cons_succ, i64_w, i32_w, IntKind.wrap_u32, IntKind.wrap_u8, IntKind.wrap_u16]
    rfl
  refine last_ (i := 24) (N := some 53) #[true, true, true, true, true, true, true, true, true, true, true, true, true, true, true, true, true, true, true, true, true, true, true, true, true, false, false, false, false, false] rfl rfl (by kernel_rfl) (by decide) (fun K hK => ?_)
  refine goes_ Try.func13 (by kernel_rfl) rfl #[.slice (some ⟨gr, 0, none⟩) b.length (b.length + 8), .slice A b.length c] (by rfl) rfl rfl (by (try simp only [List.map_toArray, List.map_cons, List.map_nil]); first | done | rfl) ?_
  with_reducible refine (same_t hs6 _ A _ c b.length b rfl (HP0.out (sl_blk hs6 2 rfl)) (by omega) (Kd.C_below HR.out (sl_below0 hs6)) HC.out HBl.out).mono ?_
  rintro e_ w7 ⟨rfl, hs7⟩
  refine ⟨_, rfl, ?_⟩
  refine hK.out _ _ ?_
  clear hK K
  refine norm_ (a' := ?_) ?_ ?_
  rotate_left
  · show Act.put _ (some 53) _ = _
    simp only [Act.put, List.setIfInBounds_toArray, List.set_cons_zero, List.set_cons_succ, i64_w, i32_w, IntKind.wrap_u32, IntKind.wrap_u8, IntKind.wrap_u16]
    rfl
  refine pure_ (i := 25) (N := some 54) (v := ?_) (a' := ?_) #[true, true, true, true, true, true, true, true, true, true, true, true, true, true, true, true, true, true, true, true, true, true, true, true, true, true, false, false, false, false] rfl rfl (by kernel_rfl) (fun _ _ _ h => h) (Or.inl ⟨by rfl, ?_⟩) ?_ ?_
  rotate_left
  · intro w'
    go_simp
    with_reducible rfl
  rotate_left
  · simp only [Act.put, List.setIfInBounds_toArray, List.set_cons_zero, List.set_cons_succ, i64_w, i32_w, IntKind.wrap_u32, IntKind.wrap_u8, IntKind.wrap_u16]
    rfl
  refine pure_ (i := 26) (N := some 55) (v := ?_) (a' := ?_) #[true, true, true, true, true, true, true, true, true, true, true, true, true, true, true, true, true, true, true, true, true, true, true, true, true, true, true, false, false, false] rfl rfl (by kernel_rfl) (fun _ _ _ h => h) (Or.inl ⟨by rfl, ?_⟩) ?_ ?_
  rotate_left
  · intro w'
    go_simp
    with_reducible rfl
  rotate_left
  · simp only [Act.put, List.setIfInBounds_toArray, List.set_cons_zero, List.set_cons_succ, i64_w, i32_w, IntKind.wrap_u32, IntKind.wrap_u8, IntKind.wrap_u16]
    rfl
  refine last_ (i := 27) (N := some 56) #[true, true, true, true, true, true, true, true, true, true, true, true, true, true, true, true, true, true, true, true, true, true, true, true, true, true, true, true, false, false] rfl rfl (by kernel_rfl) (by decide) (fun K hK => ?_)
  refine goes_ Try.func11 (by kernel_rfl) rfl #[] (by rfl) rfl rfl (by (try simp only [List.map_toArray, List.map_cons, List.map_nil]); first | done | rfl) ?_
  with_reducible refine (ex_c hs7).mono ?_
  rintro e_ w8 ⟨rfl, hs8⟩
  refine ⟨_, rfl, ?_⟩
  refine hK.out _ _ ?_
  clear hK K
  refine norm_ (a' := ?_) ?_ ?_
  rotate_left
  · show Act.put _ (some 56) _ = _
    simp only [Act.put, List.setIfInBounds_toArray, List.set_cons_zero, List.set_cons_succ, i64_w, i32_w, IntKind.wrap_u32, IntKind.wrap_u8, IntKind.wrap_u16]
    rfl
  refine pure_ (i := 28) (N := some 57) (v := ?_) (a' := ?_) #[true, true, true, true, true, true, true, true, true, true, true, true, true, true, true, true, true, true, true, true, true, true, true, true, true, true, true, true, true, false] rfl rfl (by kernel_rfl) (fun _ _ _ h => h) (Or.inl ⟨by rfl, ?_⟩) ?_ ?_
  rotate_left
  · intro w'
    go_simp
    with_reducible rfl
  rotate_left
  · simp only [Act.put, List.setIfInBounds_toArray, List.set_cons_zero, List.set_cons_succ, i64_w, i32_w, IntKind.wrap_u32, IntKind.wrap_u8, IntKind.wrap_u16]
    rfl
  refine pure_ (i := 29) (N := some 4) (v := ?_) (a' := ?_) #[true, true, true, true, true, true, true, true, true, true, true, true, true, true, true, true, true, true, true, true, true, true, true, true, true, true, true, true, true, true] rfl rfl (by kernel_rfl) (fun _ _ _ h => h) (Or.inl ⟨by rfl, ?_⟩) ?_ ?_
  rotate_left
  · intro w'
    go_simp
    with_reducible rfl
  rotate_left
  · simp only [Act.put, List.setIfInBounds_toArray, List.set_cons_zero, List.set_cons_succ, i64_w, i32_w, IntKind.wrap_u32, IntKind.wrap_u8, IntKind.wrap_u16]
    rfl
  refine done_ (by kernel_rfl) ?_
  go_wp2_with (fail)
  go_ret
  exact ⟨rfl, sl_below0 hs8⟩
end Go.Proofs.Ytmihibikhmldgaa.Q
