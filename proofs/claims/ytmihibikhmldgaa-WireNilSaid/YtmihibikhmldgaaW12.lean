import Derived.WalkSpells
import Derived.Test.YtmihibikhmldgaaW11
namespace Go.Proofs.Ytmihibikhmldgaa.Q
open Go.RowKit Go.Proofs.YtmihibikhmldgaaW.PrintWords Go.Proofs.YtmihibikhmldgaaW.PrintLast Go.Proofs.YtmihibikhmldgaaW.PrintMore Go.Proofs.Ytmihibikhmldgaa.Sl Go.Proofs.Ytmihibikhmldgaa.Hand 
attribute [local go_sem] max2_int min2_int max_two min_two max_three min_three max_four min_four 
set_option linter.unusedVariables false
set_option linter.unusedSimpArgs false

theorem zero_at {u : List Int} {n N : Nat} (h : ((u.take N).drop n).all (· == 0) = true) {i : Nat} (hi : n + i < N) (hN : N ≤ u.length) : rd u ((n + i : Nat) : Int) = 0 := by
  rw [List.all_eq_true] at h
  have h1 : ((u.take N).drop n)[i]? = some (rd u ((n + i : Nat) : Int)) := by
    rw [List.getElem?_drop, List.getElem?_take, if_pos hi]
    unfold rd
    rw [Int.toNat_natCast, List.getD_eq_getElem?_getD, List.getElem?_eq_getElem (by omega)]
    rfl
  have := h _ (List.mem_of_getElem? h1)
  simpa using this
theorem clean_of {u : List Int} {n N : Nat} (hN : N ≤ u.length) (h : ∀ i, n + i < N → rd u ((n + i : Nat) : Int) = 0) : ((u.take N).drop n).all (· == 0) = true := by
  rw [List.all_eq_true]
  intro x hx
  obtain ⟨i, hi⟩ := List.getElem?_of_mem hx
  rw [List.getElem?_drop, List.getElem?_take] at hi
  split at hi
  · rename_i hlt
    have := h i hlt
    unfold rd at this
    rw [Int.toNat_natCast, List.getD_eq_getElem?_getD, hi] at this
    simpa using this
  · cases hi
set_option maxHeartbeats 4000000 in
set_option maxRecDepth 100000 in
theorem Array_e4 {w0 w : World} {R : Res} (g : Nat) (s : RSt) (most : Int) (hs : SL w0 w [rdS g s, R]) (u : List Int) (hS : uintS s = ⟨u, 0⟩) (n p : Nat) (hn : uintV s = (n : Int)) (hp : padN (n : Int) = (p : Int)) (n0 : 0 < n) (p3 : p ≤ 3) (n1 : n < 4294967296) (hm : (n : Int) ≤ most) (hl : n + p ≤ u.length) (hu : u.length ≤ 1000000) :
    Calls Try.prog 26 #[.pointer (some ⟨g, 0, none⟩), .int .i64 most] w fun e w' => (((u.take (n + p)).drop n).all (· == 0) = true ∧ ∃ A c, e = .returned (.slice A n c) ∧ SL w0 w' [rdR g (u.drop (n + p)) 0, R, row8 (.slice A n c) (u.take n)]) ∨ (((u.take (n + p)).drop n).all (· == 0) = false ∧ e = .returned (.slice none 0 0) ∧ SL w0 w' [rdR g [] 3, R]) := by
  have HS := Aside0.mk hs
  have hnil := fun (w : World) (a : Option Addr) (n c : Nat) => Lib.run_eql_slice_nil (P := Try.prog) w 22 5 a n c 0 0 Try.underlying22
  have HE := Aside0.mk hS
  have HN := Aside0.mk hn
  have hw : wrap64 ((n : Int) + padN (n : Int)) = ((n + p : Nat) : Int) := by rw [hp]; unfold wrap64; omega
  have HP := Aside0.mk (show padN (n : Int) = (p : Int) from hp)
  have HB := Aside0.mk (show (0 : Int) ≤ (n : Int) ∧ (n : Int) < 4294967296 by omega)
  have HT := Aside0.mk (show ∀ {w' : World}, SL w0 w' [rdR g u 0, R] → Calls Try.prog 45 #[.pointer (some ⟨g, 0, none⟩), .int .i64 (wrap64 ((n : Int) + padN (n : Int)))] w' fun e w'' => ∃ ad, e = .returned (.slice (some ad) (n + p) (n + p)) ∧ SL w0 w'' [rdR g (u.drop (n + p)) 0, R] ∧ Kd.C (Kd.int .u8) w'' (some ad) (n + p) (u.take (n + p)) from fun hs => by
    rw [hw]
    exact take_in g u 0 (n + p) hs hl (by omega))
  have HL := Aside0.mk hl
  have HU := Aside0.mk hu
  have bz : ((0 : Int) == 0) = true := rfl
  have b3 : decide (most < (n : Int)) = false := decide_eq_false (by omega)
  have b5 : ¬ most < 0 := by omega
  clear hs hS hn hp hw hl hu
  go_enter Try.func26, Try.ntmps26
  go_upto_region 7 with (first
    | (go_at_call 20; refine (Uint_in g s (by repeat (with_reducible first | exact HS.out | apply sl_drewN | apply sl_drew | apply sl_alloc))).mono ?_; rw [HN.out, HE.out]; rintro e w1 ⟨rfl, hs⟩; replace HS := Aside0.mk (show SL w0 w1 [rdR g u 0, R] from hs); clear hs)
    | (go_at_call 44; refine (usable_in (s := ⟨u, 0⟩) (by repeat (with_reducible first | exact HS.out | apply sl_drewN | apply sl_drew | apply sl_alloc))).mono ?_; rintro e w2 ⟨rfl, hs⟩; replace HS := Aside0.mk (show SL w0 w2 [rdR g u 0, R] from hs); clear hs))
  refine start_ (n := 9) (S := fun w' => w'.heap.size = w'.heap.size) (ds := []) #[false, false, false, false, false, false, false, false, false] (by kernel_rfl) rfl rfl (rfl) (fun hHeld => ?_)
  refine pure_ (i := 0) (N := some 23) (v := ?_) (a' := ?_) #[true, false, false, false, false, false, false, false, false] rfl rfl (by kernel_rfl) (fun _ _ _ h => h) (Or.inl ⟨by rfl, ?_⟩) ?_ ?_
  rotate_left
  · intro w'
    go_simp
    with_reducible rfl
  rotate_left
  · simp only [Act.put, List.setIfInBounds_toArray, List.set_cons_zero, List.set_cons_succ, i64_w, i32_w, IntKind.wrap_u32, IntKind.wrap_u8, IntKind.wrap_u16]
    rfl
  refine pure_ (i := 1) (N := some 24) (v := ?_) (a' := ?_) #[true, true, false, false, false, false, false, false, false] rfl rfl (by kernel_rfl) (fun _ _ _ h => h) (Or.inl ⟨by rfl, ?_⟩) ?_ ?_
  rotate_left
  · intro w'
    go_simp
    with_reducible rfl
  rotate_left
  · simp only [Act.put, List.setIfInBounds_toArray, List.set_cons_zero, List.set_cons_succ, i64_w, i32_w, IntKind.wrap_u32, IntKind.wrap_u8, IntKind.wrap_u16]
    rfl
  refine pure_ (i := 2) (N := some 25) (v := ?_) (a' := ?_) #[true, true, true, false, false, false, false, false, false] rfl rfl (by kernel_rfl) (fun _ _ _ h => h) (Or.inl ⟨by rfl, ?_⟩) ?_ ?_
  rotate_left
  · intro w'
    go_simp
    with_reducible rfl
  rotate_left
  · simp only [Act.put, List.setIfInBounds_toArray, List.set_cons_zero, List.set_cons_succ, i64_w, i32_w, IntKind.wrap_u32, IntKind.wrap_u8, IntKind.wrap_u16]
    rfl
  refine pure_ (i := 3) (N := some 26) (v := ?_) (a' := ?_) #[true, true, true, true, false, false, false, false, false] rfl rfl (by kernel_rfl) (fun _ _ _ h => h) (Or.inl ⟨by rfl, ?_⟩) ?_ ?_
  rotate_left
  · intro w'
    go_simp
    with_reducible rfl
  rotate_left
  · simp only [Act.put, List.setIfInBounds_toArray, List.set_cons_zero, List.set_cons_succ, i64_w, i32_w, IntKind.wrap_u32, IntKind.wrap_u8, IntKind.wrap_u16]
    rfl
  refine pure_ (i := 4) (N := some 27) (v := ?_) (a' := ?_) #[true, true, true, true, true, false, false, false, false] rfl rfl (by kernel_rfl) (fun _ _ _ h => h) (Or.inl ⟨by rfl, ?_⟩) ?_ ?_
  rotate_left
  · intro w'
    go_simp
    with_reducible rfl
  rotate_left
  · simp only [Act.put, List.setIfInBounds_toArray, List.set_cons_zero, List.set_cons_succ, i64_w, i32_w, IntKind.wrap_u32, IntKind.wrap_u8, IntKind.wrap_u16]
    rfl
  refine one_ (i := 5) (N := some 28) #[true, true, true, true, true, true, false, false, false] rfl rfl (by kernel_rfl) (by decide) (fun K hK => ?_)
  refine goes_ Try.func49 (by kernel_rfl) rfl #[.int .i64 (n : Int)] (by rfl) rfl rfl (by (try simp only [List.map_toArray, List.map_cons, List.map_nil]); first | done | rfl) ?_
  with_reducible refine (padding_i (n : Int) _ HB.out.1 HB.out.2).mono ?_
  rintro e w3 ⟨rfl, rfl⟩
  refine ⟨_, rfl, ?_⟩
  refine hK.out _ _ (rfl) (fun hHeld => ?_)
  clear hK K
  refine norm_ (a' := ?_) ?_ ?_
  rotate_left
  · show Act.put _ (some 28) _ = _
    simp only [Act.put, List.setIfInBounds_toArray, List.set_cons_zero, List.set_cons_succ, i64_w, i32_w, IntKind.wrap_u32, IntKind.wrap_u8, IntKind.wrap_u16]
    rfl
  refine pure_ (i := 6) (N := some 29) (v := ?_) (a' := ?_) #[true, true, true, true, true, true, true, false, false] rfl rfl (by kernel_rfl) (fun _ _ _ h => h) (Or.inl ⟨by rfl, ?_⟩) ?_ ?_
  rotate_left
  · intro w'
    go_simp
    with_reducible rfl
  rotate_left
  · simp only [Act.put, List.setIfInBounds_toArray, List.set_cons_zero, List.set_cons_succ, i64_w, i32_w, IntKind.wrap_u32, IntKind.wrap_u8, IntKind.wrap_u16]
    rfl
  refine one_ (i := 7) (N := some 30) #[true, true, true, true, true, true, true, true, false] rfl rfl (by kernel_rfl) (by decide) (fun K hK => ?_)
  refine goes_ Try.func45 (by kernel_rfl) rfl #[.pointer (some ⟨g, 0, none⟩), .int .i64 (wrap64 ((n : Int) + padN (n : Int)))] (by rfl) rfl rfl (by (try simp only [List.map_toArray, List.map_cons, List.map_nil]); first | done | rfl) ?_
  with_reducible refine (HT.out (sl_drew HS.out)).mono ?_
  rintro e w4 ⟨ad, rfl, hs4, hC4⟩
  refine ⟨_, rfl, ?_⟩
  refine hK.out _ _ (rfl) (fun hHeld => ?_)
  clear hK K
  refine norm_ (a' := ?_) ?_ ?_
  rotate_left
  · show Act.put _ (some 30) _ = _
    simp only [Act.put, List.setIfInBounds_toArray, List.set_cons_zero, List.set_cons_succ, i64_w, i32_w, IntKind.wrap_u32, IntKind.wrap_u8, IntKind.wrap_u16]
    rfl
  refine pure_ (i := 8) (N := some 6) (v := ?_) (a' := ?_) #[true, true, true, true, true, true, true, true, true] rfl rfl (by kernel_rfl) (fun _ _ _ h => h) (Or.inl ⟨by rfl, ?_⟩) ?_ ?_
  rotate_left
  · intro w'
    go_simp
    with_reducible rfl
  rotate_left
  · simp only [Act.put, List.setIfInBounds_toArray, List.set_cons_zero, List.set_cons_succ, i64_w, i32_w, IntKind.wrap_u32, IntKind.wrap_u8, IntKind.wrap_u16]
    rfl
  refine done_ (by kernel_rfl) ?_
  replace HS := Aside0.mk hs4
  clear hs4
  obtain ⟨bs, ebs⟩ : ∃ bs, (u.take (n + p)).drop n = bs := ⟨_, rfl⟩
  have hbl : bs.length = p := by rw [← ebs, List.length_drop, List.length_take]; have := HL.out; omega
  have hC5 : Kd.C (Kd.int .u8) w4 (some ad) (u.take (n + p)).length (u.take (n + p)) := by rw [List.length_take, Nat.min_eq_left HL.out]; exact hC4
  have HCn := Aside0.mk (show Kd.C (Kd.int .u8) w4 (some ad) n (u.take n) by
    have h1 := Kd.C_take hC5 (show n ≤ (u.take (n + p)).length by rw [List.length_take, Nat.min_eq_left HL.out]; omega)
    rw [List.take_take, Nat.min_eq_left (by omega : n ≤ n + p), List.length_take, Nat.min_eq_left (by have := HL.out; omega)] at h1
    exact h1)
  have HEb := Aside0.mk ebs
  have p1 : (0 : Int) ≤ (n : Int) := by omega
  have p2 : (n : Int) ≤ (n : Int) + (p : Int) := by omega
  by_cases hp0 : p = 0
  · subst hp0
    clear hC4 hC5 ebs
    go_wp2_with (fail)
    go_loopg [37] 0 (fun kq v37 wr => v37 = .int .i64 0 ∧ Aside0 (SL w0 wr [rdR g (u.drop (n + 0)) 0, R] ∧ Kd.C (Kd.int .u8) wr (some ad) n (u.take n)))
    case atStart => exact ⟨rfl, ⟨(by repeat (with_reducible first | exact HS.out | apply sl_drewN | apply sl_drew | apply sl_alloc)), HCn.out⟩⟩
    case round =>
      obtain ⟨rfl, HW⟩ := hrel
      clear HS HCn
      have HS := Aside0.mk HW.out.1
      have c1 : decide ((0 : Int) < 0) = false := rfl
      go_wp2_with (first | (at_builtin; refine app8n (by repeat (with_reducible first | exact HS.out | apply sl_drewN | apply sl_drew | apply sl_alloc)) (u.take n) rfl (.const (.slice none 0 0)) (.tmp 50) rfl rfl rfl (B := some ad) (m := n) HW.out.2 (by have := HL.out; have := HU.out; omega) ?_; intro A1 c1 w6 hs; replace HS := Aside0.mk hs; clear hs))
      try rw [Exit.noGoto_ret]
      go_ret
      refine .inl ⟨?_, A1, c1, ?_, ?_⟩
      · rw [HEb.out, List.eq_nil_of_length_eq_zero hbl]
        rfl
      · rw [Nat.min_eq_left (by have := HL.out; omega)]
        rfl
      · have hln : (u.take n).length = n := by rw [List.length_take]; have := HL.out; omega
        have hs := HS.out
        rw [hln] at hs
        exact hs
  · have hcn : (n + p = n) = False := eq_false (by omega)
    have HC := Aside0.mk (show Kd.C (Kd.int .u8) w4 (some (ad.add n)) p bs by
      have h1 := drop8 (c := n + p) (k := n) (m := n + p) hC5 (by rw [List.length_take]; omega) (by rw [List.length_take]; have := HL.out; omega) (by rw [List.length_take, Nat.min_eq_left HL.out])
      rw [if_neg (by omega), ebs, Nat.add_sub_cancel_left] at h1
      exact h1)
    clear hC4 hC5 ebs
    go_wp2_with (fail)
    go_loopg [37] p (fun kq v37 wr => ∃ i : Nat, v37 = .int .i64 (i : Int) ∧ Aside0 (i + kq = p) ∧ Aside0 (∀ j : Nat, j < i → rd bs (j : Int) = 0) ∧ Aside0 (SL w0 wr [rdR g (u.drop (n + p)) 0, R] ∧ Kd.C (Kd.int .u8) wr (some ad) n (u.take n) ∧ Kd.C (Kd.int .u8) wr (some (ad.add n)) p bs))
    case atStart => exact ⟨0, rfl, ⟨by omega⟩, ⟨fun j hj => by omega⟩, ⟨(by repeat (with_reducible first | exact HS.out | apply sl_drewN | apply sl_drew | apply sl_alloc)), HCn.out, HC.out⟩⟩
    case round =>
      obtain ⟨i, rfl, HI, HJ, HW⟩ := hrel
      have hi := HI.out
      clear HS HCn HC
      have HS := Aside0.mk HW.out.1
      by_cases hlt : i < p
      · have c1 : decide (i < p) = true := decide_eq_true hlt
        obtain ⟨kq, rfl⟩ : ∃ m, gk = m + 1 := ⟨gk - 1, by omega⟩
        obtain ⟨ad2, e2, x0⟩ := Kd.at_int HW.out.2.2 (i : Int) (by omega) (by omega)
        injection e2 with e2
        subst e2
        rw [Int.toNat_natCast] at x0
        have q1 : (0 : Int) ≤ (i : Int) := by omega
        have q2 : (i : Int) < (p : Int) := by omega
        obtain ⟨x, ex⟩ : ∃ x, rd bs (i : Int) = x := ⟨_, rfl⟩
        rw [ex] at x0
        have HX := Aside0.mk ex
        have HLt := Aside0.mk hlt
        clear ex hlt
        by_cases hx : x = 0
        · have hb : (x != 0) = false := by simp [hx]
          have HX0 := Aside0.mk hx
          clear hx
          go_wp2_with (fail)
          go_roundg kq
          case measure => omega
          case rel =>
            refine ⟨i + 1, rfl, ⟨by have := HI.out; omega⟩, ⟨fun j hj => ?_⟩, HW⟩
            by_cases hj2 : j < i
            · exact HJ.out j hj2
            · obtain rfl : j = i := by omega
              rw [HX.out]
              exact HX0.out
        · have hb : (x != 0) = true := bne_iff_ne.2 hx
          have HX0 := Aside0.mk hx
          clear hx
          go_wp2_with (first | (go_at_call 46; refine (fail_in g _ _ 3 (by repeat (with_reducible first | exact HS.out | apply sl_drewN | apply sl_drew | apply sl_alloc))).mono ?_; rintro e w5 ⟨rfl, hs⟩; replace HS := Aside0.mk hs; clear hs))
          try rw [Exit.noGoto_ret]
          go_ret
          refine .inr ⟨?_, rfl, HS.out⟩
          rw [HEb.out]
          refine Bool.eq_false_iff.2 fun hall => HX0.out ?_
          rw [List.all_eq_true] at hall
          have hm_ : rd bs (i : Int) ∈ bs := by
            unfold rd
            rw [Int.toNat_natCast, List.getD_eq_getElem?_getD, List.getElem?_eq_getElem (by have := HLt.out; omega)]
            exact List.getElem_mem _
          have := hall _ hm_
          rw [HX.out] at this
          simpa using this
      · have c1 : decide (i < p) = false := decide_eq_false hlt
        obtain rfl : i = p := by omega
        clear hlt hi
        go_wp2_with (first | (at_builtin; refine app8n (by repeat (with_reducible first | exact HS.out | apply sl_drewN | apply sl_drew | apply sl_alloc)) (u.take n) rfl (.const (.slice none 0 0)) (.tmp 50) rfl rfl rfl (B := some ad) (m := n) HW.out.2.1 (by have := HL.out; have := HU.out; omega) ?_; intro A1 c1 w6 hs; replace HS := Aside0.mk hs; clear hs))
        try rw [Exit.noGoto_ret]
        go_ret
        refine .inl ⟨?_, A1, c1, ?_, ?_⟩
        · rw [HEb.out, List.all_eq_true]
          intro x hx
          obtain ⟨j, hj⟩ := List.getElem?_of_mem hx
          have hjl := (List.getElem?_eq_some_iff.1 hj).1
          have := HJ.out j (by omega)
          unfold rd at this
          rw [Int.toNat_natCast, List.getD_eq_getElem?_getD, hj] at this
          simpa using this
        · have hln : (u.take n).length = n := by rw [List.length_take]; have := HL.out; omega
          rw [Nat.min_eq_left (by have := HL.out; omega)]
          rfl
        · have hln : (u.take n).length = n := by rw [List.length_take]; have := HL.out; omega
          have hs := HS.out
          rw [hln] at hs
          exact hs
end Go.Proofs.Ytmihibikhmldgaa.Q
