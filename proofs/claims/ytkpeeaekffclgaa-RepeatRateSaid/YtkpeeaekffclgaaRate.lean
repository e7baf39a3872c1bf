import Derived.Test.YtkpeeaekffclgaaPlainB
import Derived.Test.YtkpeeaekffclgaaQx13
import Derived.Test.YtkpeeaekffclgaaQx25
import Derived.Test.YtkpeeaekffclgaaQx26
import Derived.Test.YtkpeeaekffclgaaHand
namespace Go.Proofs.Ytkpeeaekffclgaa.Q
open Go.RowKit Go.Proofs.YtkpeeaekffclgaaW.PrintWords Go.Proofs.YtkpeeaekffclgaaW.PrintLast Go.Proofs.YtkpeeaekffclgaaW.PrintMore Go.Proofs.Ytkpeeaekffclgaa.Plain
attribute [local go_sem] max2_int min2_int max_two min_two max_three min_three max_four min_four 
set_option linter.unusedVariables false
set_option linter.unusedSimpArgs false

theorem ex37r : compositorlaw37_exampleHolds.f 40 = some true := by kernel_rfl
/-- The two ways in which RepeatRate ends early. -/
def okRate (r d c n s : Int) : Prop := okAsk r d c n ∧ 0 ≤ s ∧ s ≤ 60000
set_option maxHeartbeats 8000000 in
set_option maxRecDepth 100000 in
theorem RepeatRate.early (r d c n s : Int) (w : World) (h : ¬ okRate r d c n s) :
    Calls Try.prog 6 #[.agg #[.int .i64 r, .int .i64 d, .int .i64 c, .int .i64 n], .int .i64 s] w fun e w' => e = .returned (.bool true) ∧ Below w.heap.size w w' := by
  have HV := Aside0.mk (valid_f r d c n)
  by_cases hk : okAsk r d c n
  · have hv : decide (okAsk r d c n) = true := decide_eq_true hk
    by_cases h1 : s < 0
    · have b1 : decide (s < 0) = true := decide_eq_true h1
      clear h hk h1
      go_enter Try.func6, Try.ntmps6
      go_wp2_with (first
        | ((with_reducible refine gate_dst (N := 2) rfl ?_); refine box_event ?hg (N := 2) ?hd (cs := #[.int .i64 r, .int .i64 d, .int .i64 c, .int .i64 n]) (t := 48) ?hr ?_; (case hd => rfl); (case hg => rfl); (case hr => first | (go_simp; done) | (go_simp; rfl)); intro gx hg w1 hbox hb; have HB1 := Aside0.mk hb; have h0 := blk_cell hbox 0; have h1 := blk_cell hbox 1; have h2 := blk_cell hbox 2; have h3 := blk_cell hbox 3; simp only [List.getElem?_toArray, List.getElem?_cons_zero, List.getElem?_cons_succ] at h0 h1 h2 h3; clear hbox hb hg)
        | (go_at_call 23; refine (compositorlaw37_valid.calls r d c n _ _ HV.out).mono ?_; rintro e w2 ⟨rfl, hb⟩; rw [hv]; have HB2 := Aside0.mk (below_step HB1.out hb); clear hb)
        | (go_at_call 11; refine (compositorlaw37_exampleHolds.calls 40 true _ ex37r).mono ?_; rintro e w3 ⟨rfl, hb⟩; have HB3 := Aside0.mk (below_step HB2.out hb); clear hb))
      go_ret
      exact ⟨rfl, HB3.out⟩
    have b1 : decide (s < 0) = false := decide_eq_false h1
    have hh : ¬ (0 ≤ s ∧ s ≤ 60000) := fun hh => h ⟨hk, hh.1, hh.2⟩
    have b2 : decide (60000 < s) = true := decide_eq_true (by omega)
    clear hh
    clear h hk h1
    go_enter Try.func6, Try.ntmps6
    go_wp2_with (first
      | ((with_reducible refine gate_dst (N := 2) rfl ?_); refine box_event ?hg (N := 2) ?hd (cs := #[.int .i64 r, .int .i64 d, .int .i64 c, .int .i64 n]) (t := 48) ?hr ?_; (case hd => rfl); (case hg => rfl); (case hr => first | (go_simp; done) | (go_simp; rfl)); intro gx hg w1 hbox hb; have HB1 := Aside0.mk hb; have h0 := blk_cell hbox 0; have h1 := blk_cell hbox 1; have h2 := blk_cell hbox 2; have h3 := blk_cell hbox 3; simp only [List.getElem?_toArray, List.getElem?_cons_zero, List.getElem?_cons_succ] at h0 h1 h2 h3; clear hbox hb hg)
      | (go_at_call 23; refine (compositorlaw37_valid.calls r d c n _ _ HV.out).mono ?_; rintro e w2 ⟨rfl, hb⟩; rw [hv]; have HB2 := Aside0.mk (below_step HB1.out hb); clear hb)
      | (go_at_call 11; refine (compositorlaw37_exampleHolds.calls 40 true _ ex37r).mono ?_; rintro e w3 ⟨rfl, hb⟩; have HB3 := Aside0.mk (below_step HB2.out hb); clear hb))
    go_ret
    exact ⟨rfl, HB3.out⟩
  · have hv : decide (okAsk r d c n) = false := decide_eq_false hk
    clear h hk
    go_enter Try.func6, Try.ntmps6
    go_wp2_with (first
      | ((with_reducible refine gate_dst (N := 2) rfl ?_); refine box_event ?hg (N := 2) ?hd (cs := #[.int .i64 r, .int .i64 d, .int .i64 c, .int .i64 n]) (t := 48) ?hr ?_; (case hd => rfl); (case hg => rfl); (case hr => first | (go_simp; done) | (go_simp; rfl)); intro gx hg w1 hbox hb; have HB1 := Aside0.mk hb; have h0 := blk_cell hbox 0; have h1 := blk_cell hbox 1; have h2 := blk_cell hbox 2; have h3 := blk_cell hbox 3; simp only [List.getElem?_toArray, List.getElem?_cons_zero, List.getElem?_cons_succ] at h0 h1 h2 h3; clear hbox hb hg)
      | (go_at_call 23; refine (compositorlaw37_valid.calls r d c n _ _ HV.out).mono ?_; rintro e w2 ⟨rfl, hb⟩; rw [hv]; have HB2 := Aside0.mk (below_step HB1.out hb); clear hb)
      | (go_at_call 11; refine (compositorlaw37_exampleHolds.calls 40 true _ ex37r).mono ?_; rintro e w3 ⟨rfl, hb⟩; have HB3 := Aside0.mk (below_step HB2.out hb); clear hb))
    go_ret
    exact ⟨rfl, HB3.out⟩
set_option maxHeartbeats 8000000 in
set_option maxRecDepth 100000 in
theorem RepeatRate.main (r d c n s : Int) (w : World) (h : okRate r d c n s) :
    Calls Try.prog 6 #[.agg #[.int .i64 r, .int .i64 d, .int .i64 c, .int .i64 n], .int .i64 s] w fun e w' => e = .returned (.bool true) ∧ Below w.heap.size w w' := by
  have HV := Aside0.mk (valid_f r d c n)
  have hv : decide (okAsk r d c n) = true := decide_eq_true h.1
  have HK := Aside0.mk h
  have HP := Aside0.mk (pressed_f r d c n h.1)
  have b1 : decide (s < 0) = false := decide_eq_false (by have := h.2; omega)
  have b2 : decide (60000 < s) = false := decide_eq_false (by have := h.2; omega)
  have HA := Aside0.mk (fun (c0 i s' : Int) (h1 : 0 ≤ s') (h2 : s' ≤ 10000000) (h3 : 0 ≤ i) (h4 : i ≤ 10000001) (h5 : c0 ≤ n + d + s') => advance_f r d c0 (c + 1) n i s' (by have := h.1; unfold okAsk at this; omega) (by have := h.1; unfold okAsk at this; omega) (by have := h.1; unfold okAsk at this; omega) (by have := h.1; unfold okAsk at this; omega) (by have := h.1; unfold okAsk at this; omega) (by have := h.1; unfold okAsk at this; omega) h1 h2 h3 h4 (by have := h.1; unfold okAsk at this; omega) h5)
  obtain ⟨⟨hr1, hr2, hd1, hd2, hc1, hc2, hn1, hn2⟩, hs1, hs2⟩ := h
  go_enter Try.func6, Try.ntmps6
  go_upto_region 7 with (first
    | ((with_reducible refine gate_dst (N := 2) rfl ?_); refine box_event ?hg (N := 2) ?hd (cs := #[.int .i64 r, .int .i64 d, .int .i64 c, .int .i64 n]) (t := 48) ?hr ?_; (case hd => rfl); (case hg => rfl); (case hr => first | (go_simp; done) | (go_simp; rfl)); intro gx hg w1 hbox hb; have HB1 := Aside0.mk hb; have HX1 := Aside0.mk hbox; have h0 := blk_cell hbox 0; have h1 := blk_cell hbox 1; have h2 := blk_cell hbox 2; have h3 := blk_cell hbox 3; simp only [List.getElem?_toArray, List.getElem?_cons_zero, List.getElem?_cons_succ] at h0 h1 h2 h3; clear hbox hb hg)
    | (go_at_call 23; refine (compositorlaw37_valid.calls r d c n _ _ HV.out).mono ?_; rintro e w2 ⟨rfl, hb⟩; rw [hv]; have HB2 := Aside0.mk (below_step HB1.out hb); have HX2 := Aside0.mk (blk_below HX1.out hb); replace h0 := pw_cell_below hb h0; replace h1 := pw_cell_below hb h1; replace h2 := pw_cell_below hb h2; replace h3 := pw_cell_below hb h3; clear hb)
    | (go_at_call 24; refine Calls.mono (compositorlaw37_pressed.calls r d c n _ _ _ _ _ _ _ w _ HB2.out HP.out) ?_; rintro e w3 ⟨g1, rfl, hi, hb, hb2⟩; have HI3 := Aside0.mk hi; have HB3 := Aside0.mk hb; have HX3 := Aside0.mk (blk_below HX2.out hb2); replace h0 := pw_cell_below hb2 h0; replace h1 := pw_cell_below hb2 h1; replace h2 := pw_cell_below hb2 h2; replace h3 := pw_cell_below hb2 h3; clear hi hb hb2)
    | (go_at_call 18; refine Calls.mono (repeat_Timer_Advance.calls g1 r d n (c + 1) n 0 (n + d + s) _ _ _ _ _ _ _ w _ HI3.out HB3.out (HA.out n 0 s (by omega) (by omega) (by omega) (by omega) (by omega))) ?_; rintro e w4 ⟨v0, rfl, hr, hi, hb, hk⟩; have HN := Aside0.mk (blk_ne HX3.out HI3.out.1 (by decide)); have HI4 := Aside0.mk hi; have HB4 := Aside0.mk hb; have HX4 := Aside0.mk (hk.blk HX3.out HN.out (by simp)); replace h0 := keep_cell hk h0 HN.out; replace h1 := keep_cell hk h1 HN.out; replace h2 := keep_cell hk h2 HN.out; replace h3 := keep_cell hk h3 HN.out; clear hr hi hb hk))
  try simp only [Act.put, List.setIfInBounds_toArray, List.set_cons_zero, List.set_cons_succ]
  have hz := nextI_zero r s (by omega) (by omega)
  rw [hz] at HI4
  clear hz
  go_wp2
  go_loopg [7, 8] 10 (fun kq v7 v8 wr => ∃ i : Nat, v8 = .int .i64 (i : Int) ∧ v7 = .int .i64 (count r (s + 100 * (i : Int)) - count r s) ∧ Aside0 (i + kq = 10) ∧ Aside0 (IsS59 w wr g1 r d (n + d + (s + 100 * (i : Int))) (c + 1) n (count r (s + 100 * (i : Int)))) ∧ Aside0 (wr.heap[gx]? = some (.cells #[.int .i64 r, .int .i64 d, .int .i64 c, .int .i64 n] 48 (0, 0))) ∧ Aside0 (Below w.heap.size w wr))
  case atStart =>
    have e : s + 100 * ((0 : Nat) : Int) = s := by omega
    refine ⟨0, rfl, ?_, ⟨rfl⟩, ⟨?_⟩, HX4, HB4⟩
    · rw [e, Int.sub_self]
    · rw [e, show n + d + s = n + d + s from rfl]; exact (by simpa [Int.add_assoc] using HI4.out)
  case round =>
    clear h0 h1 h2 h3
    obtain ⟨i, rfl, rfl, HI, HT, HX, HB⟩ := hrel
    have h0 := (blk_cell HX.out 0).trans (show _ = some (Value.int .i64 r) from rfl)
    have h1 := (blk_cell HX.out 1).trans (show _ = some (Value.int .i64 d) from rfl)
    have h2 := (blk_cell HX.out 2).trans (show _ = some (Value.int .i64 c) from rfl)
    have h3 := (blk_cell HX.out 3).trans (show _ = some (Value.int .i64 n) from rfl)
    have hi := HI.out
    by_cases hlt : i < 10
    · have hk : gk = (gk - 1) + 1 := by omega
      have hi2 : (i : Int) < 10 := by omega
      have hi3 : (0 : Int) ≤ (i : Int) := by omega
      have q1 := count_nonneg r s (by omega) (by omega)
      have q2 := count_mono r s (s + 100 * (i : Int)) (by omega) (by omega)
      have q3 := count_le r (s + 100 * (i : Int)) (by omega) (by omega) (by omega)
      have q4 := count_mono r (s + 100 * (i : Int)) (s + 100 * ((i : Int) + 1)) (by omega) (by omega)
      have q5 := count_step r (s + 100 * (i : Int)) 100 (by omega) (by omega) (by omega)
      rw [show s + 100 * (i : Int) + 100 = s + 100 * ((i : Int) + 1) by omega] at q5
      have qo : outN r (s + 100 * ((i : Int) + 1)) (count r (s + 100 * (i : Int))) = count r (s + 100 * ((i : Int) + 1)) - count r (s + 100 * (i : Int)) := by
        rw [outN_count r _ _ (by omega) (by omega), if_neg (by omega)]
      have QN := Aside0.mk (nextI_count r (s + 100 * (i : Int)) (s + 100 * ((i : Int) + 1)) (by omega) (by omega))
      have HA2 := Aside0.mk (HA.out (n + d + (s + 100 * (i : Int))) (count r (s + 100 * (i : Int))) (s + 100 * ((i : Int) + 1)) (by omega) (by omega) (by omega) (by omega) (by omega))
      have QO := Aside0.mk qo
      generalize hC0 : count r s = C0 at q1 q2 ⊢
      generalize hC1 : count r (s + 100 * (i : Int)) = C1 at q2 q3 q4 q5 QN HA2 QO HT ⊢
      generalize hC2 : count r (s + 100 * ((i : Int) + 1)) = C2 at q4 q5 QN QO
      have HC1 := Aside0.mk hC1
      have HC2 := Aside0.mk hC2
      have HC0 := Aside0.mk hC0
      clear hC0 hC1 hC2 qo hlt hi
      go_wp2_with (first | (go_at_call 18; (try rw [show n + d + s + 100 * ((i : Int) + 1) = n + d + (s + 100 * ((i : Int) + 1)) by omega]); refine Calls.mono (repeat_Timer_Advance.calls g1 r d _ (c + 1) n _ _ _ _ _ _ _ _ _ w _ HT.out HB.out HA2.out) ?_; rintro e w5 ⟨v0, rfl, hr, hi, hb, hk2⟩; obtain ⟨A, cc, rfl⟩ := Kd.R_slice hr; have HN := Aside0.mk (blk_ne HX.out HT.out.1 (by decide)); have HT5 := Aside0.mk hi; have HB5 := Aside0.mk hb; have HX5 := Aside0.mk (hk2.blk HX.out HN.out (by simp)); replace h0 := keep_cell hk2 h0 HN.out; replace h1 := keep_cell hk2 h1 HN.out; replace h2 := keep_cell hk2 h2 HN.out; replace h3 := keep_cell hk2 h3 HN.out; clear hr hi hb hk2; obtain ⟨L, hL⟩ : ∃ L : Nat, (evs r d n (c + 1) C1 (outN r (s + 100 * ((i : Int) + 1)) C1).toNat).length = L := ⟨_, rfl⟩; rw [hL]; have hL2 : (L : Int) = C2 - C1 := (by rw [← hL, evs_len]; have := QO.out; omega); clear hL))
      go_roundg (gk - 1)
      case measure => omega
      case rel =>
        refine ⟨i + 1, rfl, ?_, ⟨by have := HI.out; omega⟩, ⟨?_⟩, HX5, HB5⟩
        · rw [show s + 100 * (((i + 1 : Nat)) : Int) = s + 100 * ((i : Int) + 1) by omega, HC2.out, HC0.out]
          congr 1
          omega
        · rw [show s + 100 * (((i + 1 : Nat)) : Int) = s + 100 * ((i : Int) + 1) by omega, HC2.out, ← QN.out]
          exact HT5.out
    · have hz : gk = 0 := by omega
      have e : (i : Int) = 10 := by omega
      subst hz
      clear hi
      have hs10 : s + 100 * (i : Int) = s + 1000 := by omega
      rw [hs10, count_second]
      have hr0 : count r s + r - count r s = r := by omega
      rw [hr0]
      have hdb : decide ((i : Int) < 10) = false := decide_eq_false (by omega)
      clear hs10 hr0 e hlt
      go_upto_region 16 with (first
        | (go_at_call 24; refine Calls.mono (compositorlaw37_pressed.calls r d c n _ _ _ _ _ _ _ w _ HB.out HP.out) ?_; rintro e w3 ⟨g2, rfl, hi, hb, hb2⟩; have HI6 := Aside0.mk hi; have HB6 := Aside0.mk hb; have HX6 := Aside0.mk (blk_below HX.out hb2); replace h0 := pw_cell_below hb2 h0; replace h1 := pw_cell_below hb2 h1; replace h2 := pw_cell_below hb2 h2; replace h3 := pw_cell_below hb2 h3; clear hi hb hb2)
        | (go_at_call 18; refine Calls.mono (repeat_Timer_Advance.calls g2 r d n (c + 1) n 0 (n + d + s) _ _ _ _ _ _ _ w _ HI6.out HB6.out (HA.out n 0 s (by omega) (by omega) (by omega) (by omega) (by omega))) ?_; rintro e w4 ⟨v0, rfl, hr, hi, hb, hk⟩; have HN := Aside0.mk (blk_ne HX6.out HI6.out.1 (by decide)); have HI7 := Aside0.mk hi; have HB7 := Aside0.mk hb; replace h0 := keep_cell hk h0 HN.out; replace h1 := keep_cell hk h1 HN.out; replace h2 := keep_cell hk h2 HN.out; replace h3 := keep_cell hk h3 HN.out; clear hr hi hb hk))
      try simp only [Act.put, List.setIfInBounds_toArray, List.set_cons_zero, List.set_cons_succ]
      have HL3 := Aside0.mk (show (evs r d n (c + 1) (nextI r s 0) (outN r (s + 1000) (nextI r s 0)).toNat).length = (if 256 < r then 256 else r).toNat by
        rw [evs_len, nextI_zero r s (by omega) (by omega), outN_count r s (s + 1000) (by omega) (by omega), count_second, show count r s + r - count r s = r by omega])
      have HA3 : Aside0 (repeat_Timer_Advance.f r d (n + d + s) (c + 1) n (nextI r s 0) (wrap64 (wrap64 (wrap64 (n + d) + s) + 1000)) = some (evs r d n (c + 1) (nextI r s 0) (outN r (s + 1000) (nextI r s 0)).toNat, r, d, n + d + (s + 1000), c + 1, n, nextI r (s + 1000) (nextI r s 0))) := by
        have q1 := count_nonneg r s (by omega) (by omega)
        have q3 := count_le r s (by omega) (by omega) (by omega)
        have qz := nextI_zero r s (by omega) (by omega)
        refine ⟨?_⟩
        rw [Plain.wr (n + d) (by omega) (by omega), Plain.wr (n + d + s) (by omega) (by omega), Plain.wr (n + d + s + 1000) (by omega) (by omega), show n + d + s + 1000 = n + d + (s + 1000) by omega]
        exact (HA.out (n + d + s) (nextI r s 0) (s + 1000) (by omega) (by omega) (by rw [qz]; omega) (by rw [qz]; omega) (by omega))
      obtain ⟨M, hM⟩ : ∃ M : Nat, (if 256 < r then (256 : Int) else r).toNat = M := ⟨_, rfl⟩
      rw [hM] at HL3
      have hM2 : (if r < 256 then r else 256) = (M : Int) := by rw [← hM]; split <;> split <;> omega
      have hM3 : (if 256 < r then 256 else r) = (M : Int) := by rw [← hM]; split <;> omega
      clear hM
      refine start_ (n := 25) (S := fun w' => w'.cell? ⟨gx, 0, none⟩ = some (.int .i64 r) ∧ w'.cell? ⟨gx, 1, none⟩ = some (.int .i64 d) ∧ w'.cell? ⟨gx, 3, none⟩ = some (.int .i64 n) ∧ Below w.heap.size w w') (ds := []) #[false, false, false, false, false, false, false, false, false, false, false, false, false, false, false, false, false, false, false, false, false, false, false, false, false] (by kernel_rfl) rfl rfl ⟨h0, h1, h3, below_drew1 HB7.out⟩ (fun hHeld => ?_)
      refine pure_ (i := 0) (N := some 89) (v := ?_) (a' := ?_) #[true, false, false, false, false, false, false, false, false, false, false, false, false, false, false, false, false, false, false, false, false, false, false, false, false] rfl rfl (by kernel_rfl) (fun _ _ _ h => h) (Or.inl ⟨by rfl, ?_⟩) ?_ ?_
      rotate_left
      · intro w'
        go_simp
        with_reducible rfl
      rotate_left
      · simp only [Act.put, List.setIfInBounds_toArray, List.set_cons_zero, List.set_cons_succ, i64_w, i32_w, IntKind.wrap_u32, IntKind.wrap_u8, IntKind.wrap_u16]
        rfl
      refine pure_ (i := 1) (N := some 90) (v := ?_) (a' := ?_) #[true, true, false, false, false, false, false, false, false, false, false, false, false, false, false, false, false, false, false, false, false, false, false, false, false] rfl rfl (by kernel_rfl) (fun _ _ _ h => h) (Or.inl ⟨by rfl, ?_⟩) ?_ ?_
      rotate_left
      · intro w'
        go_simp
        with_reducible rfl
      rotate_left
      · simp only [Act.put, List.setIfInBounds_toArray, List.set_cons_zero, List.set_cons_succ, i64_w, i32_w, IntKind.wrap_u32, IntKind.wrap_u8, IntKind.wrap_u16]
        rfl
      refine take_ (i := 2) (N := some 91) (v := ?_) (a' := ?_) #[true, true, true, false, false, false, false, false, false, false, false, false, false, false, false, false, false, false, false, false, false, false, false, false, false] rfl rfl (by kernel_rfl) (fun _ _ _ h => h) (Or.inl ⟨by rfl, ?_⟩) hHeld ?_ ?_
      rotate_left
      · rintro w' ⟨s0, s1, s2, s3⟩
        go_simp
        with_reducible rfl
      rotate_left
      · simp only [Act.put, List.setIfInBounds_toArray, List.set_cons_zero, List.set_cons_succ, i64_w, i32_w, IntKind.wrap_u32, IntKind.wrap_u8, IntKind.wrap_u16]
        rfl
      refine pure_ (i := 3) (N := some 92) (v := ?_) (a' := ?_) #[true, true, true, true, false, false, false, false, false, false, false, false, false, false, false, false, false, false, false, false, false, false, false, false, false] rfl rfl (by kernel_rfl) (fun _ _ _ h => h) (Or.inl ⟨by rfl, ?_⟩) ?_ ?_
      rotate_left
      · intro w'
        go_simp
        with_reducible rfl
      rotate_left
      · simp only [Act.put, List.setIfInBounds_toArray, List.set_cons_zero, List.set_cons_succ, i64_w, i32_w, IntKind.wrap_u32, IntKind.wrap_u8, IntKind.wrap_u16]
        rfl
      refine pure_ (i := 4) (N := some 93) (v := ?_) (a' := ?_) #[true, true, true, true, true, false, false, false, false, false, false, false, false, false, false, false, false, false, false, false, false, false, false, false, false] rfl rfl (by kernel_rfl) (fun _ _ _ h => h) (Or.inl ⟨by rfl, ?_⟩) ?_ ?_
      rotate_left
      · intro w'
        go_simp
        with_reducible rfl
      rotate_left
      · simp only [Act.put, List.setIfInBounds_toArray, List.set_cons_zero, List.set_cons_succ, i64_w, i32_w, IntKind.wrap_u32, IntKind.wrap_u8, IntKind.wrap_u16]
        rfl
      refine pure_ (i := 5) (N := some 94) (v := ?_) (a' := ?_) #[true, true, true, true, true, true, false, false, false, false, false, false, false, false, false, false, false, false, false, false, false, false, false, false, false] rfl rfl (by kernel_rfl) (fun _ _ _ h => h) (Or.inl ⟨by rfl, ?_⟩) ?_ ?_
      rotate_left
      · intro w'
        go_simp
        with_reducible rfl
      rotate_left
      · simp only [Act.put, List.setIfInBounds_toArray, List.set_cons_zero, List.set_cons_succ, i64_w, i32_w, IntKind.wrap_u32, IntKind.wrap_u8, IntKind.wrap_u16]
        rfl
      refine pure_ (i := 6) (N := some 95) (v := ?_) (a' := ?_) #[true, true, true, true, true, true, true, false, false, false, false, false, false, false, false, false, false, false, false, false, false, false, false, false, false] rfl rfl (by kernel_rfl) (fun _ _ _ h => h) (Or.inl ⟨by rfl, ?_⟩) ?_ ?_
      rotate_left
      · intro w'
        go_simp
        with_reducible rfl
      rotate_left
      · simp only [Act.put, List.setIfInBounds_toArray, List.set_cons_zero, List.set_cons_succ, i64_w, i32_w, IntKind.wrap_u32, IntKind.wrap_u8, IntKind.wrap_u16]
        rfl
      refine pure_ (i := 8) (N := some 97) (v := ?_) (a' := ?_) #[true, true, true, true, true, true, true, false, true, false, false, false, false, false, false, false, false, false, false, false, false, false, false, false, false] rfl rfl (by kernel_rfl) (fun _ _ _ h => h) (Or.inl ⟨by rfl, ?_⟩) ?_ ?_
      rotate_left
      · intro w'
        go_simp
        with_reducible rfl
      rotate_left
      · simp only [Act.put, List.setIfInBounds_toArray, List.set_cons_zero, List.set_cons_succ, i64_w, i32_w, IntKind.wrap_u32, IntKind.wrap_u8, IntKind.wrap_u16]
        rfl
      refine pure_ (i := 11) (N := some 100) (v := ?_) (a' := ?_) #[true, true, true, true, true, true, true, false, true, false, false, true, false, false, false, false, false, false, false, false, false, false, false, false, false] rfl rfl (by kernel_rfl) (fun _ _ _ h => h) (Or.inl ⟨by rfl, ?_⟩) ?_ ?_
      rotate_left
      · intro w'
        go_simp
        with_reducible rfl
      rotate_left
      · simp only [Act.put, List.setIfInBounds_toArray, List.set_cons_zero, List.set_cons_succ, i64_w, i32_w, IntKind.wrap_u32, IntKind.wrap_u8, IntKind.wrap_u16]
        rfl
      refine pure_ (i := 16) (N := some 105) (v := ?_) (a' := ?_) #[true, true, true, true, true, true, true, false, true, false, false, true, false, false, false, false, true, false, false, false, false, false, false, false, false] rfl rfl (by kernel_rfl) (fun _ _ _ h => h) (Or.inl ⟨by rfl, ?_⟩) ?_ ?_
      rotate_left
      · intro w'
        go_simp
        with_reducible rfl
      rotate_left
      · simp only [Act.put, List.setIfInBounds_toArray, List.set_cons_zero, List.set_cons_succ, i64_w, i32_w, IntKind.wrap_u32, IntKind.wrap_u8, IntKind.wrap_u16]
        rfl
      refine take_ (i := 7) (N := some 96) (v := ?_) (a' := ?_) #[true, true, true, true, true, true, true, true, true, false, false, true, false, false, false, false, true, false, false, false, false, false, false, false, false] rfl rfl (by kernel_rfl) (fun _ _ _ h => h) (Or.inl ⟨by rfl, ?_⟩) hHeld ?_ ?_
      rotate_left
      · rintro w' ⟨s0, s1, s2, s3⟩
        go_simp
        with_reducible rfl
      rotate_left
      · simp only [Act.put, List.setIfInBounds_toArray, List.set_cons_zero, List.set_cons_succ, i64_w, i32_w, IntKind.wrap_u32, IntKind.wrap_u8, IntKind.wrap_u16]
        rfl
      refine take_ (i := 9) (N := some 98) (v := ?_) (a' := ?_) #[true, true, true, true, true, true, true, true, true, true, false, true, false, false, false, false, true, false, false, false, false, false, false, false, false] rfl rfl (by kernel_rfl) (fun _ _ _ h => h) (Or.inl ⟨by rfl, ?_⟩) hHeld ?_ ?_
      rotate_left
      · rintro w' ⟨s0, s1, s2, s3⟩
        go_simp
        with_reducible rfl
      rotate_left
      · simp only [Act.put, List.setIfInBounds_toArray, List.set_cons_zero, List.set_cons_succ, i64_w, i32_w, IntKind.wrap_u32, IntKind.wrap_u8, IntKind.wrap_u16]
        rfl
      refine pure_ (i := 10) (N := some 99) (v := ?_) (a' := ?_) #[true, true, true, true, true, true, true, true, true, true, true, true, false, false, false, false, true, false, false, false, false, false, false, false, false] rfl rfl (by kernel_rfl) (fun _ _ _ h => h) (Or.inl ⟨by rfl, ?_⟩) ?_ ?_
      rotate_left
      · intro w'
        go_simp
        with_reducible rfl
      rotate_left
      · simp only [Act.put, List.setIfInBounds_toArray, List.set_cons_zero, List.set_cons_succ, i64_w, i32_w, IntKind.wrap_u32, IntKind.wrap_u8, IntKind.wrap_u16]
        rfl
      refine pure_ (i := 12) (N := some 101) (v := ?_) (a' := ?_) #[true, true, true, true, true, true, true, true, true, true, true, true, true, false, false, false, true, false, false, false, false, false, false, false, false] rfl rfl (by kernel_rfl) (fun _ _ _ h => h) (Or.inl ⟨by rfl, ?_⟩) ?_ ?_
      rotate_left
      · intro w'
        go_simp
        with_reducible rfl
      rotate_left
      · simp only [Act.put, List.setIfInBounds_toArray, List.set_cons_zero, List.set_cons_succ, i64_w, i32_w, IntKind.wrap_u32, IntKind.wrap_u8, IntKind.wrap_u16]
        rfl
      refine pure_ (i := 13) (N := some 102) (v := ?_) (a' := ?_) #[true, true, true, true, true, true, true, true, true, true, true, true, true, true, false, false, true, false, false, false, false, false, false, false, false] rfl rfl (by kernel_rfl) (fun _ _ _ h => h) (Or.inl ⟨by rfl, ?_⟩) ?_ ?_
      rotate_left
      · intro w'
        go_simp
        with_reducible rfl
      rotate_left
      · simp only [Act.put, List.setIfInBounds_toArray, List.set_cons_zero, List.set_cons_succ, i64_w, i32_w, IntKind.wrap_u32, IntKind.wrap_u8, IntKind.wrap_u16]
        rfl
      refine take_ (i := 17) (N := some 106) (v := ?_) (a' := ?_) #[true, true, true, true, true, true, true, true, true, true, true, true, true, true, false, false, true, true, false, false, false, false, false, false, false] rfl rfl (by kernel_rfl) (fun _ _ _ h => h) (Or.inl ⟨by rfl, ?_⟩) hHeld ?_ ?_
      rotate_left
      · rintro w' ⟨s0, s1, s2, s3⟩
        go_simp
        with_reducible rfl
      rotate_left
      · simp only [Act.put, List.setIfInBounds_toArray, List.set_cons_zero, List.set_cons_succ, i64_w, i32_w, IntKind.wrap_u32, IntKind.wrap_u8, IntKind.wrap_u16]
        rfl
      refine pure_ (i := 18) (N := some 107) (v := ?_) (a' := ?_) #[true, true, true, true, true, true, true, true, true, true, true, true, true, true, false, false, true, true, true, false, false, false, false, false, false] rfl rfl (by kernel_rfl) (fun _ _ _ h => h) (Or.inl ⟨by rfl, ?_⟩) ?_ ?_
      rotate_left
      · intro w'
        go_simp
        with_reducible rfl
      rotate_left
      · simp only [Act.put, List.setIfInBounds_toArray, List.set_cons_zero, List.set_cons_succ, i64_w, i32_w, IntKind.wrap_u32, IntKind.wrap_u8, IntKind.wrap_u16]
        rfl
      refine one_ (i := 14) (N := some 103) #[true, true, true, true, true, true, true, true, true, true, true, true, true, true, true, false, true, true, true, false, false, false, false, false, false] rfl rfl (by kernel_rfl) (by decide) (fun K hK => ?_)
      refine goes_ Try.func18 (by kernel_rfl) rfl #[.pointer (some ⟨g2, 0, none⟩), .int .i64 (wrap64 (wrap64 (wrap64 (n + d) + s) + 1000))] (by rfl) rfl rfl (by (try simp only [List.map_toArray, List.map_cons, List.map_nil]); first | done | rfl) ?_
      with_reducible refine (repeat_Timer_Advance.calls g2 r d (n + d + s) (c + 1) n (nextI r s 0) (wrap64 (wrap64 (wrap64 (n + d) + s) + 1000)) _ _ _ _ _ _ _ w _ (IsS59.drew HI7.out) (below_drew1 HB7.out) HA3.out).mono ?_
      rintro e w5 ⟨v5, rfl, hr, hi, hb, hk⟩
      refine ⟨_, rfl, ?_⟩
      obtain ⟨A5, cc5, rfl⟩ := Kd.R_slice hr
      rw [HL3.out]
      refine hK.out _ _ ⟨keep_cell hk hHeld.1 HN.out, keep_cell hk hHeld.2.1 HN.out, keep_cell hk hHeld.2.2.1 HN.out, hb⟩ (fun hHeld => ?_)
      clear hK K
      refine norm_ (a' := ?_) ?_ ?_
      rotate_left
      · show Act.put _ (some 103) _ = _
        simp only [Act.put, List.setIfInBounds_toArray, List.set_cons_zero, List.set_cons_succ, i64_w, i32_w, IntKind.wrap_u32, IntKind.wrap_u8, IntKind.wrap_u16]
        rfl
      refine pure_ (i := 15) (N := some 104) (v := ?_) (a' := ?_) #[true, true, true, true, true, true, true, true, true, true, true, true, true, true, true, true, true, true, true, false, false, false, false, false, false] rfl rfl (by kernel_rfl) (fun _ _ _ h => h) (Or.inl ⟨by rfl, ?_⟩) ?_ ?_
      rotate_left
      · intro w'
        go_simp
        with_reducible rfl
      rotate_left
      · simp only [Act.put, List.setIfInBounds_toArray, List.set_cons_zero, List.set_cons_succ, i64_w, i32_w, IntKind.wrap_u32, IntKind.wrap_u8, IntKind.wrap_u16]
        rfl
      refine pure_ (i := 19) (N := some 108) (v := ?_) (a' := ?_) #[true, true, true, true, true, true, true, true, true, true, true, true, true, true, true, true, true, true, true, true, false, false, false, false, false] rfl rfl (by kernel_rfl) (fun _ _ _ h => h) (Or.inl ⟨by rfl, ?_⟩) ?_ ?_
      rotate_left
      · intro w'
        go_simp
        with_reducible rfl
      rotate_left
      · simp only [Act.put, List.setIfInBounds_toArray, List.set_cons_zero, List.set_cons_succ, i64_w, i32_w, IntKind.wrap_u32, IntKind.wrap_u8, IntKind.wrap_u16]
        rfl
      refine pure_ (i := 20) (N := some 109) (v := ?_) (a' := ?_) #[true, true, true, true, true, true, true, true, true, true, true, true, true, true, true, true, true, true, true, true, true, false, false, false, false] rfl rfl (by kernel_rfl) (fun _ _ _ h => h) (Or.inl ⟨by rfl, ?_⟩) ?_ ?_
      rotate_left
      · intro w'
        go_simp
        with_reducible rfl
      rotate_left
      · simp only [Act.put, List.setIfInBounds_toArray, List.set_cons_zero, List.set_cons_succ, i64_w, i32_w, IntKind.wrap_u32, IntKind.wrap_u8, IntKind.wrap_u16]
        rfl
      refine pure_ (i := 21) (N := some 110) (v := ?_) (a' := ?_) #[true, true, true, true, true, true, true, true, true, true, true, true, true, true, true, true, true, true, true, true, true, true, false, false, false] rfl rfl (by kernel_rfl) (fun _ _ _ h => h) (Or.inl ⟨by rfl, ?_⟩) ?_ ?_
      rotate_left
      · intro w'
        go_simp
        with_reducible rfl
      rotate_left
      · simp only [Act.put, List.setIfInBounds_toArray, List.set_cons_zero, List.set_cons_succ, i64_w, i32_w, IntKind.wrap_u32, IntKind.wrap_u8, IntKind.wrap_u16]
        rfl
      refine one_ (i := 22) (N := some 111) #[true, true, true, true, true, true, true, true, true, true, true, true, true, true, true, true, true, true, true, true, true, true, true, false, false] rfl rfl (by kernel_rfl) (by decide) (fun K hK => ?_)
      refine goes_ Try.func11 (by kernel_rfl) rfl #[] (by rfl) rfl rfl (by (try simp only [List.map_toArray, List.map_cons, List.map_nil]); first | done | rfl) ?_
      with_reducible refine (compositorlaw37_exampleHolds.calls 40 true _ ex37r).mono ?_
      rintro e w6 ⟨rfl, hb⟩
      refine ⟨_, rfl, ?_⟩
      refine hK.out _ _ ⟨pw_cell_below hb hHeld.1, pw_cell_below hb hHeld.2.1, pw_cell_below hb hHeld.2.2.1, below_step hHeld.2.2.2 hb⟩ (fun hHeld => ?_)
      clear hK K
      refine norm_ (a' := ?_) ?_ ?_
      rotate_left
      · show Act.put _ (some 111) _ = _
        simp only [Act.put, List.setIfInBounds_toArray, List.set_cons_zero, List.set_cons_succ, i64_w, i32_w, IntKind.wrap_u32, IntKind.wrap_u8, IntKind.wrap_u16]
        rfl
      refine pure_ (i := 23) (N := some 112) (v := ?_) (a' := ?_) #[true, true, true, true, true, true, true, true, true, true, true, true, true, true, true, true, true, true, true, true, true, true, true, true, false] rfl rfl (by kernel_rfl) (fun _ _ _ h => h) (Or.inl ⟨by rfl, ?_⟩) ?_ ?_
      rotate_left
      · intro w'
        go_simp
        with_reducible rfl
      rotate_left
      · simp only [Act.put, List.setIfInBounds_toArray, List.set_cons_zero, List.set_cons_succ, i64_w, i32_w, IntKind.wrap_u32, IntKind.wrap_u8, IntKind.wrap_u16]
        rfl
      refine pure_ (i := 24) (N := some 4) (v := ?_) (a' := ?_) #[true, true, true, true, true, true, true, true, true, true, true, true, true, true, true, true, true, true, true, true, true, true, true, true, true] rfl rfl (by kernel_rfl) (fun _ _ _ h => h) (Or.inl ⟨by rfl, ?_⟩) ?_ ?_
      rotate_left
      · intro w'
        go_simp
        with_reducible rfl
      rotate_left
      · simp only [Act.put, List.setIfInBounds_toArray, List.set_cons_zero, List.set_cons_succ, i64_w, i32_w, IntKind.wrap_u32, IntKind.wrap_u8, IntKind.wrap_u16]
        rfl
      refine done_ (by kernel_rfl) ?_
      have hb := hHeld.2.2.2
      go_wp2
      go_ret
      exact ⟨rfl, hb⟩
theorem RepeatRate.calls (r d c n s : Int) (w : World) :
    Calls Try.prog 6 #[.agg #[.int .i64 r, .int .i64 d, .int .i64 c, .int .i64 n], .int .i64 s] w fun e w' => e = .returned (.bool true) ∧ Below w.heap.size w w' := by
  by_cases h : okRate r d c n s
  · exact RepeatRate.main r d c n s w h
  · exact RepeatRate.early r d c n s w h
end Go.Proofs.Ytkpeeaekffclgaa.Q
