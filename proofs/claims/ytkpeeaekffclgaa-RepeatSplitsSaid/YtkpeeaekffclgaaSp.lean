import Derived.Test.YtkpeeaekffclgaaNr
import Derived.Test.YtkpeeaekffclgaaPlainC
import Derived.Test.YtkpeeaekffclgaaQx13
import Derived.Test.YtkpeeaekffclgaaQx25
import Derived.Test.YtkpeeaekffclgaaQx26
namespace Go.Proofs.Ytkpeeaekffclgaa.Q
open Go.RowKit Go.Proofs.YtkpeeaekffclgaaW.PrintWords Go.Proofs.YtkpeeaekffclgaaW.PrintLast Go.Proofs.YtkpeeaekffclgaaW.PrintMore Go.Proofs.Ytkpeeaekffclgaa.Sl Go.Proofs.Ytkpeeaekffclgaa.Hand Go.Proofs.Ytkpeeaekffclgaa.Plain
attribute [local go_sem] max2_int min2_int max_two min_two max_three min_three max_four min_four 
set_option linter.unusedVariables false
set_option linter.unusedSimpArgs false

def enc53 (x : S53) : List Value := [.int .i64 x.f0, .int .i64 x.f1, .int .i64 x.f2, .int .i64 x.f3, .int .i64 x.f4, .int .i64 x.f5]
theorem flat53 : Flat k53 enc53 := ⟨fun w x => k53_mk w x, fun w x cs h => k53_open h⟩
abbrev tmR (g : Nat) (r d k a p i : Int) : Res := cellsR g 59 #[.int .i64 r, .int .i64 d, .int .i64 k, .int .i64 a, .int .i64 p, .int .i64 i]
abbrev askR (g : Nat) (r d c n : Int) : Res := cellsR g 48 #[.int .i64 r, .int .i64 d, .int .i64 c, .int .i64 n]
abbrev row53 (v : Value) (xs : List S53) : Res := lrR k53 enc53 53 v xs
theorem sl_readR {w0 w : World} {L : List Res} {α : Type} {d : Kd α} {e : Nat} {A : Option Addr} {n c : Nat} {xs : List α} (h : SL w0 w L) (i : Nat) (hi : L[i]? = some (rowR d e (.slice A n c) xs)) : n = xs.length ∧ n ≤ c ∧ d.C w A xs.length xs := by
  obtain ⟨F, h1, _, _⟩ := sl_upd h hi
  exact Kd.R_reads' h1
theorem pressed_sl {w0 w : World} {L : List Res} (h : SL w0 w L) {r d c n : Int} (hk : okAsk r d c n) :
    Calls Try.prog 24 #[.int .i64 r, .int .i64 d, .int .i64 c, .int .i64 n] w fun e w' => ∃ g : Nat, e = .returned (.tuple #[.pointer (some ⟨g, 0, none⟩), .bool true]) ∧ SL w0 w' (L ++ [tmR g r d n (c + 1) n 0]) := by
  refine (compositorlaw37_pressed.calls r d c n _ _ _ _ _ _ _ w w (Below.refl _ _) (pressed_f r d c n hk)).mono ?_
  rintro e w' ⟨g, rfl, ⟨hb, hg⟩, _, h2⟩
  exact ⟨g, rfl, sl_box' h h2 hg hb⟩
theorem adv_sl {w0 w : World} {L : List Res} (h : SL w0 w L) (j : Nat) {g : Nat} {r d k a p i now : Int} {E : List S53} {k2 i2 : Int} (hf : repeat_Timer_Advance.f r d k a p i now = some (E, r, d, k2, a, p, i2)) (hi : L[j]? = some (tmR g r d k a p i)) :
    Calls Try.prog 18 #[.pointer (some ⟨g, 0, none⟩), .int .i64 now] w fun e w' => ∃ A c, e = .returned (.slice A E.length c) ∧ SL w0 w' (L.set j (tmR g r d k2 a p i2) ++ [rowR k53 53 (.slice A E.length c) E]) := by
  have hb0 := sl_below0 h
  have hil : j < L.length := (List.getElem?_eq_some_iff.1 hi).1
  have hgl := blk_lt (sl_blk h j hi)
  obtain ⟨F, ⟨hF, _⟩, h2, h3⟩ := sl_upd h hi
  refine (repeat_Timer_Advance.calls g r d k a p i now E r d k2 a p i2 w0 w ⟨sl_blk h j hi, sl_ge h j hi⟩ hb0 hf).mono ?_
  rintro e w' ⟨v, rfl, hr, ⟨hb1, _⟩, hb, hk⟩
  obtain ⟨A, c, rfl⟩ := Kd.R_slice hr
  refine ⟨A, c, rfl, ?_⟩
  have hc : Chg F w w' := ⟨hb.os.trans hb0.os.symm, hb.tape.trans hb0.tape.symm, hb.output.trans hb0.output.symm, hk.1, fun q hq hn => hk.2 q hq (fun he => hn (he ▸ hF)) (by simp)⟩
  have h4 := h3 w' (exR (X := Unit) (fun _ => tmR g r d k2 a p i2) (fun _ => rowR k53 53 (.slice A E.length c) E)) (fun q => q = g ∨ (w.heap.size ≤ q ∧ q < w'.heap.size))
    ⟨(), fun q => q = g, fun q => w.heap.size ≤ q ∧ q < w'.heap.size, ⟨rfl, hb1⟩, Kd.R_lower (Kd.R_mono (Kd.R_bound hr) (fun q hq => ⟨hq.2.1, hq.2.2.1⟩)) (Nat.zero_le _), fun q hq => .inl hq, fun q hq => .inr hq, fun q h5 h6 => by omega⟩
    (fun q hq => by
      rcases hq with rfl | hq
      · exact ⟨.inl hF, Nat.lt_of_lt_of_le hgl hk.1⟩
      · exact ⟨.inr hq.1, hq.2⟩) hc
  obtain ⟨_, h5⟩ := sl_open h4 j (by rw [List.getElem?_set_self hil])
  rw [List.set_set] at h5
  exact h5
theorem same53 {w0 w : World} {L : List Res} (h : SL w0 w L) {A B : Option Addr} {c e n : Nat} (X : List S53) (i j : Nat) (hX : X.length ≤ 1000000) (hi : L[i]? = some (row53 (.slice A X.length c) X)) (hj : L[j]? = some (rowR k53 53 (.slice B X.length e) X)) :
    Calls Try.prog 17 #[.slice A X.length c, .slice B X.length e] w fun e w' => e = .returned (.bool true) ∧ SL w0 w' L := by
  obtain ⟨F, h1⟩ := sl_lr h i hi
  obtain ⟨_, hc1, hC1⟩ := h1.reads' flat53
  obtain ⟨_, hc2, hC2⟩ := sl_readR h j hj
  refine (compositorlaw37_same.calls (X.length + 1) A c X B e X true w hC1 hc1 hC2 hc2 (same_f X hX _ (by omega))).mono ?_
  rintro e w' ⟨rfl, m, rfl⟩
  exact ⟨rfl, sl_drewN h m⟩
section
variable {w0 w : World} {L : List Res} {ops : Array Oper} {rest : List Oper} {o : Oper} {a : Act} {Q : Exit → Act → World → Prop}
theorem app53 (h : SL w0 w L) (i : Nat) (v : Value) (xs ys : List S53) (hgd : o.guard = none) (s x : Operand) (ho : o.op = .call { callee := .builtin .append, args := #[s, x], argTypes := #[36, 36] })
    {B : Option Addr} {m c : Nat} (hs : a.eval s = v) (hx : a.eval x = .slice B m c) (hi : L[i]? = some (row53 v xs)) (hy : Kd.C k53 w B m ys) (hl : xs.length + m ≤ 1000000)
    (hk : ∀ A c w1, SL w0 w1 (L.set i (row53 (.slice A (xs.length + ys.length) c) (xs ++ ys))) → wpList Try.prog ops Q rest (a.put o.dst (.slice A (xs.length + ys.length) c)) w1) :
    wpList Try.prog ops Q (o :: rest) a w :=
  sl_append_rows flat53 hgd s x 36 (.agg #[(.int .i64 0), (.int .i64 0), (.int .i64 0), (.int .i64 0), (.int .i64 0), (.int .i64 0)]) 48 ho Try.underlying36 info53 rfl (by decide) (by decide) ys hs hx i hi h hy (by omega) hk
end
theorem sum_mono {l : List Int} (h : ∀ j : Nat, j < l.length → 0 ≤ rd l j ∧ rd l j ≤ 3000) : ∀ (m i : Nat), i + m = l.length → sumN l i ≤ sumN l l.length ∧ (0 ≤ sumN l i ∧ sumN l i ≤ 3000 * i) := by
  have h0 : ∀ i : Nat, i ≤ l.length → 0 ≤ sumN l i ∧ sumN l i ≤ 3000 * i := by
    intro i
    induction i with
    | zero => intro _; simp [sumN]
    | succ i ih =>
      intro hi
      have h1 := ih (by omega)
      have h2 := h i (by omega)
      simp only [sumN]
      omega
  intro m
  induction m with
  | zero => intro i hi; rw [show i = l.length by omega]; exact ⟨Int.le_refl _, h0 _ (Nat.le_refl _)⟩
  | succ m ih =>
    intro i hi
    have h1 := (ih (i + 1) (by omega)).1
    have h2 := h i (by omega)
    simp only [sumN] at h1
    exact ⟨by omega, h0 i (by omega)⟩
theorem ex37s : compositorlaw37_exampleHolds.f 40 = some true := by kernel_rfl
set_option maxHeartbeats 8000000 in
set_option maxRecDepth 100000 in
theorem RepeatSplits.calls (r d c n : Int) (A : Option Addr) (l : List Int) (cap : Nat) (w : World) (hr : Kd.C (Kd.int .i64) w A l.length l) (hc : l.length ≤ cap) :
    Calls Try.prog 5 #[.agg #[.int .i64 r, .int .i64 d, .int .i64 c, .int .i64 n], .slice A l.length cap] w fun e w' => e = .returned (.bool true) ∧ Below w.heap.size w w' := by
  have HR := Aside0.mk hr
  have HC := Aside0.mk hc
  have hmax := hr.2.1
  clear hr hc
  have HV := Aside0.mk (valid_f r d c n)
  go_enter Try.func5, Try.ntmps5
  go_upto_region 2 with (first
    | ((with_reducible refine gate_dst (N := 2) rfl ?_); refine box_event ?hg (N := 2) ?hd (cs := #[.int .i64 r, .int .i64 d, .int .i64 c, .int .i64 n]) (t := 48) ?hr ?_; (case hd => rfl); (case hg => rfl); (case hr => first | (go_simp; done) | (go_simp; rfl)); intro gx hg w1 hbox hb; have HB1 := Aside0.mk hb; have HX1 := Aside0.mk hbox; have HGx := Aside0.mk (show w.heap.size ≤ gx by omega); clear hbox hb hg))
  try simp only [Act.put, List.setIfInBounds_toArray, List.set_cons_zero, List.set_cons_succ]
  go_wp2
  go_loopg [5, 6] l.length (fun kq v5 v6 wr => ∃ i : Nat, v6 = .int .i64 (i : Int) ∧ v5 = .int .i64 (sumN l i) ∧ Aside0 (i + kq = l.length) ∧ Aside0 (i ≤ 20) ∧ Aside0 (∀ j : Nat, j < i → 0 ≤ rd l j ∧ rd l j ≤ 3000) ∧ Aside0 (0 ≤ sumN l i ∧ sumN l i ≤ 3000 * i) ∧ Aside0 (wr.heap[gx]? = some (.cells #[.int .i64 r, .int .i64 d, .int .i64 c, .int .i64 n] 48 (0, 0))) ∧ Aside0 (Below w.heap.size w wr))
  case atStart => exact ⟨0, rfl, rfl, ⟨by omega⟩, ⟨by omega⟩, ⟨fun j hj => by omega⟩, ⟨by simp [sumN]⟩, HX1, HB1⟩
  case round =>
    obtain ⟨i, rfl, rfl, HI, H20, HJ, HS, HX, HB⟩ := hrel
    have hi := HI.out
    have hi20 := H20.out
    by_cases hlt : i < l.length
    · have b1 : decide ((i : Int) < (l.length : Int)) = true := decide_eq_true (by omega)
      have b1n : decide (i < l.length) = true := decide_eq_true (by omega)
      by_cases h20 : i < 20
      · have b2 : decide ((i : Int) < 20) = true := decide_eq_true (by omega)
        have b2n : decide (i < 20) = true := decide_eq_true (by omega)
        have hRw := Kd.C_below HR.out HB.out
        obtain ⟨ad, rfl, hx⟩ := Kd.at_int hRw (i : Int) (by omega) (by omega)
        rw [Int.toNat_natCast] at hx
        have p1 : (0 : Int) ≤ (i : Int) := by omega
        have p2 : (i : Int) < (l.length : Int) := by omega
        have p3 : (i : Int) < 20 := by omega
        have s0 := HS.out.1
        have s1 := HS.out.2
        obtain ⟨kq, rfl⟩ : ∃ q, gk = q + 1 := ⟨gk - 1, by omega⟩
        generalize hq : rd l (i : Int) = q at hx
        have HQ := Aside0.mk hq
        clear hRw hq hlt h20
        by_cases c1 : q < 0
        · have b3 : decide (q < 0) = true := decide_eq_true c1
          clear c1
          go_wp2_with (first | (go_at_call 11; refine (compositorlaw37_exampleHolds.calls 40 true _ ex37s).mono ?_; rintro e w3 ⟨rfl, hb⟩; have HB3 := Aside0.mk (below_step HB.out hb); clear hb))
          try rw [Exit.noGoto_ret]
          go_ret
          exact ⟨rfl, HB3.out⟩
        have b3 : decide (q < 0) = false := decide_eq_false c1
        by_cases c2 : 3000 < q
        · have b4 : decide (3000 < q) = true := decide_eq_true c2
          clear c1 c2
          go_wp2_with (first | (go_at_call 11; refine (compositorlaw37_exampleHolds.calls 40 true _ ex37s).mono ?_; rintro e w3 ⟨rfl, hb⟩; have HB3 := Aside0.mk (below_step HB.out hb); clear hb))
          try rw [Exit.noGoto_ret]
          go_ret
          exact ⟨rfl, HB3.out⟩
        have b4 : decide (3000 < q) = false := decide_eq_false c2
        have hS : sumN l (i + 1) = sumN l i + q := by simp only [sumN, HQ.out]
        have HS2 := Aside0.mk hS
        generalize hs : sumN l i = S at s0 s1 HS2 ⊢
        clear hS
        have hs3 : S ≤ 60000 := by omega
        go_wp2
        go_roundg kq
        case measure => omega
        case rel =>
          refine ⟨i + 1, rfl, ?_, ⟨by omega⟩, ⟨by omega⟩, ⟨fun j hj => ?_⟩, ⟨?_⟩, HX, HB⟩
          · rw [HS2.out]
          · by_cases hj2 : j < i
            · exact HJ.out j hj2
            · have : j = i := by omega
              subst this
              rw [HQ.out]
              omega
          · rw [HS2.out]; omega
      · have b2 : decide ((i : Int) < 20) = false := decide_eq_false (by omega)
        have b2n : decide (i < 20) = false := decide_eq_false (by omega)
        have b3 : decide (20 < (l.length : Int)) = true := decide_eq_true (by omega)
        have b3n : decide (20 < l.length) = true := decide_eq_true (by omega)
        have h0 := (blk_cell HX.out 0).trans (show _ = some (Value.int .i64 r) from rfl)
        have h1 := (blk_cell HX.out 1).trans (show _ = some (Value.int .i64 d) from rfl)
        have h2 := (blk_cell HX.out 2).trans (show _ = some (Value.int .i64 c) from rfl)
        have h3 := (blk_cell HX.out 3).trans (show _ = some (Value.int .i64 n) from rfl)
        clear hi hi20 hlt h20
        by_cases hk : okAsk r d c n
        · have hv : decide (okAsk r d c n) = true := decide_eq_true hk
          clear hk
          go_wp2_with (first
            | (go_at_call 23; refine (compositorlaw37_valid.calls r d c n _ _ HV.out).mono ?_; rintro e w2 ⟨rfl, hb⟩; rw [hv]; have HB2 := Aside0.mk (below_step HB.out hb); replace h0 := pw_cell_below hb h0; clear hb)
            | (go_at_call 11; refine (compositorlaw37_exampleHolds.calls 40 true _ ex37s).mono ?_; rintro e w3 ⟨rfl, hb⟩; have HB3 := Aside0.mk (below_step HB2.out hb); clear hb))
          try rw [Exit.noGoto_ret]
          go_ret
          exact ⟨rfl, HB3.out⟩
        · have hv : decide (okAsk r d c n) = false := decide_eq_false hk
          clear hk
          go_wp2_with (first
            | (go_at_call 23; refine (compositorlaw37_valid.calls r d c n _ _ HV.out).mono ?_; rintro e w2 ⟨rfl, hb⟩; rw [hv]; have HB2 := Aside0.mk (below_step HB.out hb); replace h0 := pw_cell_below hb h0; clear hb)
            | (go_at_call 11; refine (compositorlaw37_exampleHolds.calls 40 true _ ex37s).mono ?_; rintro e w3 ⟨rfl, hb⟩; have HB3 := Aside0.mk (below_step HB2.out hb); clear hb))
          try rw [Exit.noGoto_ret]
          go_ret
          exact ⟨rfl, HB3.out⟩
    · have b1 : decide ((i : Int) < (l.length : Int)) = false := decide_eq_false (by omega)
      have b1n : decide (i < l.length) = false := decide_eq_false (by omega)
      have b3 : decide (20 < (l.length : Int)) = false := decide_eq_false (by omega)
      have b3n : decide (20 < l.length) = false := decide_eq_false (by omega)
      have hil : i = l.length := by omega
      have s0 := HS.out.1
      have s1 := HS.out.2
      have h0 := (blk_cell HX.out 0).trans (show _ = some (Value.int .i64 r) from rfl)
      have h1 := (blk_cell HX.out 1).trans (show _ = some (Value.int .i64 d) from rfl)
      have h2 := (blk_cell HX.out 2).trans (show _ = some (Value.int .i64 c) from rfl)
      have h3 := (blk_cell HX.out 3).trans (show _ = some (Value.int .i64 n) from rfl)
      by_cases hk : okAsk r d c n
      case neg =>
        have hv : decide (okAsk r d c n) = false := decide_eq_false hk
        clear hk hi hi20 hlt hil s0 s1
        go_wp2_with (first
          | (go_at_call 23; refine (compositorlaw37_valid.calls r d c n _ _ HV.out).mono ?_; rintro e w2 ⟨rfl, hb⟩; rw [hv]; have HB2 := Aside0.mk (below_step HB.out hb); replace h0 := pw_cell_below hb h0; clear hb)
          | (go_at_call 11; refine (compositorlaw37_exampleHolds.calls 40 true _ ex37s).mono ?_; rintro e w3 ⟨rfl, hb⟩; have HB3 := Aside0.mk (below_step HB2.out hb); clear hb))
        try rw [Exit.noGoto_ret]
        go_ret
        exact ⟨rfl, HB3.out⟩
      have hv : decide (okAsk r d c n) = true := decide_eq_true hk
      have HK := Aside0.mk hk
      unfold okAsk at hk
      have hq0 : 0 ≤ sumN l i * r := Int.mul_nonneg (by omega) (by omega)
      have hq1 : sumN l i * r ≤ sumN l i * 1000 := Int.mul_le_mul_of_nonneg_left (by omega) (by omega)
      have hqw : wrap64 (sumN l i * r) = sumN l i * r := Plain.wr _ (by omega) (by omega)
      by_cases hq : 250000 < sumN l i * r
      · have b4 : decide (250000 < sumN l i * r) = true := decide_eq_true hq
        clear hk hi hi20 hlt hil s0 s1 hq0 hq1 hq
        go_wp2_with (first
          | (go_at_call 23; refine (compositorlaw37_valid.calls r d c n _ _ HV.out).mono ?_; rintro e w2 ⟨rfl, hb⟩; rw [hv]; have HB2 := Aside0.mk (below_step HB.out hb); replace h0 := pw_cell_below hb h0; clear hb)
          | (go_at_call 11; refine (compositorlaw37_exampleHolds.calls 40 true _ ex37s).mono ?_; rintro e w3 ⟨rfl, hb⟩; have HB3 := Aside0.mk (below_step HB2.out hb); clear hb))
        try rw [Exit.noGoto_ret]
        go_ret
        exact ⟨rfl, HB3.out⟩
      have b4 : decide (250000 < sumN l i * r) = false := decide_eq_false hq
      have HQW := Aside0.mk hqw
      have HTot0 := Aside0.mk (Int.not_lt.1 hq)
      clear hqw hq0 hq1 hq
      subst hil
      have HSum := Aside0.mk (sum_mono (l := l) HJ.out)
      have HTot := Aside0.mk (show sumN l l.length * r ≤ 250000 from HTot0.out)
      have HS1 := Aside0.mk (show SL w wr [askR gx r d c n] from sl_new (sl_start w) HB.out (F := fun k => k = gx) ⟨rfl, HX.out⟩ (fun k hk => by rw [hk]; exact ⟨HGx.out, blk_lt HX.out⟩))
      have HS := HS1
      clear HX HB HS1
      clear hk hi hi20 hlt s0 s1
      have hqw := HQW.out
      go_wp2_with (first
        | (go_at_call 23; refine (compositorlaw37_valid.calls r d c n _ _ HV.out).mono ?_; rintro e w2 ⟨rfl, hb⟩; rw [hv]; have hs := sl_below (by repeat (with_reducible first | exact HS.out | apply sl_drewN | apply sl_drew | apply sl_alloc)) hb; clear hb; clear h0 h1 h2 h3; (try simp only [World.size_alloc] at hs); replace HS := Aside0.mk hs; clear hs; have h0 := (blk_cell (sl_blk HS.out 0 rfl) 0).trans (show _ = some (Value.int .i64 r) from rfl); have h1 := (blk_cell (sl_blk HS.out 0 rfl) 1).trans (show _ = some (Value.int .i64 d) from rfl); have h2 := (blk_cell (sl_blk HS.out 0 rfl) 2).trans (show _ = some (Value.int .i64 c) from rfl); have h3 := (blk_cell (sl_blk HS.out 0 rfl) 3).trans (show _ = some (Value.int .i64 n) from rfl))
        | (go_at_call 24; have hz : SL w _ [askR gx r d c n] := HS.out; refine (pressed_sl (by repeat (with_reducible first | exact hz | apply sl_drewN | apply sl_drew | apply sl_alloc)) HK.out).mono ?_; clear hz; rintro e w3 ⟨g1, rfl, hs⟩; clear h0 h1 h2 h3; (try simp only [World.size_alloc] at hs); replace HS := Aside0.mk hs; clear hs; have h0 := (blk_cell (sl_blk HS.out 0 rfl) 0).trans (show _ = some (Value.int .i64 r) from rfl); have h1 := (blk_cell (sl_blk HS.out 0 rfl) 1).trans (show _ = some (Value.int .i64 d) from rfl); have h2 := (blk_cell (sl_blk HS.out 0 rfl) 2).trans (show _ = some (Value.int .i64 c) from rfl); have h3 := (blk_cell (sl_blk HS.out 0 rfl) 3).trans (show _ = some (Value.int .i64 n) from rfl))
        | (go_at_call 24; refine (pressed_sl (by repeat (with_reducible first | exact HS.out | apply sl_drewN | apply sl_drew | apply sl_alloc)) HK.out).mono ?_; rintro e w3 ⟨g2, rfl, hs⟩; clear h0 h1 h2 h3; (try simp only [World.size_alloc] at hs); replace HS := Aside0.mk hs; clear hs; have h0 := (blk_cell (sl_blk HS.out 0 rfl) 0).trans (show _ = some (Value.int .i64 r) from rfl); have h1 := (blk_cell (sl_blk HS.out 0 rfl) 1).trans (show _ = some (Value.int .i64 d) from rfl); have h2 := (blk_cell (sl_blk HS.out 0 rfl) 2).trans (show _ = some (Value.int .i64 c) from rfl); have h3 := (blk_cell (sl_blk HS.out 0 rfl) 3).trans (show _ = some (Value.int .i64 n) from rfl)))
      clear hqw b4
      obtain ⟨k1, k2, k3, k4, k5, k6, k7, k8⟩ := HK.out
      have hd0 : dueN r d 0 = 0 := if_pos (by omega)
      have HSS := Aside0.mk (show SL w _ [askR gx r d c n, tmR g1 r d n (c + 1) n 0, tmR g2 r d n (c + 1) n 0, row53 (.slice none 0 0) []] from sl_nil HS.out k53 enc53 53)
      go_loopg [11, 12, 13] l.length (fun kq v11 v12 v13 wr => ∃ (i : Nat) (A1 : Option Addr) (c1 : Nat), v13 = .int .i64 (i : Int) ∧ v12 = .int .i64 (n + sumN l i) ∧ v11 = .slice A1 (evs r d n (c + 1) 0 (dueN r d (sumN l i)).toNat).length c1 ∧ Aside0 (i + kq = l.length) ∧
        Aside0 (SL w wr [askR gx r d c n, tmR g1 r d (n + sumN l i) (c + 1) n (dueN r d (sumN l i)), tmR g2 r d n (c + 1) n 0, row53 (.slice A1 (evs r d n (c + 1) 0 (dueN r d (sumN l i)).toNat).length c1) (evs r d n (c + 1) 0 (dueN r d (sumN l i)).toNat)]))
      case atStart =>
        have e0 : sumN l 0 = 0 := rfl
        refine ⟨0, none, 0, rfl, ?_, ?_, ⟨by omega⟩, ⟨?_⟩⟩
        · rw [e0, Int.add_zero]
        · rw [e0, hd0]; rfl
        · rw [e0, hd0, Int.add_zero]; exact HSS.out
      case round =>
        clear HSS HS
        obtain ⟨i, A1, c1, rfl, rfl, rfl, HI, HS⟩ := hrel
        have hi := HI.out
        obtain ⟨m1, m2, m3⟩ := HSum.out gk i hi
        obtain ⟨X, hX⟩ : ∃ X, evs r d n (c + 1) 0 (dueN r d (sumN l i)).toNat = X := ⟨_, rfl⟩
        obtain ⟨D, hD⟩ : ∃ D, dueN r d (sumN l i) = D := ⟨_, rfl⟩
        have HD := Aside0.mk hD
        obtain ⟨S, hSd⟩ : ∃ S, sumN l i = S := ⟨_, rfl⟩
        have hDn := dueN_nonneg r d S k1
        have hSr : S * r ≤ 250000 := by
          have h1 : S * r ≤ sumN l l.length * r := Int.mul_le_mul_of_nonneg_right (by omega) (by omega)
          have := HTot.out
          omega
        have hDl := dueN_le r d S k1 k3 (by omega) hSr
        rw [← hSd, hD] at hDn hDl
        have HX := Aside0.mk hX
        have HSd := Aside0.mk hSd
        have hXl : X.length ≤ 300 := by rw [← hX, evs_len, hD]; omega
        rw [hX, hD, hSd] at HS
        rw [hX, hSd]
        have hm4 : S ≤ 60000 := by have := H20.out; omega
        have hm5 : 0 ≤ S := by omega
        clear m1 m2 m3 hX hD hSd
        by_cases hlt2 : i < l.length
        · have b5 : decide (i < l.length) = true := decide_eq_true hlt2
          obtain ⟨kq, rfl⟩ : ∃ m, gk = m + 1 := ⟨gk - 1, by omega⟩
          obtain ⟨ad, rfl, hx⟩ := Kd.at_int (Kd.C_below HR.out (sl_below0 HS.out)) (i : Int) (by omega) (by omega)
          rw [Int.toNat_natCast] at hx
          have hqb := HJ.out i (by omega)
          obtain ⟨m1, m2, m3⟩ := HSum.out kq (i + 1) (by omega)
          have hSq : sumN l (i + 1) = S + rd l (i : Int) := by simp only [sumN, HSd.out]
          rw [hSq] at m1 m2 m3
          generalize hq : rd l (i : Int) = q at hx hqb hSq m1 m2 m3
          have HSq := Aside0.mk hSq
          have hSr2 : (S + q) * r ≤ 250000 := by
            have h1 : (S + q) * r ≤ sumN l l.length * r := Int.mul_le_mul_of_nonneg_right (by omega) (by omega)
            have := HTot.out
            omega
          have hA := advance_g r d (n + S) (c + 1) n (S + q) S k1 k2 k3 k4 k7 k8 hm5 (by omega) (by omega) hSr2 (by omega) (by omega)
          have hDS : dueN r d S = D := by rw [← HSd.out]; exact HD.out
          rw [hDS, show n + (S + q) = n + S + q by omega] at hA
          obtain ⟨D2, hD2⟩ : ∃ D2, dueN r d (S + q) = D2 := ⟨_, rfl⟩
          have g0 := dueN_mono r d S (S + q) k1 (by omega)
          have g1' := dueN_le r d (S + q) k1 k3 (by omega) hSr2
          rw [hDS, hD2] at g0
          rw [hD2] at g1' hA
          obtain ⟨E, hE⟩ : ∃ E, evs r d n (c + 1) D (D2 - D).toNat = E := ⟨_, rfl⟩
          rw [hE] at hA
          have hEl : E.length ≤ 300 := by rw [← hE, evs_len]; omega
          have HA := Aside0.mk hA
          have HJn := Aside0.mk (show X ++ E = evs r d n (c + 1) 0 D2.toNat by
            have h1 := evs_join r d n (c + 1) D.toNat (D2 - D).toNat D (by omega)
            rw [hE, show D.toNat + (D2 - D).toNat = D2.toNat by omega] at h1
            rw [← h1, ← HX.out, HD.out])
          have HD2 := Aside0.mk hD2
          have p1 : (0 : Int) ≤ (i : Int) := by omega
          have p2 : (i : Int) < (l.length : Int) := by omega
          have p3 : 0 ≤ q := by omega
          have p4 : q ≤ 3000 := by omega
          clear m1 m2 m3 hqb hSq hA hSr hSr2 hDS hD2 hE hq g0 g1' hlt2 hi
          go_wp2_with (first
            | (go_at_call 18; refine (adv_sl (by repeat (with_reducible first | exact HS.out | apply sl_drewN | apply sl_drew | apply sl_alloc)) 1 HA.out (by rfl)).mono ?_; rintro e w4 ⟨A3, c3, rfl, hs⟩; (try simp only [World.size_alloc] at hs); replace HS := Aside0.mk hs; clear hs)
            | (at_builtin; refine app53 (by repeat (with_reducible first | exact HS.out | apply sl_drewN | apply sl_drew | apply sl_alloc)) 3 (.slice A1 X.length c1) X E rfl (.tmp 103) (.tmp 106) rfl rfl rfl (by rfl) (sl_readR (by repeat (with_reducible first | exact HS.out | apply sl_drewN | apply sl_drew | apply sl_alloc)) 4 (by rfl)).2.2 (by omega) ?_; intro A4 c4 w5 hs; (try simp only [World.size_alloc] at hs); replace HS := Aside0.mk hs; clear hs))
          go_roundg kq
          case measure => omega
          case rel =>
            refine ⟨i + 1, A4, c4, rfl, ?_, ?_, ⟨by have := HI.out; omega⟩, ⟨?_⟩⟩
            · rw [HSq.out, Int.add_assoc]
            · rw [HSq.out, HD2.out, ← HJn.out, List.length_append]
            · rw [HSq.out, HD2.out, ← HJn.out, List.length_append, ← Int.add_assoc]
              exact sl_take HS.out 4
        · have b5 : decide (i < l.length) = false := decide_eq_false hlt2
          have hA := advance_g r d n (c + 1) n S 0 k1 k2 k3 k4 k7 k8 (Int.le_refl _) hm5 (by omega) hSr (by omega) (by omega)
          have hDS : dueN r d S = D := by rw [← HSd.out]; exact HD.out
          rw [hd0, hDS, Int.sub_zero] at hA
          have hXe : evs r d n (c + 1) 0 D.toNat = X := by rw [← HX.out, HD.out]
          rw [hXe] at hA
          have HA := Aside0.mk hA
          clear hA hDS hXe hSr hlt2 hi hd0
          go_wp2_with (first
            | (go_at_call 18; refine (adv_sl (by repeat (with_reducible first | exact HS.out | apply sl_drewN | apply sl_drew | apply sl_alloc)) 2 HA.out (by rfl)).mono ?_; rintro e w4 ⟨A3, c3, rfl, hs⟩; (try simp only [World.size_alloc] at hs); replace HS := Aside0.mk hs; clear hs)
            | (go_at_call 17; refine (same53 (n := 0) (by repeat (with_reducible first | exact HS.out | apply sl_drewN | apply sl_drew | apply sl_alloc)) X 3 4 (by omega) (by rfl) (by rfl)).mono ?_; rintro e w5 ⟨rfl, hs⟩; (try simp only [World.size_alloc] at hs); replace HS := Aside0.mk hs; clear hs)
            | (go_at_call 11; refine (compositorlaw37_exampleHolds.calls 40 true _ ex37s).mono ?_; rintro e w3 ⟨rfl, hb⟩; have hs := sl_below (by repeat (with_reducible first | exact HS.out | apply sl_drewN | apply sl_drew | apply sl_alloc)) hb; clear hb; (try simp only [World.size_alloc] at hs); replace HS := Aside0.mk hs; clear hs))
          go_ret
          exact ⟨rfl, sl_below0 HS.out⟩
end Go.Proofs.Ytkpeeaekffclgaa.Q
