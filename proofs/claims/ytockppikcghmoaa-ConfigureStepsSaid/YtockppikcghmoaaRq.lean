import Derived.Test.YtockppikcghmoaaQu5
import Derived.Test.YtockppikcghmoaaFr
import Derived.Test.YtockppikcghmoaaSlr
import Derived.Test.YtockppikcghmoaaP20b
namespace Go.Proofs.Ytockppikcghmoaa.Q
open Go.RowKit Go.Proofs.YtockppikcghmoaaW.PrintWords Go.Proofs.YtockppikcghmoaaW.PrintLast Go.Proofs.YtockppikcghmoaaW.PrintMore Go.Proofs.Ytockppikcghmoaa.Sl Go.Proofs.Ytockppikcghmoaa.Hand 
attribute [local go_sem] max2_int min2_int max_two min_two max_three min_three max_four min_four 
set_option linter.unusedVariables false
set_option linter.unusedSimpArgs false

def toR (x : S40) : S43 := ⟨x.f0, x.f1, x.f2, x.f3⟩
theorem rd_toR (l : List S40) (i : Int) : rd_T43 (l.map toR) i = toR (rd_T40 l i) := by
  unfold rd_T43 rd_T40
  rw [List.getD_eq_getElem?_getD, List.getD_eq_getElem?_getD, List.getElem?_map]
  cases l[i.toNat]? <;> rfl
def enc43 (x : S43) : List Value := [.int .u32 x.f0, .int .i64 x.f1, .int .i64 x.f2, .int .i64 x.f3]
theorem flat43 : Flat k43 enc43 := ⟨fun w x => k43_mk w x, fun w x cs h => k43_open h⟩
def dn (q : QSt) : List S43 := if q.acked then [toR q.next] else []
theorem cell_b {w : World} {g t i : Nat} {cs : Array Value} {v : Value} (h : w.heap[g]? = some (.cells cs t (0, 0))) (hv : cs[i]? = some v) : w.cell? ⟨g, i, none⟩ = some v := (blk_cell h i).trans hv
set_option maxHeartbeats 1000000 in
set_option maxRecDepth 100000 in
theorem rat_calls (A A2 : Option Addr) (c n2 c2 : Nat) (b : Bool) (l : List S40) (s : Int) (w : World) (hr : Kd.C k43 w A l.length (l.map toR)) :
    Calls Try.prog 26 #[.agg #[.slice A l.length c, .slice A2 n2 c2, .bool b], .int .u32 s] w fun e w' => e = .returned (.int .i64 (findI l s)) ∧ Below w.heap.size w w' := by
  have HR := Aside0.mk hr
  have hm := hr.2.1
  clear hr
  go_enter Try.func26, Try.ntmps26
  go_upto_region 1 with (first | ((with_reducible refine gate_dst (N := 2) rfl ?_); refine box_event ?hg (N := 2) ?hd (cs := #[.slice A l.length c, .slice A2 n2 c2, .bool b]) (t := 28) ?hr ?_; (case hd => rfl); (case hg => rfl); (case hr => first | (go_simp; done) | (go_simp; rfl)); intro gb hg w1 hbox hb; have HX := Aside0.mk hbox; have HB := Aside0.mk hb; clear hbox hb hg))
  try simp only [Act.put, List.setIfInBounds_toArray, List.set_cons_zero, List.set_cons_succ]
  go_wp2
  go_loopg [5] l.length (fun kq v5 wr => ∃ i : Nat, v5 = .int .i64 (i : Int) ∧ Aside0 (i + kq = l.length) ∧ Aside0 (∀ j : Nat, j < i → (rd_T40 l (j : Int)).f0 ≠ s) ∧ Aside0 (Below w.heap.size w wr) ∧ Aside0 (wr.heap[gb]? = some (.cells #[.slice A l.length c, .slice A2 n2 c2, .bool b] 28 (0, 0))))
  case atStart => exact ⟨0, rfl, ⟨by omega⟩, ⟨fun j hj => by omega⟩, HB, HX⟩
  case round =>
    clear HB HX
    obtain ⟨i, rfl, HI, HJ, HB, HX⟩ := hrel
    have hi := HI.out
    have h0 := (blk_cell HX.out 0).trans (show _ = some (Value.slice A l.length c) from rfl)
    by_cases hlt : i < l.length
    · have b1 : decide (i < l.length) = true := decide_eq_true hlt
      obtain ⟨kq, rfl⟩ : ∃ m, gk = m + 1 := ⟨gk - 1, by omega⟩
      obtain ⟨ad, rfl, x0, x1, x2, x3⟩ := at_T43 (Kd.C_below HR.out HB.out) (i : Int) (by omega) (by omega)
      rw [Int.toNat_natCast, rd_toR] at x0 x1 x2 x3
      have p1 : (0 : Int) ≤ (i : Int) := by omega
      have p2 : (i : Int) < (l.length : Int) := by omega
      generalize hx : rd_T40 l (i : Int) = x at x0 x1 x2 x3
      have HX2 := Aside0.mk hx
      have y0 : wr.cell? (ad.add (i * 4)) = some (.int .u32 x.f0) := x0
      clear hx hlt x0 x1 x2 x3
      by_cases hs : x.f0 = s
      · have HS := Aside0.mk hs
        have b2 : (x.f0 == s) = true := beq_iff_eq.2 hs
        clear hs
        go_wp2
        go_ret
        exact ⟨ret_i (findI_at HJ.out (by have := HI.out; omega) (by rw [HX2.out]; exact HS.out)).symm, HB.out⟩
      · have HS := Aside0.mk hs
        have b2 : (x.f0 == s) = false := beq_eq_false_iff_ne.2 hs
        clear hs
        go_wp2
        go_roundg kq
        case measure => omega
        case rel =>
          refine ⟨i + 1, rfl, ⟨by omega⟩, ⟨fun j hj => ?_⟩, HB, HX⟩
          by_cases hj2 : j < i
          · exact HJ.out j hj2
          · have : j = i := by omega
            subst this
            rw [HX2.out]
            exact HS.out
    · have b1 : decide (i < l.length) = false := decide_eq_false hlt
      have e : findI l s = -1 := findI_none (fun j hj => HJ.out j (by omega))
      have E := Aside0.mk e
      clear e hlt
      go_wp2
      go_ret
      exact ⟨ret_i E.out.symm, HB.out⟩
theorem cell_drew {w : World} {a : Addr} {v : Value} (h : w.cell? a = some v) : w.drew.cell? a = some v := h
theorem far_cell {w : World} {p : Addr} {g i : Nat} {v : Value} (h : w.cell? ⟨g, i, none⟩ = some v) (hne : g ≠ p.block) (u : Value) : (w.setCell p u).cell? ⟨g, i, none⟩ = some v :=
  (World.cell?_setCell_other w p ⟨g, i, none⟩ u (fun e => hne (by rw [e]))).trans h
def refR (s1 s2 : Value) (q : QSt) : Res where
  P := fun w F => FR k43 w F s1 (q.wait.map toR) ∧ FR k43 w F s2 (dn q)
  loc := fun ⟨h1, h2⟩ hm => ⟨h1.step' hm, h2.step' hm⟩
theorem refR_below {s1 s2 : Value} {q : QSt} {F : Nat → Prop} {w w' : World} (h : (refR s1 s2 q).P w F) (hb : Below w.heap.size w w') : (refR s1 s2 q).P w' (fun k => F k ∨ w.heap.size ≤ k) :=
  ⟨(h.1.below hb).mono fun k hk _ => .inl hk, (h.2.below hb).mono fun k hk _ => .inl hk⟩
theorem refR_bound {s1 s2 : Value} {q : QSt} {F : Nat → Prop} {w : World} (h : (refR s1 s2 q).P w F) : (refR s1 s2 q).P w (fun k => F k ∧ k < w.heap.size) :=
  ⟨h.1.mono fun k hk hlt => ⟨hk, hlt⟩, h.2.mono fun k hk hlt => ⟨hk, hlt⟩⟩
def rv (s1 s2 : Value) (b : Bool) : Value := .agg #[s1, s2, .bool b]
theorem rNew_calls (w0 w : World) (L : List Res) (h : SL w0 w L) : Calls Try.prog 11 #[] w fun e w' => e = .returned (rv (.slice none 0 0) (.slice none 0 0) false) ∧ SL w0 w' (L ++ [refR (.slice none 0 0) (.slice none 0 0) q0]) := by
  have H := Aside0.mk h
  clear h
  go_enter Try.func11, Try.ntmps11
  go_wp2
  refine bodyPost_ret (results_cell_row rfl _ _ w.heap.size 28 #[.slice none 0 0, .slice none 0 0, .bool false] (0, 0) _ rfl (heap_alloc_new _ _) Try.underlying28 rfl (by kernel_rfl)) rfl ⟨rfl, ?_⟩
  exact sl_new H.out (below_alloc (Below.refl _ _) _) (F := fun _ => False) ⟨FR.nil _ _ _, FR.nil _ _ _⟩ (fun k hk => hk.elim)
theorem rWaiting_calls {s1 s2 : Value} {q : QSt} {F : Nat → Prop} {w : World} (h : (refR s1 s2 q).P w F) : Calls Try.prog 21 #[rv s1 s2 q.conf] w fun e w' => e = .returned (.int .i64 q.wait.length) ∧ Below w.heap.size w w' := by
  obtain ⟨A, c, hs1, _⟩ := h.1.reads
  rw [List.length_map] at hs1
  subst hs1
  obtain ⟨A2, c2, rfl, _⟩ := h.2.reads
  clear h
  unfold rv
  go_enter Try.func21, Try.ntmps21
  go_wp2
  go_ret
  exact ⟨rfl, below_alloc (Below.refl _ _) _⟩
theorem rConfigured_calls {s1 s2 : Value} {q : QSt} {F : Nat → Prop} {w : World} (h : (refR s1 s2 q).P w F) : Calls Try.prog 23 #[rv s1 s2 q.conf] w fun e w' => e = .returned (.bool q.conf) ∧ Below w.heap.size w w' := by
  obtain ⟨A, c, hs1, _⟩ := h.1.reads
  rw [List.length_map] at hs1
  subst hs1
  obtain ⟨A2, c2, rfl, _⟩ := h.2.reads
  clear h
  unfold rv
  go_enter Try.func23, Try.ntmps23
  go_wp2
  go_ret
  exact ⟨rfl, below_alloc (Below.refl _ _) _⟩
set_option maxHeartbeats 2000000 in
set_option maxRecDepth 100000 in
theorem rAcked_calls {s1 s2 : Value} {q : QSt} {F : Nat → Prop} {w : World} (h : (refR s1 s2 q).P w F) (hz : q.acked = false → q.next = z40) : Calls Try.prog 19 #[rv s1 s2 q.conf] w fun e w' => e = .returned (rcfg q.next q.acked) ∧ Below w.heap.size w w' := by
  obtain ⟨A, c, hs1, _⟩ := h.1.reads
  rw [List.length_map] at hs1
  subst hs1
  cases ha : q.acked
  · have h2 := h.2
    unfold dn at h2
    rw [ha] at h2
    obtain ⟨A2, c2, rfl, _⟩ := h2.reads
    rw [hz ha]
    clear h h2 hz ha
    unfold rv
    go_enter Try.func19, Try.ntmps19
    go_wp2
    refine bodyPost_ret (results_ct rfl _ _ (w.heap.size + 1) 43 #[.int .u32 0, .int .i64 0, .int .i64 0, .int .i64 0] (0, 0) _ rfl ?_ Try.underlying43 rfl (by kernel_rfl)) rfl ⟨rfl, ?_⟩
    · have := heap_alloc_new (w.alloc (.cells #[.slice A q.wait.length c, .slice A2 0 c2, .bool q.conf] 28)) (.cells #[.int .u32 0, .int .i64 0, .int .i64 0, .int .i64 0] 43)
      simpa using this
    · exact below_alloc (below_alloc (Below.refl _ _) _) _
  · have h2 := h.2
    unfold dn at h2
    rw [ha] at h2
    obtain ⟨A2, c2, hs2, hc2, hr2⟩ := h2.reads
    obtain rfl : s2 = .slice A2 1 c2 := hs2
    have hr2' : Kd.C k43 w A2 1 [toR q.next] := hr2
    obtain ⟨ad, rfl, x0, x1, x2, x3⟩ := at_T43 (Kd.C_below hr2' (below_alloc (below_alloc (Below.refl _ _) (.cells #[.slice A q.wait.length c, .slice A2 1 c2, .bool q.conf] 28)) (.cells #[.int .u32 0, .int .i64 0, .int .i64 0, .int .i64 0] 43))) 0 (by omega) (by omega)
    rw [show ad.add ((0 : Int).toNat * 4) = ad from by simp [Addr.add]] at x0 x1 x2 x3
    have y0 : _ = some (Value.int .u32 q.next.f0) := x0
    have y1 : _ = some (Value.int .i64 q.next.f1) := x1
    have y2 : _ = some (Value.int .i64 q.next.f2) := x2
    have y3 : _ = some (Value.int .i64 q.next.f3) := x3
    clear h h2 hz ha hr2 hr2' hc2 x0 x1 x2 x3
    unfold rv
    go_enter Try.func19, Try.ntmps19
    go_wp2
    refine bodyPost_ret (results_ct rfl _ _ (w.heap.size + 1) 43 #[.int .u32 q.next.f0, .int .i64 q.next.f1, .int .i64 q.next.f2, .int .i64 q.next.f3] (0, 0) _ rfl ?_ Try.underlying43 rfl (by kernel_rfl)) rfl ⟨rfl, ?_⟩
    · have := heap_alloc_new (w.alloc (.cells #[.slice A q.wait.length c, .slice (some ad) 1 c2, .bool q.conf] 28)) (.cells #[.int .u32 q.next.f0, .int .i64 q.next.f1, .int .i64 q.next.f2, .int .i64 q.next.f3] 43)
      simpa using this
    · exact below_alloc (below_alloc (Below.refl _ _) _) _
theorem rAcked_calls' {b : Bool} {s1 s2 : Value} {q : QSt} {F : Nat → Prop} {w : World} (hb : q.conf = b) (h : (refR s1 s2 q).P w F) (hz : q.acked = false → q.next = z40) : Calls Try.prog 19 #[rv s1 s2 b] w fun e w' => e = .returned (rcfg q.next q.acked) ∧ Below w.heap.size w w' := hb ▸ rAcked_calls h hz
def rans (s1 s2 : Value) (b : Bool) (e : Int) : Value := .tuple #[rv s1 s2 b, .int .i64 e]
/-- What a call of the reference leaves that answers with a queue and an error. -/
def RP (F : Nat → Prop) (w : World) (q : QSt) (er : Int) (e : Ending) (w' : World) : Prop := ∃ x : Value × Value, e = .returned (rans x.1 x.2 q.conf er) ∧ (refR x.1 x.2 q).P w' (fun k => F k ∨ w.heap.size ≤ k) ∧ Below w.heap.size w w'
set_option maxHeartbeats 4000000 in
set_option maxRecDepth 100000 in
theorem rSend_calls {s1 s2 : Value} {q : QSt} {F : Nat → Prop} {w : World} (s a b st : Int) (h : (refR s1 s2 q).P w F) :
    Calls Try.prog 13 #[rv s1 s2 q.conf, .int .u32 s, .int .i64 a, .int .i64 b, .int .i64 st] w (RP F w (sendS q s a b st) (sendE q s a b)) := by
  have HH := Aside0.mk h
  obtain ⟨A, c, hs1, hc1, hr1⟩ := h.1.reads
  rw [List.length_map] at hs1 hc1 hr1
  subst hs1
  obtain ⟨A2, c2, hs2, _⟩ := h.2.reads
  generalize (dn q).length = n2 at hs2
  subst hs2
  have HR := Aside0.mk hr1
  have HC := Aside0.mk hc1
  have fin (x : Int) (hx : x ≠ 0) (he : sendE q s a b = x) : ∀ w', Below w.heap.size w w' → RP F w (sendS q s a b st) (sendE q s a b) (.returned (rans (.slice A q.wait.length c) (.slice A2 n2 c2) q.conf x)) w' := fun w' hb => by
    rw [sendS_no (by rw [he]; exact hx), he]
    exact ⟨(_, _), rfl, refR_below HH.out hb, hb⟩
  have HF := Aside0.mk fin
  clear h hr1 hc1 fin
  unfold rv
  by_cases k1 : 0 ≤ findI q.wait s
  · have E := Aside0.mk (sendE_dup (a := a) (b := b) k1)
    go_enter Try.func13, Try.ntmps13
    go_wp2_with (first | ((with_reducible refine gate_dst (N := 5) rfl ?_); refine box_event ?hg (N := 5) ?hd (cs := #[.slice A q.wait.length c, .slice A2 n2 c2, .bool q.conf]) (t := 28) ?hr ?_; (case hd => rfl); (case hg => rfl); (case hr => first | (go_simp; done) | (go_simp; rfl)); intro gb hg w1 hbox hb; have HX := Aside0.mk hbox; have HB := Aside0.mk hb; have HGB := Aside0.mk hg; clear hbox hb hg) | ((with_reducible refine gate_dst (N := 10) rfl ?_); refine box_event ?hg (N := 10) ?hd (cs := #[.slice none 0 0, .slice none 0 0, .bool false]) (t := 28) ?hr ?_; (case hd => rfl); (case hg => rfl); (case hr => first | (go_simp; done) | (go_simp; rfl)); intro gr hg w2 hbox hb; have HY := Aside0.mk hbox; have GN := Aside0.mk (show gr ≠ gb by have := blk_lt HX.out; omega); replace HX := Aside0.mk (blk_below HX.out hb); have GE := Aside0.mk (show w.heap.size ≤ gr by have := HB.out.size; omega); replace HB := Aside0.mk (below_step HB.out hb); have hx0 := (blk_cell HX.out 0).trans (show _ = some (Value.slice A q.wait.length c) from rfl); have hx1 := (blk_cell HX.out 1).trans (show _ = some (Value.slice A2 n2 c2) from rfl); have hx2 := (blk_cell HX.out 2).trans (show _ = some (Value.bool q.conf) from rfl); clear hbox hb hg) | (go_at_call 26; refine (rat_calls A A2 c n2 c2 q.conf q.wait s _ (Kd.C_below HR.out HB.out)).mono ?_; rintro e w3 ⟨rfl, hb⟩; replace HX := Aside0.mk (blk_below HX.out hb); replace HY := Aside0.mk (blk_below HY.out hb); replace HB := Aside0.mk (below_step HB.out hb); clear hb; have hx0 := (blk_cell HX.out 0).trans (show _ = some (Value.slice A q.wait.length c) from rfl); have hx1 := (blk_cell HX.out 1).trans (show _ = some (Value.slice A2 n2 c2) from rfl); have hx2 := (blk_cell HX.out 2).trans (show _ = some (Value.bool q.conf) from rfl); have hy0 := (blk_cell HY.out 0).trans (show _ = some (Value.slice none 0 0) from rfl); have hy1 := (blk_cell HY.out 1).trans (show _ = some (Value.slice none 0 0) from rfl); have hy2 := (blk_cell HY.out 2).trans (show _ = some (Value.bool false) from rfl); have xf0 := blk_frozen HX.out 0; have xf1 := blk_frozen HX.out 1; have xf2 := blk_frozen HX.out 2; have yf0 := blk_frozen HY.out 0; have yf1 := blk_frozen HY.out 1; have yf2 := blk_frozen HY.out 2; have gn := GN.out; have gn2 := Ne.symm gn; have hl1 := blk_lt HX.out; have hl2 := blk_lt HY.out))
    refine bodyPost_ret (results_ct rfl _ _ gr 28 #[.slice A q.wait.length c, .slice A2 n2 c2, .bool q.conf] (0, 0) _ rfl (by exact blk_set (blk_set (blk_set HY.out 0 _) 1 _) 2 _) Try.underlying28 rfl (by kernel_rfl)) rfl ?_
    exact HF.out 7 (by decide) E.out _ (by repeat (with_reducible first | exact HB.out | refine below_set ?_ GE.out))
  by_cases k2 : 0 ≤ a ∧ a ≤ 16384 ∧ 0 ≤ b ∧ b ≤ 16384
  case neg =>
    have E := Aside0.mk (sendE_range (q := q) (s := s) (by omega) k2)
    go_enter Try.func13, Try.ntmps13
    go_wp2_with (first | ((with_reducible refine gate_dst (N := 5) rfl ?_); refine box_event ?hg (N := 5) ?hd (cs := #[.slice A q.wait.length c, .slice A2 n2 c2, .bool q.conf]) (t := 28) ?hr ?_; (case hd => rfl); (case hg => rfl); (case hr => first | (go_simp; done) | (go_simp; rfl)); intro gb hg w1 hbox hb; have HX := Aside0.mk hbox; have HB := Aside0.mk hb; have HGB := Aside0.mk hg; clear hbox hb hg) | ((with_reducible refine gate_dst (N := 10) rfl ?_); refine box_event ?hg (N := 10) ?hd (cs := #[.slice none 0 0, .slice none 0 0, .bool false]) (t := 28) ?hr ?_; (case hd => rfl); (case hg => rfl); (case hr => first | (go_simp; done) | (go_simp; rfl)); intro gr hg w2 hbox hb; have HY := Aside0.mk hbox; have GN := Aside0.mk (show gr ≠ gb by have := blk_lt HX.out; omega); replace HX := Aside0.mk (blk_below HX.out hb); have GE := Aside0.mk (show w.heap.size ≤ gr by have := HB.out.size; omega); replace HB := Aside0.mk (below_step HB.out hb); have hx0 := (blk_cell HX.out 0).trans (show _ = some (Value.slice A q.wait.length c) from rfl); have hx1 := (blk_cell HX.out 1).trans (show _ = some (Value.slice A2 n2 c2) from rfl); have hx2 := (blk_cell HX.out 2).trans (show _ = some (Value.bool q.conf) from rfl); clear hbox hb hg) | (go_at_call 26; refine (rat_calls A A2 c n2 c2 q.conf q.wait s _ (Kd.C_below HR.out HB.out)).mono ?_; rintro e w3 ⟨rfl, hb⟩; replace HX := Aside0.mk (blk_below HX.out hb); replace HY := Aside0.mk (blk_below HY.out hb); replace HB := Aside0.mk (below_step HB.out hb); clear hb; have hx0 := (blk_cell HX.out 0).trans (show _ = some (Value.slice A q.wait.length c) from rfl); have hx1 := (blk_cell HX.out 1).trans (show _ = some (Value.slice A2 n2 c2) from rfl); have hx2 := (blk_cell HX.out 2).trans (show _ = some (Value.bool q.conf) from rfl); have hy0 := (blk_cell HY.out 0).trans (show _ = some (Value.slice none 0 0) from rfl); have hy1 := (blk_cell HY.out 1).trans (show _ = some (Value.slice none 0 0) from rfl); have hy2 := (blk_cell HY.out 2).trans (show _ = some (Value.bool false) from rfl); have xf0 := blk_frozen HX.out 0; have xf1 := blk_frozen HX.out 1; have xf2 := blk_frozen HX.out 2; have yf0 := blk_frozen HY.out 0; have yf1 := blk_frozen HY.out 1; have yf2 := blk_frozen HY.out 2; have gn := GN.out; have gn2 := Ne.symm gn; have hl1 := blk_lt HX.out; have hl2 := blk_lt HY.out))
    all_goals first
      | (exfalso; omega)
      | (refine bodyPost_ret (results_ct rfl _ _ gr 28 #[.slice A q.wait.length c, .slice A2 n2 c2, .bool q.conf] (0, 0) _ rfl (by exact blk_set (blk_set (blk_set HY.out 0 _) 1 _) 2 _) Try.underlying28 rfl (by kernel_rfl)) rfl ?_
         exact HF.out 6 (by decide) E.out _ (by repeat (with_reducible first | exact HB.out | refine below_set ?_ GE.out)))
  obtain ⟨p1, p2, p3, p4⟩ := k2
  by_cases k3 : 64 ≤ q.wait.length
  · have E := Aside0.mk (show sendE q s a b = 5 by unfold sendE; rw [if_neg (by omega), if_neg (by omega), if_pos k3])
    have b3 : decide (64 ≤ (q.wait.length : Int)) = true := decide_eq_true (by omega)
    go_enter Try.func13, Try.ntmps13
    go_wp2_with (first | ((with_reducible refine gate_dst (N := 5) rfl ?_); refine box_event ?hg (N := 5) ?hd (cs := #[.slice A q.wait.length c, .slice A2 n2 c2, .bool q.conf]) (t := 28) ?hr ?_; (case hd => rfl); (case hg => rfl); (case hr => first | (go_simp; done) | (go_simp; rfl)); intro gb hg w1 hbox hb; have HX := Aside0.mk hbox; have HB := Aside0.mk hb; have HGB := Aside0.mk hg; clear hbox hb hg) | ((with_reducible refine gate_dst (N := 10) rfl ?_); refine box_event ?hg (N := 10) ?hd (cs := #[.slice none 0 0, .slice none 0 0, .bool false]) (t := 28) ?hr ?_; (case hd => rfl); (case hg => rfl); (case hr => first | (go_simp; done) | (go_simp; rfl)); intro gr hg w2 hbox hb; have HY := Aside0.mk hbox; have GN := Aside0.mk (show gr ≠ gb by have := blk_lt HX.out; omega); replace HX := Aside0.mk (blk_below HX.out hb); have GE := Aside0.mk (show w.heap.size ≤ gr by have := HB.out.size; omega); replace HB := Aside0.mk (below_step HB.out hb); have hx0 := (blk_cell HX.out 0).trans (show _ = some (Value.slice A q.wait.length c) from rfl); have hx1 := (blk_cell HX.out 1).trans (show _ = some (Value.slice A2 n2 c2) from rfl); have hx2 := (blk_cell HX.out 2).trans (show _ = some (Value.bool q.conf) from rfl); clear hbox hb hg) | (go_at_call 26; refine (rat_calls A A2 c n2 c2 q.conf q.wait s _ (Kd.C_below HR.out HB.out)).mono ?_; rintro e w3 ⟨rfl, hb⟩; replace HX := Aside0.mk (blk_below HX.out hb); replace HY := Aside0.mk (blk_below HY.out hb); replace HB := Aside0.mk (below_step HB.out hb); clear hb; have hx0 := (blk_cell HX.out 0).trans (show _ = some (Value.slice A q.wait.length c) from rfl); have hx1 := (blk_cell HX.out 1).trans (show _ = some (Value.slice A2 n2 c2) from rfl); have hx2 := (blk_cell HX.out 2).trans (show _ = some (Value.bool q.conf) from rfl); have hy0 := (blk_cell HY.out 0).trans (show _ = some (Value.slice none 0 0) from rfl); have hy1 := (blk_cell HY.out 1).trans (show _ = some (Value.slice none 0 0) from rfl); have hy2 := (blk_cell HY.out 2).trans (show _ = some (Value.bool false) from rfl); have xf0 := blk_frozen HX.out 0; have xf1 := blk_frozen HX.out 1; have xf2 := blk_frozen HX.out 2; have yf0 := blk_frozen HY.out 0; have yf1 := blk_frozen HY.out 1; have yf2 := blk_frozen HY.out 2; have gn := GN.out; have gn2 := Ne.symm gn; have hl1 := blk_lt HX.out; have hl2 := blk_lt HY.out))
    refine bodyPost_ret (results_ct rfl _ _ gr 28 #[.slice A q.wait.length c, .slice A2 n2 c2, .bool q.conf] (0, 0) _ rfl (by exact blk_set (blk_set (blk_set HY.out 0 _) 1 _) 2 _) Try.underlying28 rfl (by kernel_rfl)) rfl ?_
    exact HF.out 5 (by decide) E.out _ (by repeat (with_reducible first | exact HB.out | refine below_set ?_ GE.out))
  have e0 := sendE_fits (q := q) (s := s) (a := a) (b := b) (by omega) (by omega) ⟨p1, p2, p3, p4⟩
  have E := Aside0.mk e0
  have b3 : decide (64 ≤ (q.wait.length : Int)) = false := decide_eq_false (by omega)
  have hl64 : (([] : List S43).length + q.wait.length) * 32 ≤ 140737488355328 := by simp; omega
  have hl65 : (q.wait.length + 1) * 32 ≤ 140737488355328 := by omega
  clear e0
  go_enter Try.func13, Try.ntmps13
  go_wp2_with (first
    | ((with_reducible refine gate_dst (N := 5) rfl ?_); refine box_event ?hg (N := 5) ?hd (cs := #[.slice A q.wait.length c, .slice A2 n2 c2, .bool q.conf]) (t := 28) ?hr ?_; (case hd => rfl); (case hg => rfl); (case hr => first | (go_simp; done) | (go_simp; rfl)); intro gb hg w1 hbox hb; have HX := Aside0.mk hbox; have HB := Aside0.mk hb; have HGB := Aside0.mk hg; clear hbox hb hg)
    | ((with_reducible refine gate_dst (N := 10) rfl ?_); refine box_event ?hg (N := 10) ?hd (cs := #[.slice none 0 0, .slice none 0 0, .bool false]) (t := 28) ?hr ?_; (case hd => rfl); (case hg => rfl); (case hr => first | (go_simp; done) | (go_simp; rfl)); intro gr hg w2 hbox hb; have HY := Aside0.mk hbox; have GN := Aside0.mk (show gr ≠ gb by have := blk_lt HX.out; omega); replace HX := Aside0.mk (blk_below HX.out hb); have GE := Aside0.mk (show w.heap.size ≤ gr by have := HB.out.size; omega); replace HB := Aside0.mk (below_step HB.out hb); have hx0 := (blk_cell HX.out 0).trans (show _ = some (Value.slice A q.wait.length c) from rfl); have hx1 := (blk_cell HX.out 1).trans (show _ = some (Value.slice A2 n2 c2) from rfl); have hx2 := (blk_cell HX.out 2).trans (show _ = some (Value.bool q.conf) from rfl); clear hbox hb hg)
    | (go_at_call 26; refine (rat_calls A A2 c n2 c2 q.conf q.wait s _ (Kd.C_below HR.out HB.out)).mono ?_; rintro e w3 ⟨rfl, hb⟩; replace HX := Aside0.mk (blk_below HX.out hb); replace HY := Aside0.mk (blk_below HY.out hb); replace HB := Aside0.mk (below_step HB.out hb); clear hb; have hx0 := (blk_cell HX.out 0).trans (show _ = some (Value.slice A q.wait.length c) from rfl); have hx1 := (blk_cell HX.out 1).trans (show _ = some (Value.slice A2 n2 c2) from rfl); have hx2 := (blk_cell HX.out 2).trans (show _ = some (Value.bool q.conf) from rfl); have hy0 := (blk_cell HY.out 0).trans (show _ = some (Value.slice none 0 0) from rfl); have hy1 := (blk_cell HY.out 1).trans (show _ = some (Value.slice none 0 0) from rfl); have hy2 := (blk_cell HY.out 2).trans (show _ = some (Value.bool false) from rfl); have xf0 := blk_frozen HX.out 0; have xf1 := blk_frozen HX.out 1; have xf2 := blk_frozen HX.out 2; have yf0 := blk_frozen HY.out 0; have yf1 := blk_frozen HY.out 1; have yf2 := blk_frozen HY.out 2; have gn := GN.out; have gn2 := Ne.symm gn; have hl1 := blk_lt HX.out; have hl2 := blk_lt HY.out)
    | (at_builtin; refine LR.append_rows (v := .slice none 0 0) flat43 rfl (.tmp 41) (.tmp 43) 26 (.agg #[.int .u32 0, .int .i64 0, .int .i64 0, .int .i64 0]) 32 rfl Try.underlying26 info43 rfl (by decide) (by decide) rfl rfl (LR.nil k43 enc43 43 _ (fun _ => False)) (Kd.C_below HR.out HB.out) hl64 ?_; intro v1 w2 hq hg; have HQ := Aside0.mk hq; have HB2 := Aside0.mk (Below.grown HB.out hg (by have := HB.out.size; omega) (by simp [Value.ownBlock])); have HX2 := Aside0.mk (blk_grown HX.out hg (by simp [Value.ownBlock])); have HY2 := Aside0.mk (blk_grown HY.out hg (by simp [Value.ownBlock])); clear hq hg)
    | (at_builtin; refine LR.append_one (v := v1) flat43 rfl (.tmp 44) (.tmp 50) 26 (.agg #[.int .u32 0, .int .i64 0, .int .i64 0, .int .i64 0]) 32 rfl Try.underlying26 info43 rfl (by decide) (by decide) (⟨s, a, b, st⟩ : S43) [.int .u32 s, .int .i64 a, .int .i64 b, .int .i64 st] rfl rfl rfl HQ.out (by simpa using hl65) ?_; intro v2 w4 hq hg; have HQ3 := Aside0.mk hq; have HB3 := Aside0.mk (Below.grown HB2.out hg (by have := HB2.out.size; omega) (fun k hk => (HQ.out.1 k hk).elim (fun h => h.elim) (fun h => Nat.le_trans HB.out.size h))); have HX3 := Aside0.mk (blk_grown HX2.out hg (HQ.out.ne HX2.out (by decide))); have HY3 := Aside0.mk (blk_grown HY2.out hg (HQ.out.ne HY2.out (by decide))); obtain ⟨A4, c4, hv2, _⟩ := HQ3.out.slice; simp only [List.nil_append, List.length_append, List.length_map, List.length_singleton] at hv2; subst hv2; clear hq hg; replace HX := HX3; replace HY := HY3; have hx0 := (blk_cell HX.out 0).trans (show _ = some (Value.slice A q.wait.length c) from rfl); have hx1 := (blk_cell HX.out 1).trans (show _ = some (Value.slice A2 n2 c2) from rfl); have hx2 := (blk_cell HX.out 2).trans (show _ = some (Value.bool q.conf) from rfl); have hy0 := (blk_cell HY.out 0).trans (show _ = some (Value.slice none 0 0) from rfl); have hy1 := (blk_cell HY.out 1).trans (show _ = some (Value.slice none 0 0) from rfl); have hy2 := (blk_cell HY.out 2).trans (show _ = some (Value.bool false) from rfl); have xf0 := blk_frozen HX.out 0; have xf1 := blk_frozen HX.out 1; have xf2 := blk_frozen HX.out 2; have yf0 := blk_frozen HY.out 0; have yf1 := blk_frozen HY.out 1; have yf2 := blk_frozen HY.out 2; have gn := GN.out; have gn2 := Ne.symm gn; have hl1 := blk_lt HX.out; have hl2 := blk_lt HY.out))
  have hgb : ∃ cells, w4.heap[gb]? = some (.cells cells 28 (0, 0)) := ⟨_, HX3.out⟩
  have GB := Aside0.mk (show w.heap.size ≤ gb by rw [HGB.out]; exact Nat.le_refl _)
  refine bodyPost_ret (results_ct rfl _ _ gr 28 #[.slice A4 (q.wait.length + 1) c4, .slice A2 n2 c2, .bool q.conf] (0, 0) _ rfl (by exact blk_set (blk_set (blk_set (blk_far HY3.out GN.out _) 0 _) 1 _) 2 _) Try.underlying28 rfl (by kernel_rfl)) rfl ?_
  have HF2 : ∀ g0, (∃ cells, w4.heap[g0]? = some (.cells cells 28 (0, 0))) → ∀ p : Addr, p.block = g0 → ¬ ((fun k => ((False ∨ w3.heap.size ≤ k) ∨ w2.heap.size ≤ k) ∧ k < w4.heap.size ∧ ∃ cells, w4.heap[k]? = some (.cells cells 43 (0, 0))) p.block) := by
    rintro g0 ⟨cs, hcs⟩ p rfl ⟨_, _, cs', hcs'⟩
    rw [hcs] at hcs'
    injection hcs' with h1
    injection h1 with _ h2
    exact absurd h2 (by decide)
  have HBf : Below w.heap.size w ((((w4.setCell ⟨gb, 0, none⟩ (.slice A4 (q.wait.length + 1) c4)).setCell ⟨gr, 0, none⟩ (.slice A4 (q.wait.length + 1) c4)).setCell ⟨gr, 1, none⟩ (.slice A2 n2 c2)).setCell ⟨gr, 2, none⟩ (.bool q.conf)) :=
    below_set (below_set (below_set (below_set HB3.out GB.out) GE.out) GE.out) GE.out
  refine ⟨(.slice A4 (q.wait.length + 1) c4, .slice A2 n2 c2), by rw [sendS_ok E.out, E.out]; rfl, ?_, HBf⟩
  rw [sendS_ok E.out]
  refine ⟨?_, (refR_below HH.out HBf).2⟩
  have h1 := FR.of_lr flat43 HQ3.out.bound
  have h2 := FR.far (FR.far (FR.far (FR.far h1 (p := ⟨gb, 0, none⟩) (HF2 gb ⟨_, HX3.out⟩ _ rfl) (.slice A4 (q.wait.length + 1) c4)) (p := ⟨gr, 0, none⟩) (HF2 gr ⟨_, HY3.out⟩ _ rfl) (.slice A4 (q.wait.length + 1) c4)) (p := ⟨gr, 1, none⟩) (HF2 gr ⟨_, HY3.out⟩ _ rfl) (.slice A2 n2 c2)) (p := ⟨gr, 2, none⟩) (HF2 gr ⟨_, HY3.out⟩ _ rfl) (.bool q.conf)
  have h3 := h2.mono (F' := fun k => F k ∨ w.heap.size ≤ k) (fun k hk _ => by
    have z1 := HB.out.size
    have z2 := HB2.out.size
    rcases hk.1 with (h | h) | h
    · exact h.elim
    · exact .inr (Nat.le_trans z1 h)
    · exact .inr (Nat.le_trans z2 h))
  have e : (q.wait ++ [(⟨s, a, b, st⟩ : S40)]).map toR = [] ++ q.wait.map toR ++ [⟨s, a, b, st⟩] := by rw [List.map_append]; rfl
  show FR k43 _ _ _ ((q.wait ++ [(⟨s, a, b, st⟩ : S40)]).map toR)
  rw [e]
  exact h3
set_option maxHeartbeats 4000000 in
set_option maxRecDepth 100000 in
theorem rAck_calls {s1 s2 : Value} {q : QSt} {F : Nat → Prop} {w : World} (s : Int) (h : (refR s1 s2 q).P w F) :
    Calls Try.prog 15 #[rv s1 s2 q.conf, .int .u32 s] w (RP F w (ackS q s) (ackE q s)) := by
  have HH := Aside0.mk h
  obtain ⟨A, c, hs1, hc1, hr1⟩ := h.1.reads
  rw [List.length_map] at hs1 hc1 hr1
  subst hs1
  obtain ⟨A2, c2, hs2, _⟩ := h.2.reads
  generalize (dn q).length = n2 at hs2
  subst hs2
  have HR := Aside0.mk hr1
  have HC := Aside0.mk hc1
  have hmax := hr1.2.1
  clear h hr1
  unfold rv
  rcases findI_spec q.wait s with ⟨k1, _⟩ | ⟨n, k1, k2, _⟩
  · have E := Aside0.mk (show ackE q s = 13 ∧ ackS q s = q by unfold ackE ackS; rw [if_pos (by omega), if_pos (by omega)]; exact ⟨rfl, rfl⟩)
    have K1 : findI q.wait s < 0 := by omega
    clear k1
    go_enter Try.func15, Try.ntmps15
    go_wp2_with (first
      | ((with_reducible refine gate_dst (N := 2) rfl ?_); refine box_event ?hg (N := 2) ?hd (cs := #[.slice A q.wait.length c, .slice A2 n2 c2, .bool q.conf]) (t := 28) ?hr ?_; (case hd => rfl); (case hg => rfl); (case hr => first | (go_simp; done) | (go_simp; rfl)); intro gb hg w1 hbox hb; have HX := Aside0.mk hbox; have HB := Aside0.mk hb; have HGB := Aside0.mk hg; clear hbox hb hg)
      | ((with_reducible refine gate_dst (N := 4) rfl ?_); refine box_event ?hg (N := 4) ?hd (cs := #[.slice none 0 0, .slice none 0 0, .bool false]) (t := 28) ?hr ?_; (case hd => rfl); (case hg => rfl); (case hr => first | (go_simp; done) | (go_simp; rfl)); intro gr hg w2 hbox hb; have HY := Aside0.mk hbox; have GN := Aside0.mk (show gr ≠ gb by have := blk_lt HX.out; omega); replace HX := Aside0.mk (blk_below HX.out hb); have GE := Aside0.mk (show w.heap.size ≤ gr by have := HB.out.size; omega); replace HB := Aside0.mk (below_step HB.out hb); have hx0 := (blk_cell HX.out 0).trans (show _ = some (Value.slice A q.wait.length c) from rfl); have hx1 := (blk_cell HX.out 1).trans (show _ = some (Value.slice A2 n2 c2) from rfl); have hx2 := (blk_cell HX.out 2).trans (show _ = some (Value.bool q.conf) from rfl); clear hbox hb hg)
      | (go_at_call 26; refine (rat_calls A A2 c n2 c2 q.conf q.wait s _ (Kd.C_below HR.out HB.out)).mono ?_; rintro e w3 ⟨rfl, hb⟩; replace HX := Aside0.mk (blk_below HX.out hb); replace HY := Aside0.mk (blk_below HY.out hb); replace HB := Aside0.mk (below_step HB.out hb); clear hb; have hx0 := (blk_cell HX.out 0).trans (show _ = some (Value.slice A q.wait.length c) from rfl); have hx1 := (blk_cell HX.out 1).trans (show _ = some (Value.slice A2 n2 c2) from rfl); have hx2 := (blk_cell HX.out 2).trans (show _ = some (Value.bool q.conf) from rfl); have hy0 := (blk_cell HY.out 0).trans (show _ = some (Value.slice none 0 0) from rfl); have hy1 := (blk_cell HY.out 1).trans (show _ = some (Value.slice none 0 0) from rfl); have hy2 := (blk_cell HY.out 2).trans (show _ = some (Value.bool false) from rfl); have xf0 := blk_frozen HX.out 0; have xf1 := blk_frozen HX.out 1; have xf2 := blk_frozen HX.out 2; have yf0 := blk_frozen HY.out 0; have yf1 := blk_frozen HY.out 1; have yf2 := blk_frozen HY.out 2; have gn := GN.out; have gn2 := Ne.symm gn; have hl1 := blk_lt HX.out; have hl2 := blk_lt HY.out))
    refine bodyPost_ret (results_ct rfl _ _ gr 28 #[.slice A q.wait.length c, .slice A2 n2 c2, .bool q.conf] (0, 0) _ rfl (by exact blk_set (blk_set (blk_set HY.out 0 _) 1 _) 2 _) Try.underlying28 rfl (by kernel_rfl)) rfl ?_
    rw [E.out.1, E.out.2]
    have HBf : Below w.heap.size w (((w3.setCell ⟨gr, 0, none⟩ (.slice A q.wait.length c)).setCell ⟨gr, 1, none⟩ (.slice A2 n2 c2)).setCell ⟨gr, 2, none⟩ (.bool q.conf)) := below_set (below_set (below_set HB.out GE.out) GE.out) GE.out
    exact ⟨(_, _), rfl, refR_below HH.out HBf, HBf⟩
  · have E := Aside0.mk (show ackE q s = 0 ∧ ackS q s = ⟨q.wait.drop (n + 1), rd_T40 q.wait (n : Int), true, q.conf⟩ by unfold ackE ackS; rw [if_neg (by omega), if_neg (by omega), k1]; exact ⟨rfl, rfl⟩)
    obtain ⟨ad, rfl, _⟩ := at_T43 HR.out (n : Int) (by omega) (by omega)
    obtain ⟨i0, hi0, hz⟩ := Option.map_eq_some_iff.1 info43
    simp only [Prod.mk.injEq] at hz
    have hcut := cut_from (P := Try.prog) 26 43 .i64 Try.underlying26 hi0 4 hz.2.1 (some ad) q.wait.length c ((n : Int) + 1) (by omega) (by omega)
    rw [show ((n : Int) + 1).toNat = n + 1 by omega] at hcut
    obtain ⟨A', hA'⟩ : ∃ A', A' = (if c = n + 1 then some ad else (some ad).map (·.add ((n + 1) * 4))) := ⟨_, rfl⟩
    rw [← hA'] at hcut
    have HA := Aside0.mk hA'
    have K1 := Aside0.mk k1
    have p1 : (0 : Int) ≤ (n : Int) := by omega
    have p2 : (n : Int) < (q.wait.length : Int) := by omega
    obtain ⟨x, hx⟩ : ∃ x, rd_T40 q.wait (n : Int) = x := ⟨_, rfl⟩
    rw [hx] at E
    have HX0 := Aside0.mk hx
    clear hz hi0 hA' k1 hx
    go_enter Try.func15, Try.ntmps15
    go_wp2_with (first
      | ((with_reducible refine gate_dst (N := 2) rfl ?_); refine box_event ?hg (N := 2) ?hd (cs := #[.slice (some ad) q.wait.length c, .slice A2 n2 c2, .bool q.conf]) (t := 28) ?hr ?_; (case hd => rfl); (case hg => rfl); (case hr => first | (go_simp; done) | (go_simp; rfl)); intro gb hg w1 hbox hb; have HX := Aside0.mk hbox; have HB := Aside0.mk hb; have HGB := Aside0.mk hg; clear hbox hb hg)
      | ((with_reducible refine gate_dst (N := 4) rfl ?_); refine box_event ?hg (N := 4) ?hd (cs := #[.slice none 0 0, .slice none 0 0, .bool false]) (t := 28) ?hr ?_; (case hd => rfl); (case hg => rfl); (case hr => first | (go_simp; done) | (go_simp; rfl)); intro gr hg w2 hbox hb; have HY := Aside0.mk hbox; have GN := Aside0.mk (show gr ≠ gb by have := blk_lt HX.out; omega); replace HX := Aside0.mk (blk_below HX.out hb); have GE := Aside0.mk (show w.heap.size ≤ gr by have := HB.out.size; omega); replace HB := Aside0.mk (below_step HB.out hb); have hx0 := (blk_cell HX.out 0).trans (show _ = some (Value.slice (some ad) q.wait.length c) from rfl); have hx1 := (blk_cell HX.out 1).trans (show _ = some (Value.slice A2 n2 c2) from rfl); have hx2 := (blk_cell HX.out 2).trans (show _ = some (Value.bool q.conf) from rfl); clear hbox hb hg)
      | (go_at_call 26; refine (rat_calls (some ad) A2 c n2 c2 q.conf q.wait s _ (Kd.C_below HR.out HB.out)).mono ?_; rintro e w3 ⟨rfl, hb⟩; rw [K1.out]; replace HX := Aside0.mk (blk_below HX.out hb); replace HY := Aside0.mk (blk_below HY.out hb); replace HB := Aside0.mk (below_step HB.out hb); clear hb; obtain ⟨ad2, he2, x0, x1, x2, x3⟩ := at_T43 (Kd.C_below HR.out HB.out) (n : Int) p1 p2; injection he2 with he2; subst he2; rw [Int.toNat_natCast, rd_toR, HX0.out] at x0 x1 x2 x3; have y0 : w3.cell? (ad.add (n * 4)) = some (.int .u32 x.f0) := x0; have y1 : w3.cell? ⟨(ad.add (n * 4)).block, (ad.add (n * 4)).off + 1, none⟩ = some (.int .i64 x.f1) := x1; have y2 : w3.cell? ⟨(ad.add (n * 4)).block, (ad.add (n * 4)).off + 2, none⟩ = some (.int .i64 x.f2) := x2; have y3 : w3.cell? ⟨(ad.add (n * 4)).block, (ad.add (n * 4)).off + 3, none⟩ = some (.int .i64 x.f3) := x3; clear x0 x1 x2 x3; have hx0 := (blk_cell HX.out 0).trans (show _ = some (Value.slice (some ad) q.wait.length c) from rfl); have hx1 := (blk_cell HX.out 1).trans (show _ = some (Value.slice A2 n2 c2) from rfl); have hx2 := (blk_cell HX.out 2).trans (show _ = some (Value.bool q.conf) from rfl); have hy0 := (blk_cell HY.out 0).trans (show _ = some (Value.slice none 0 0) from rfl); have hy1 := (blk_cell HY.out 1).trans (show _ = some (Value.slice none 0 0) from rfl); have hy2 := (blk_cell HY.out 2).trans (show _ = some (Value.bool false) from rfl); have xf0 := blk_frozen HX.out 0; have xf1 := blk_frozen HX.out 1; have xf2 := blk_frozen HX.out 2; have yf0 := blk_frozen HY.out 0; have yf1 := blk_frozen HY.out 1; have yf2 := blk_frozen HY.out 2; have gn := GN.out; have gn2 := Ne.symm gn; have hl1 := blk_lt HX.out; have hl2 := blk_lt HY.out))
    have GB := Aside0.mk (show w.heap.size ≤ gb by rw [HGB.out]; exact Nat.le_refl _)
    refine bodyPost_ret (results_ct rfl _ _ gr 28 #[.slice A' (q.wait.length - (n + 1)) (c - (n + 1)), .slice (some ⟨w3.heap.size, 0, none⟩) 1 1, .bool q.conf] (0, 0) _ rfl (by exact blk_alloc (blk_set (blk_set (blk_set (blk_far (blk_far HY.out GN.out _) GN.out _) 0 _) 1 _) 2 _) _) Try.underlying28 rfl (by kernel_rfl)) rfl ?_
    rw [E.out.1, E.out.2]
    have HBf : Below w.heap.size w ((((((w3.setCell ⟨gb, 1, none⟩ (.slice (some ⟨w3.heap.size, 0, none⟩) 1 1)).setCell ⟨gb, 0, none⟩ (.slice A' (q.wait.length - (n + 1)) (c - (n + 1)))).setCell ⟨gr, 0, none⟩ (.slice A' (q.wait.length - (n + 1)) (c - (n + 1)))).setCell ⟨gr, 1, none⟩ (.slice (some ⟨w3.heap.size, 0, none⟩) 1 1)).setCell ⟨gr, 2, none⟩ (.bool q.conf)).alloc (.cells #[.int .u32 x.f0, .int .i64 x.f1, .int .i64 x.f2, .int .i64 x.f3] 43)) := below_alloc (below_set (below_set (below_set (below_set (below_set HB.out GB.out) GB.out) GE.out) GE.out) GE.out) _
    refine ⟨(.slice A' (q.wait.length - (n + 1)) (c - (n + 1)), .slice (some ⟨w3.heap.size, 0, none⟩) 1 1), rfl, ⟨?_, ?_⟩, HBf⟩
    · have h1 := (HH.out.1.drop (m := n + 1) (by rw [List.length_map]; omega)).below HBf
      have h2 := h1.mono (F' := fun k => F k ∨ w.heap.size ≤ k) (fun k hk _ => .inl hk)
      show FR k43 _ _ _ ((q.wait.drop (n + 1)).map toR)
      rw [List.map_drop]
      have e4 : k43.sz = 4 := rfl
      rw [e4, ← HA.out] at h2
      exact h2
    · have hb := heap_alloc_new (((((w3.setCell ⟨gb, 1, none⟩ (.slice (some ⟨w3.heap.size, 0, none⟩) 1 1)).setCell ⟨gb, 0, none⟩ (.slice A' (q.wait.length - (n + 1)) (c - (n + 1)))).setCell ⟨gr, 0, none⟩ (.slice A' (q.wait.length - (n + 1)) (c - (n + 1)))).setCell ⟨gr, 1, none⟩ (.slice (some ⟨w3.heap.size, 0, none⟩) 1 1)).setCell ⟨gr, 2, none⟩ (.bool q.conf)) (.cells #[.int .u32 x.f0, .int .i64 x.f1, .int .i64 x.f2, .int .i64 x.f3] 43)
      have hs : (((((w3.setCell ⟨gb, 1, none⟩ (.slice (some ⟨w3.heap.size, 0, none⟩) 1 1)).setCell ⟨gb, 0, none⟩ (.slice A' (q.wait.length - (n + 1)) (c - (n + 1)))).setCell ⟨gr, 0, none⟩ (.slice A' (q.wait.length - (n + 1)) (c - (n + 1)))).setCell ⟨gr, 1, none⟩ (.slice (some ⟨w3.heap.size, 0, none⟩) 1 1)).setCell ⟨gr, 2, none⟩ (.bool q.conf)).heap.size = w3.heap.size := by simp [World.setCell]
      rw [hs] at hb
      have h1 := FR.of_lr flat43 (LR.lit flat43 (xs := [toR x]) hb (by simp [maxLen]))
      exact h1.mono (fun k hk _ => .inr (by have := HB.out.size; rw [hk]; exact this))
end Go.Proofs.Ytockppikcghmoaa.Q
