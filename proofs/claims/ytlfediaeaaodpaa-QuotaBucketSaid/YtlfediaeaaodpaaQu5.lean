import Derived.Test.YtlfediaeaaodpaaQu4
namespace Go.Proofs.Ytlfediaeaaodpaa.Q
open Go.RowKit Go.Proofs.YtlfediaeaaodpaaW.PrintWords Go.Proofs.YtlfediaeaaodpaaW.PrintLast Go.Proofs.YtlfediaeaaodpaaW.PrintMore Go.Proofs.Ytlfediaeaaodpaa.Sl Go.Proofs.Ytlfediaeaaodpaa.Hand 
attribute [local go_sem] max2_int min2_int max_two min_two max_three min_three max_four min_four 
set_option linter.unusedVariables false
set_option linter.unusedSimpArgs false

theorem info58 : (Try.prog.info? 58).map (fun i => (i.zero, i.size, i.bytes)) = some (some (.agg #[(.int .i64 0), (.int .i64 0)]), 2, 16) := by kernel_rfl
def qcells (v : Value) : Array Value := #[.bool true, v]
/-- A quota that lies at block g. -/
def quotaR (g : Nat) (q : List S58) : Res where
  P := fun w F => ∃ (v : Value) (Fr : Nat → Prop), LR k58 enc58 58 w Fr v q ∧ w.heap[g]? = some (.cells (qcells v) 67 (0, 0)) ∧ F g ∧ ∀ k, Fr k → F k ∧ k ≠ g
  loc := fun ⟨v, Fr, h1, h2, h3, h4⟩ hm => ⟨v, Fr, h1.step (fun k hk hlt => hm k (h4 k hk).1 hlt), (hm _ h3 (blk_lt h2)).trans h2, h3, h4⟩
def newQ (l : List Int) : List S58 := l.map fun n => ⟨0, mx n 0⟩
set_option maxHeartbeats 2000000 in
set_option maxRecDepth 100000 in
theorem pairs_calls (A : Option Addr) (c : Nat) (l : List Int) (w : World) (hr : Kd.C (Kd.int .i64) w A l.length l) (hl : l.length ≤ 1000) :
    Calls Try.prog 29 #[.slice A l.length c] w fun e w' => ∃ (v : Value) (F : Nat → Prop), e = .returned v ∧ LR k58 enc58 58 w' F v (newQ l) ∧ (∀ k, F k → w.heap.size ≤ k) ∧ Below w.heap.size w w' := by
  have HR := Aside0.mk hr
  have HL := Aside0.mk (sl_nil (sl_start w) k58 enc58 58)
  clear hr
  go_enter Try.func29, Try.ntmps29
  go_wp2
  go_loopg [3, 8] l.length (fun kq v3 v8 wr => ∃ (i : Nat) (v : Value), v3 = v ∧ v8 = .int .i64 (i : Int) ∧ Aside0 (i + kq = l.length) ∧ Aside0 (SL w wr [lrR k58 enc58 58 v (newQ (l.take i))]))
  case atStart => exact ⟨0, _, rfl, rfl, ⟨by omega⟩, HL⟩
  case round =>
    obtain ⟨i, v, rfl, rfl, HI, HS⟩ := hrel
    have hi := HI.out
    clear HL
    by_cases hlt : i < l.length
    · have b1 : decide (i < l.length) = true := decide_eq_true hlt
      obtain ⟨kq, rfl⟩ : ∃ m, gk = m + 1 := ⟨gk - 1, by omega⟩
      obtain ⟨ad, rfl, x0⟩ := Kd.at_int (Kd.C_below HR.out (sl_below0 HS.out)) (i : Int) (by omega) (by omega)
      rw [Int.toNat_natCast] at x0
      have hx : rd l (i : Int) = l[i] := by unfold rd; rw [Int.toNat_natCast]; simp [List.getD_eq_getElem?_getD, hlt]
      have ht : newQ (l.take (i + 1)) = newQ (l.take i) ++ [⟨0, mx (rd l (i : Int)) 0⟩] := by
        rw [hx, List.take_succ_eq_append_getElem hlt]
        unfold newQ
        rw [List.map_append]
        rfl
      have HT := Aside0.mk ht
      have HX := Aside0.mk x0
      have p1 : (0 : Int) ≤ (i : Int) := by omega
      have p2 : (i : Int) < (l.length : Int) := by omega
      have hlen : (newQ (l.take i)).length = i := by unfold newQ; rw [List.length_map, List.length_take]; omega
      have HN := Aside0.mk hlen
      obtain ⟨M, hM⟩ : ∃ M, mx (rd l (i : Int)) 0 = M := ⟨_, rfl⟩
      have HM := Aside0.mk hM
      have hM' : (if rd l (i : Int) < 0 then 0 else rd l (i : Int)) = M := hM
      clear hx ht hlen hM hlt hi
      go_wp2_with (first
        | (at_builtin; refine sl_append_one flat58 rfl (.tmp 12) (.tmp 16) 64 (.agg #[.int .i64 0, .int .i64 0]) 16 rfl Try.underlying64 info58 rfl (by decide) (by decide) (⟨0, M⟩ : S58) [.int .i64 0, .int .i64 M] rfl rfl rfl 0 rfl HS.out (by have := HN.out; have := HI.out; omega) ?_; intro A1 c1 w2 hs; have HS2 := Aside0.mk hs; clear hs))
      go_roundg kq
      case measure => omega
      case rel =>
        refine ⟨i + 1, _, rfl, rfl, ⟨by have := HI.out; omega⟩, ?_⟩
        rw [HT.out, HM.out]
        exact HS2
    · have b1 : decide (i < l.length) = false := decide_eq_false hlt
      obtain rfl : i = l.length := by omega
      clear hlt hi
      go_wp2
      go_ret
      have hs := HS.out
      rw [List.take_length] at hs
      obtain ⟨F, h1, h2, _⟩ := sl_upd hs (i := 0) rfl
      exact ⟨_, F, rfl, h1, fun k hk => (h2 k hk).1, sl_below0 hs⟩
set_option maxRecDepth 100000 in
theorem QNew_sl {w0 w : World} {L : List Res} (A : Option Addr) (c : Nat) (l : List Int) (h : SL w0 w L) (hr : Kd.C (Kd.int .i64) w A l.length l) (hl : l.length ≤ 1000) :
    Calls Try.prog 18 #[.slice A l.length c] w fun e w' => ∃ g : Nat, e = .returned (.pointer (some ⟨g, 0, none⟩)) ∧ SL w0 w' (L ++ [quotaR g (newQ l)]) := by
  have HR := Aside0.mk hr
  have HS := Aside0.mk h
  have HL := Aside0.mk hl
  clear hr h hl
  go_enter Try.func18, Try.ntmps18
  go_wp2_with (first | (go_at_call 29; refine (pairs_calls A c l _ HR.out HL.out).mono ?_; rintro e w1 ⟨v, F, rfl, h1, h2, h3⟩; obtain ⟨A1, c1, hv, _⟩ := h1.slice; subst hv; have H1 := Aside0.mk h1; have H2 := Aside0.mk h2; have H3 := Aside0.mk h3; clear h1 h2 h3))
  go_ret
  refine ⟨w1.heap.size, rfl, ?_⟩
  refine sl_new HS.out (below_alloc H3.out _) (F := fun k => (F k ∧ k < w1.heap.size) ∨ k = w1.heap.size) ⟨.slice A1 _ c1, fun k => F k ∧ k < w1.heap.size, (H1.out.bound.mono (fun k hk => ⟨hk.1, hk.2.1⟩)).below (below_alloc (Below.refl _ _) _), heap_alloc_new w1 _, .inr rfl, fun k hk => ⟨.inl hk, by have := hk.2; omega⟩⟩ (fun k hk => ?_)
  have := H3.out.size
  rcases hk with hk | hk
  · exact ⟨H2.out k hk.1, by simp; omega⟩
  · simp [hk]; omega
/-! ### The methods -/
def chkE (q : List S58) (k n : Int) : Int := if k < 0 ∨ (q.length : Int) ≤ k then 8 else if n < 0 then 6 else 0
theorem check_calls (g : Nat) (q : List S58) (A : Option Addr) (c : Nat) (k n : Int) (w : World) (hb : w.heap[g]? = some (.cells (qcells (.slice A q.length c)) 67 (0, 0))) :
    Calls Try.prog 32 #[.pointer (some ⟨g, 0, none⟩), .int .i64 k, .int .i64 n] w fun e w' => e = .returned (.int .i64 (chkE q k n)) ∧ w = w' := by
  have h0 := (blk_cell hb 0).trans (show _ = some (Value.bool true) from rfl)
  have h1 := (blk_cell hb 1).trans (show _ = some (Value.slice A q.length c) from rfl)
  clear hb
  by_cases c1 : k < 0
  · have E := Aside0.mk (show chkE q k n = 8 by unfold chkE; rw [if_pos (.inl c1)])
    go_enter Try.func32, Try.ntmps32
    go_wp2
    go_ret
    exact ⟨ret_i E.out.symm, rfl⟩
  by_cases c2 : (q.length : Int) ≤ k
  · have E := Aside0.mk (show chkE q k n = 8 by unfold chkE; rw [if_pos (.inr c2)])
    go_enter Try.func32, Try.ntmps32
    go_wp2
    go_ret
    exact ⟨ret_i E.out.symm, rfl⟩
  by_cases c3 : n < 0
  · have E := Aside0.mk (show chkE q k n = 6 by unfold chkE; rw [if_neg (by omega), if_pos c3])
    go_enter Try.func32, Try.ntmps32
    go_wp2
    go_ret
    exact ⟨ret_i E.out.symm, rfl⟩
  have E := Aside0.mk (show chkE q k n = 0 by unfold chkE; rw [if_neg (by omega), if_neg c3])
  go_enter Try.func32, Try.ntmps32
  go_wp2
  go_ret
  exact ⟨ret_i E.out.symm, rfl⟩
def useE (q : List S58) (k n : Int) : Int := if chkE q k n ≠ 0 then chkE q k n else if (rd_T58 q k).f1 - (rd_T58 q k).f0 < n then 5 else 0
def useS (q : List S58) (k n : Int) : List S58 := if useE q k n ≠ 0 then q else q.set k.toNat ⟨(rd_T58 q k).f0 + n, (rd_T58 q k).f1⟩
def relE (q : List S58) (k n : Int) : Int := if chkE q k n ≠ 0 then chkE q k n else if (rd_T58 q k).f0 < n then 14 else 0
def relS (q : List S58) (k n : Int) : List S58 := if relE q k n ≠ 0 then q else q.set k.toNat ⟨(rd_T58 q k).f0 - n, (rd_T58 q k).f1⟩
def usedE (q : List S58) (k : Int) : Int := if chkE q k 0 ≠ 0 then 0 else (rd_T58 q k).f0
/-- Every count is between 0 and its limit. -/
def Qok (q : List S58) : Prop := q.length ≤ 1000 ∧ ∀ x ∈ q, 0 ≤ x.f0 ∧ x.f0 ≤ x.f1 ∧ x.f1 ≤ 9223372036854775807
theorem Qok_at {q : List S58} (h : Qok q) {k : Int} (h0 : 0 ≤ k) (h1 : k < q.length) : 0 ≤ (rd_T58 q k).f0 ∧ (rd_T58 q k).f0 ≤ (rd_T58 q k).f1 ∧ (rd_T58 q k).f1 ≤ 9223372036854775807 := by
  have hl : k.toNat < q.length := by omega
  have : rd_T58 q k = q[k.toNat] := by unfold rd_T58; simp [List.getD_eq_getElem?_getD, hl]
  rw [this]
  exact h.2 _ (List.getElem_mem hl)
theorem chk0 {q : List S58} {k n : Int} (h : chkE q k n = 0) : 0 ≤ k ∧ k < q.length ∧ 0 ≤ n := by
  unfold chkE at h
  split at h
  · omega
  · split at h <;> omega
theorem quota_below {g : Nat} {q : List S58} {F : Nat → Prop} {w w' : World} (h : (quotaR g q).P w F) (hF : ∀ k, F k → k < w.heap.size) (hb : Below w.heap.size w w') :
    (∃ F' : Nat → Prop, (quotaR g q).P w' F' ∧ ∀ k, F' k → (F k ∨ w.heap.size ≤ k) ∧ k < w'.heap.size) ∧ Chg F w w' :=
  ⟨⟨F, (quotaR g q).loc h (fun k _ hlt => hb.block k hlt), fun k hk => ⟨.inl hk, Nat.lt_of_lt_of_le (hF k hk) hb.size⟩⟩, Chg.of_below hb⟩
end Go.Proofs.Ytlfediaeaaodpaa.Q
