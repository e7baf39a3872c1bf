import Derived.Test.YtegkkomlpgappaaL1
namespace Go.Proofs.Ytegkkomlpgappaa.Q
open Go.RowKit Go.Proofs.YtegkkomlpgappaaW.PrintWords Go.Proofs.YtegkkomlpgappaaW.PrintLast Go.Proofs.YtegkkomlpgappaaW.PrintMore Go.Proofs.Ytegkkomlpgappaa.Sl Go.Proofs.Ytegkkomlpgappaa.Hand 
attribute [local go_sem] max2_int min2_int max_two min_two max_three min_three max_four min_four 
set_option linter.unusedVariables false
set_option linter.unusedSimpArgs false

structure S39 where
  f0 : Int
  f1 : Int
def z39 : S39 := ⟨0, 0⟩
def k39 : Kd S39 := Kd.iso (Kd.pair (Kd.int .i64) (Kd.int .u32)) (fun x : S39 => (x.f0, x.f1))
def enc39 (x : S39) : List Value := [.int .i64 x.f0, .int .u32 x.f1]
theorem k39_open {w : World} {x : S39} {cs : List Value} (h : k39.K w x cs) : cs = [.int .i64 x.f0, .int .u32 x.f1] := by
  obtain ⟨_, _, rfl, rfl, rfl⟩ := h
  exact rfl
theorem k39_mk (w : World) (x : S39) : k39.K w x [.int .i64 x.f0, .int .u32 x.f1] := ⟨[.int .i64 x.f0], [.int .u32 x.f1], rfl, rfl, rfl⟩
theorem flat39 : Flat k39 enc39 := ⟨fun w x => k39_mk w x, fun w x cs h => k39_open h⟩
def rd_T39 (xs : List S39) (i : Int) : S39 := xs.getD i.toNat z39
theorem at_T39 {w : World} {A : Option Addr} {n : Nat} {xs : List S39} (h : Kd.C k39 w A n xs) (i : Int) (h0 : 0 ≤ i) (h1 : i < n) : ∃ ad, A = some ad ∧ w.cell? (ad.add (i.toNat * 2)) = some (.int .i64 (rd_T39 xs i).f0) ∧ w.cell? ⟨(ad.add (i.toNat * 2)).block, (ad.add (i.toNat * 2)).off + 1, none⟩ = some (.int .u32 (rd_T39 xs i).f1) := by
  obtain ⟨ad, c, e, _, hK, hc0⟩ := Kd.C_get h z39 i h0 h1
  have hc : ∀ j u, c[j]? = some u → w.cell? (ad.add (i.toNat * 2 + j)) = some u := hc0
  obtain rfl := k39_open hK
  exact ⟨ad, e, hc 0 _ rfl, by rw [← add_field _ _ 1 (by omega)]; exact hc 1 _ rfl⟩
theorem atB_T39 {w : World} {A : Option Addr} {n : Nat} {xs : List S39} (h : Kd.C k39 w A n xs) (i : Int) (h0 : 0 ≤ i) (h1 : i < n) : ∃ ad, A = some ad ∧ ∀ w', Below w.heap.size w w' → w'.cell? (ad.add (i.toNat * 2)) = some (.int .i64 (rd_T39 xs i).f0) ∧ w'.cell? ⟨(ad.add (i.toNat * 2)).block, (ad.add (i.toNat * 2)).off + 1, none⟩ = some (.int .u32 (rd_T39 xs i).f1) := by
  obtain ⟨ad, rfl, _⟩ := at_T39 h i h0 h1
  refine ⟨ad, rfl, fun w' hb => ?_⟩
  obtain ⟨ad2, e, r⟩ := at_T39 (Kd.C_below h hb) i h0 h1
  injection e with e
  subst e
  exact r
/-! ### No gaps -/
structure GI (s : TSt) (i : Nat) : Prop where
  ll : s.live.length ≤ 256
  rl : s.rel.length ≤ i
  lo : fstI s.srv - 1 ≤ s.lar
  hi : s.lar ≤ fstI s.srv - 1 + i
  el : ∀ x ∈ s.live, fstI s.srv ≤ x ∧ x ≤ s.lar
  er : ∀ x ∈ s.rel, fstI s.srv ≤ x ∧ x ≤ s.lar
theorem GI.ok {s : TSt} {i : Nat} (h : GI s i) (hi : i ≤ 1000) : TOk s := by
  have hf := fst_range s.srv
  have h1 := h.lo
  have h2 := h.hi
  exact ⟨h.ll, by have := h.rl; omega, by omega, by omega⟩
theorem GI.start (b : Bool) : GI ⟨b, [], [], fstI b - 1⟩ 0 := ⟨Nat.zero_le _, Nat.zero_le _, Int.le_refl _, by show fstI b - 1 ≤ fstI b - 1 + ((0 : Nat) : Int); omega, fun x hx => by simp at hx, fun x hx => by simp at hx⟩
theorem GI.nxt {s : TSt} {i : Nat} (h : GI s i) : fstI s.srv ≤ nxtI s ∧ nxtI s ≤ s.lar + 1 ∧ nxtI s ∉ s.live ∧ nxtI s ∉ s.rel := by
  have hg := gapI_is s
  have hlo := h.lo
  have h2 : nxtI s ∉ s.live ++ s.rel := hg.2
  refine ⟨by unfold nxtI; omega, ?_, fun h3 => h2 (List.mem_append.2 (.inl h3)), fun h3 => h2 (List.mem_append.2 (.inr h3))⟩
  refine Decidable.byContradiction fun hc => ?_
  unfold nxtI at hc
  have h3 := hg.1 (s.lar + 1 - fstI s.srv).toNat (by omega)
  rw [show fstI s.srv + (((s.lar + 1 - fstI s.srv).toNat : Nat) : Int) = s.lar + 1 by omega] at h3
  rcases List.mem_append.1 h3 with h3 | h3
  · have := (h.el _ h3).2
    omega
  · have := (h.er _ h3).2
    omega
theorem GI.used {s : TSt} {i : Nat} (h : GI s i) {id : Int} (h1 : fstI s.srv ≤ id) (h2 : id ≤ s.lar + 1) (h3 : s.live.length < 256) : GI (used s id) (i + 1) ∧ (used s id).lar = (if s.lar < id then id else s.lar) := by
  have hm : mxI s.lar id = (if s.lar < id then id else s.lar) := by unfold mxI; split <;> split <;> omega
  refine ⟨⟨?_, ?_, ?_, ?_, fun x hx => ?_, fun x hx => ?_⟩, hm⟩
  · show (addS s.live id).length ≤ 256
    have := (addS_len s.live id).2
    rw [this]
    split <;> omega
  · exact Nat.le_succ_of_le h.rl
  · show fstI s.srv - 1 ≤ mxI s.lar id
    rw [hm]
    have := h.lo
    split <;> omega
  · show mxI s.lar id ≤ fstI s.srv - 1 + ((i + 1 : Nat) : Int)
    rw [hm]
    have := h.hi
    split <;> omega
  · show fstI s.srv ≤ x ∧ x ≤ mxI s.lar id
    have hx : x ∈ addS s.live id := hx
    rw [hm]
    rcases mem_addS.1 hx with hx | rfl
    · have := h.el x hx
      split <;> omega
    · split <;> omega
  · show fstI s.srv ≤ x ∧ x ≤ mxI s.lar id
    have hx : x ∈ s.rel := hx
    rw [hm]
    have := h.er x hx
    split <;> omega
theorem GI.same {s : TSt} {i : Nat} (h : GI s i) : GI s (i + 1) := ⟨h.ll, Nat.le_succ_of_le h.rl, h.lo, by have := h.hi; omega, h.el, h.er⟩
theorem side_lt {b : Bool} {id : Int} (h : ¬ (id = 0 ∨ b ≠ decide (4278190080 ≤ id))) (h0 : 0 ≤ id) : fstI b ≤ id := by
  cases b
  · have e : fstI false = 1 := rfl
    rw [e]
    have : id ≠ 0 := fun hh => h (.inl hh)
    omega
  · have e : fstI true = 4278190080 := rfl
    rw [e]
    refine Decidable.byContradiction fun hc => h (.inr ?_)
    rw [decide_eq_false hc]
    simp
theorem GI.step {s : TSt} {i : Nat} (h : GI s i) (k id : Int) (h0 : 0 ≤ id) :
    GI (doS s k id) (i + 1) ∧ (doS s k id).srv = s.srv ∧ (doS s k id).lar = (if doE s k id = 0 ∧ k ≤ 1 ∧ 0 ≤ k ∧ s.lar < doV s k id then doV s k id else s.lar) ∧ (doE s k id = 0 → k ≤ 1 → 0 ≤ k → s.lar < doV s k id → doV s k id = s.lar + 1) := by
  by_cases k0 : k = 0
  · subst k0
    have e1 : doS s 0 id = allS s := rfl
    have e2 : doE s 0 id = allE s := rfl
    have e3 : doV s 0 id = allV s := rfl
    rw [e1, e2, e3]
    unfold allS allE allV
    by_cases hc : 256 ≤ s.live.length
    · simp only [if_pos hc]
      exact ⟨h.same, (by first | rfl | trivial), by simp, fun h => by omega⟩
    · simp only [if_neg hc]
      obtain ⟨n1, n2, _, _⟩ := h.nxt
      obtain ⟨g1, g2⟩ := h.used n1 n2 (by omega)
      refine ⟨g1, (by first | rfl | trivial), ?_, fun _ _ _ h4 => by omega⟩
      rw [g2]
      by_cases hl : s.lar < nxtI s <;> simp [hl]
  by_cases k1 : k = 1
  · subst k1
    have e1 : doS s 1 id = takeS s id := rfl
    have e2 : doE s 1 id = takeE s id := rfl
    have e3 : doV s 1 id = id := rfl
    rw [e1, e2, e3]
    unfold takeS
    by_cases hz : takeE s id = 0
    · simp only [if_pos hz]
      have hz2 := hz
      unfold takeE at hz2
      by_cases q1 : id = 0 ∨ s.srv ≠ decide (4278190080 ≤ id)
      · rw [if_pos q1] at hz2; cases hz2
      rw [if_neg q1] at hz2
      by_cases q2 : id ∈ s.live ∨ id ∈ s.rel
      · rw [if_pos q2] at hz2; cases hz2
      rw [if_neg q2] at hz2
      by_cases q3 : 256 ≤ s.live.length
      · rw [if_pos q3] at hz2; cases hz2
      rw [if_neg q3] at hz2
      by_cases q4 : s.lar + 1 < id
      · rw [if_pos q4] at hz2; cases hz2
      obtain ⟨g1, g2⟩ := h.used (side_lt q1 h0) (by omega) (by omega)
      refine ⟨g1, (by first | rfl | trivial), ?_, fun _ _ _ h4 => by omega⟩
      rw [g2]
      by_cases hl : s.lar < id <;> simp [hl, hz]
    · simp only [if_neg hz]
      exact ⟨h.same, trivial, by simp [hz], fun h => absurd h hz⟩
  have hk : ¬ (k ≤ 1 ∧ 0 ≤ k) := by omega
  have hdl : (if doE s k id = 0 ∧ k ≤ 1 ∧ 0 ≤ k ∧ s.lar < doV s k id then doV s k id else s.lar) = s.lar := if_neg (fun h => hk ⟨h.2.1, h.2.2.1⟩)
  rw [hdl]
  refine ⟨?_, ?_, ?_, fun _ h1 h2 => absurd ⟨h1, h2⟩ hk⟩
  · unfold doS
    rw [if_neg k0, if_neg k1]
    by_cases k2 : k = 2
    · rw [if_pos k2]
      unfold relS
      by_cases hin : id ∈ s.live
      · rw [if_pos hin]
        refine ⟨?_, ?_, h.lo, by have := h.hi; show s.lar ≤ fstI s.srv - 1 + ((i + 1 : Nat) : Int); omega, fun x hx => h.el x (mem_delS.1 hx).1, fun x hx => ?_⟩
        · show (delS s.live id).length ≤ 256
          exact Nat.le_trans (List.length_filter_le _ _) h.ll
        · show (addS s.rel id).length ≤ i + 1
          have := (addS_len s.rel id).2
          have := h.rl
          rw [‹(addS s.rel id).length = _›]
          split <;> omega
        · have hx : x ∈ addS s.rel id := hx
          rcases mem_addS.1 hx with hx | rfl
          · exact h.er x hx
          · exact h.el x hin
      · rw [if_neg hin]
        exact h.same
    · rw [if_neg k2]
      unfold conS
      by_cases hin : id ∈ s.rel
      · rw [if_pos hin]
        exact ⟨h.ll, Nat.le_succ_of_le (Nat.le_trans (List.length_filter_le _ _) h.rl), h.lo, by have := h.hi; show s.lar ≤ fstI s.srv - 1 + ((i + 1 : Nat) : Int); omega, h.el, fun x hx => h.er x (mem_delS.1 hx).1⟩
      · rw [if_neg hin]
        exact h.same
  · unfold doS relS conS
    rw [if_neg k0, if_neg k1]
    repeat' split
    all_goals rfl
  · unfold doS relS conS
    rw [if_neg k0, if_neg k1]
    repeat' split
    all_goals rfl
/-- The last Take. -/
theorem GI.last {s : TSt} {i : Nat} (h : GI s i) (hi : i ≤ 300) {m : Int} (m0 : 0 ≤ m) (m1 : m < 1000) :
    ((takeE s (s.lar + 2 + m) = 5 ∧ s.live.length = 256) ∨ takeE s (s.lar + 2 + m) = 2) ∧ takeS s (s.lar + 2 + m) = s ∧ decide (s.lar + 2 + m ∈ s.live) = false := by
  have h1 := h.lo
  have h2 := h.hi
  have hf := fst_range s.srv
  have n1 : s.lar + 2 + m ∉ s.live := fun hh => by have := (h.el _ hh).2; omega
  have n2 : s.lar + 2 + m ∉ s.rel := fun hh => by have := (h.er _ hh).2; omega
  have key : (takeE s (s.lar + 2 + m) = 5 ∧ s.live.length = 256) ∨ takeE s (s.lar + 2 + m) = 2 := by
    unfold takeE
    have hs := side s.srv (d := s.lar + 2 + m - fstI s.srv) (by omega) (by omega)
    rw [show fstI s.srv + (s.lar + 2 + m - fstI s.srv) = s.lar + 2 + m by omega] at hs
    rw [if_neg hs, if_neg (fun hh => hh.elim n1 n2)]
    by_cases hc : 256 ≤ s.live.length
    · exact .inl ⟨if_pos hc, by have := h.ll; omega⟩
    · rw [if_neg hc, if_pos (by omega)]
      exact .inr rfl
  refine ⟨key, ?_, decide_eq_false n1⟩
  unfold takeS
  rcases key with ⟨k, _⟩ | k <;> rw [k] <;> rfl
theorem rd39 {l : List S39} {i : Nat} (h : i < l.length) : rd_T39 l (i : Int) = l[i] := by
  unfold rd_T39
  rw [Int.toNat_natCast, List.getD_eq_getElem?_getD, List.getElem?_eq_getElem h]
  rfl
theorem atO {w : World} {A : Option Addr} {l : List S39} (hr : Kd.C k39 w A l.length l) (i : Nat) (hi : i < l.length) : ∃ ad, A = some ad ∧ ∀ w', Below w.heap.size w w' → w'.cell? (ad.add (i * 2)) = some (.int .i64 (l[i]).f0) ∧ w'.cell? ⟨(ad.add (i * 2)).block, (ad.add (i * 2)).off + 1, none⟩ = some (.int .u32 (l[i]).f1) := by
  obtain ⟨ad, e, h⟩ := atB_T39 hr (i : Int) (by omega) (by omega)
  refine ⟨ad, e, fun w' hb => ?_⟩
  have := h w' hb
  rw [rd39 hi, Int.toNat_natCast] at this
  exact this
theorem do_eq {w0 w : World} {L : List Res} (h : SL w0 w L) (i : Nat) {g : Nat} {s s2 : TSt} {k id v e_ : Int} (hv : doV s k id = v) (he : doE s k id = e_) (hs : doS s k id = s2) (ho : TOk s) (h0 : 0 ≤ id) (h1 : id < 4294967296) (hi : L[i]? = some (tabR g s)) :
    Calls Try.prog 16 #[.pointer (some ⟨g, 0, none⟩), .agg #[.int .i64 k, .int .u32 id]] w fun e w' => e = .returned (.tuple #[.int .u32 v, .int .i64 e_]) ∧ SL w0 w' (L.set i (tabR g s2)) := by
  subst hv; subst he; subst hs
  exact do_sl h i k id hi ho h0 h1
def Ids (l : List S39) : Prop := ∀ x ∈ l, 0 ≤ x.f1 ∧ x.f1 < 4294967296
end Go.Proofs.Ytegkkomlpgappaa.Q
