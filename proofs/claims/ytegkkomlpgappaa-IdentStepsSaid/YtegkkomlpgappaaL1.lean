import Derived.Test.YtegkkomlpgappaaD1
namespace Go.Proofs.Ytegkkomlpgappaa.Q
open Go.RowKit Go.Proofs.YtegkkomlpgappaaW.PrintWords Go.Proofs.YtegkkomlpgappaaW.PrintLast Go.Proofs.YtegkkomlpgappaaW.PrintMore Go.Proofs.Ytegkkomlpgappaa.Sl Go.Proofs.Ytegkkomlpgappaa.Hand 
attribute [local go_sem] max2_int min2_int max_two min_two max_three min_three max_four min_four 
set_option linter.unusedVariables false
set_option linter.unusedSimpArgs false

/-! ### The limit -/
def stL (b : Bool) (n : Nat) : TSt := ⟨b, (List.range n).map (fun j : Nat => fstI b + (j : Int)), [], fstI b + (n : Int) - 1⟩
theorem mem_stL {b : Bool} {n : Nat} {x : Int} : x ∈ (stL b n).live ↔ ∃ j : Nat, j < n ∧ fstI b + (j : Int) = x := by
  unfold stL
  simp only [List.mem_map, List.mem_range]
theorem len_stL (b : Bool) (n : Nat) : (stL b n).live.length = n := by
  unfold stL
  rw [List.length_map, List.length_range]
theorem ok_stL (b : Bool) (n : Nat) (h : n ≤ 256) : TOk (stL b n) := by
  have hf := fst_range b
  refine ⟨by rw [len_stL]; exact h, Nat.zero_le _, ?_, ?_⟩
  · show 0 ≤ fstI b + (n : Int) - 1
    omega
  · show fstI b + (n : Int) - 1 < 4294967296
    omega
theorem gap_stL (b : Bool) (n : Nat) : gapI (stL b n) = n := by
  refine gap_one (gapI_is (stL b n)) ⟨fun j hj => List.mem_append.2 (.inl (mem_stL.2 ⟨j, hj, rfl⟩)), fun h => ?_⟩
  rcases List.mem_append.1 h with h | h
  · obtain ⟨j, hj, he⟩ := mem_stL.1 h
    have : fstI b + (j : Int) = fstI b + (n : Int) := he
    omega
  · exact absurd h (by show ¬ _ ∈ ([] : List Int); simp)
theorem step_stL (b : Bool) (n : Nat) (h : n < 256) : allV (stL b n) = fstI b + (n : Int) ∧ allE (stL b n) = 0 ∧ allS (stL b n) = stL b (n + 1) := by
  have hc : ¬ 256 ≤ (stL b n).live.length := by rw [len_stL]; omega
  have hn : nxtI (stL b n) = fstI b + (n : Int) := by unfold nxtI; rw [gap_stL]; rfl
  refine ⟨by unfold allV; rw [if_neg hc, hn], if_neg hc, ?_⟩
  unfold allS
  rw [if_neg hc, hn]
  unfold used
  have h1 : addS (stL b n).live (fstI b + (n : Int)) = (stL b (n + 1)).live := by
    unfold addS
    rw [if_neg (fun h => by obtain ⟨j, hj, he⟩ := mem_stL.1 h; omega)]
    unfold stL
    rw [List.range_succ, List.map_append]
    rfl
  have h2 : mxI (stL b n).lar (fstI b + (n : Int)) = (stL b (n + 1)).lar := by
    unfold mxI stL
    simp only
    rw [if_neg (by omega)]
    omega
  rw [h1, h2]
  rfl
theorem full_stL (b : Bool) : allV (stL b 256) = 0 ∧ allE (stL b 256) = 5 ∧ allS (stL b 256) = stL b 256 := by
  have hc : 256 ≤ (stL b 256).live.length := by rw [len_stL]; omega
  exact ⟨if_pos hc, if_pos hc, if_pos hc⟩
theorem side (b : Bool) {d : Int} (h0 : 0 ≤ d) (h1 : d ≤ 100000) : ¬ (fstI b + d = 0 ∨ b ≠ decide (4278190080 ≤ fstI b + d)) := by
  intro h
  cases b
  · have e : fstI false = 1 := rfl
    rw [e] at h
    rcases h with h | h
    · omega
    · exact h (decide_eq_false (by omega)).symm
  · have e : fstI true = 4278190080 := rfl
    rw [e] at h
    rcases h with h | h
    · omega
    · exact h (decide_eq_true (by omega)).symm
theorem more_stL (b : Bool) {d : Int} (h0 : 256 ≤ d) (h1 : d ≤ 1000) : takeE (stL b 256) (fstI b + d) = 5 ∧ takeS (stL b 256) (fstI b + d) = stL b 256 := by
  have h : takeE (stL b 256) (fstI b + d) = 5 := by
    unfold takeE
    rw [if_neg (show ¬ (fstI b + d = 0 ∨ (stL b 256).srv ≠ decide (4278190080 ≤ fstI b + d)) from side b (by omega) (by omega)), if_neg, if_pos (by rw [len_stL]; omega)]
    intro h
    rcases h with h | h
    · obtain ⟨j, hj, he⟩ := mem_stL.1 h
      omega
    · exact absurd h (by show ¬ _ ∈ ([] : List Int); simp)
  exact ⟨h, by unfold takeS; rw [h]; rfl⟩
structure LimT (b : Bool) (x : Int) (sA sB sC : TSt) : Prop where
  a1 : relE (stL b 256) x = 0
  a2 : relS (stL b 256) x = sA
  a3 : relE sA x = 8
  a4 : relS sA x = sA
  b1 : allV sA = fstI b + 256
  b2 : allE sA = 0
  b3 : allS sA = sB
  c1 : conE sB x = 0
  c2 : conS sB x = sC
  c3 : conE sC x = 8
  c4 : conS sC x = sC
  d1 : takeE sC x = 5
  d2 : takeS sC x = sC
  oA : TOk sA
  oB : TOk sB
  oC : TOk sC
theorem nodup_stL (b : Bool) (n : Nat) : (stL b n).live.Nodup := by
  unfold stL
  simp only [List.Nodup, List.pairwise_map]
  exact List.nodup_range.imp fun h e => h (by omega)
theorem lim_stL (b : Bool) (r : Nat) (hr : r < 256) : ∃ sA sB sC, LimT b (fstI b + (r : Int)) sA sB sC := by
  obtain ⟨x, hx⟩ : ∃ x, fstI b + (r : Int) = x := ⟨_, rfl⟩
  rw [hx]
  have hf := fst_range b
  have hin : x ∈ (stL b 256).live := mem_stL.2 ⟨r, hr, hx⟩
  obtain ⟨D, hD⟩ : ∃ D, delS (stL b 256).live x = D := ⟨_, rfl⟩
  have hmD : ∀ y, y ∈ D ↔ y ∈ (stL b 256).live ∧ y ≠ x := fun y => by rw [← hD]; exact mem_delS
  have hlD : D.length = 255 := by
    have : delS (stL b 256).live x = (stL b 256).live.erase x := by
      unfold delS
      rw [(nodup_stL b 256).erase_eq_filter]
      refine congrArg (fun f => List.filter f _) (funext fun y => ?_)
      by_cases hy : y = x
      · subst hy; simp
      · simp [hy]
    rw [← hD, this, List.length_erase_of_mem hin, len_stL]
  have hxD : x ∉ D := fun h => ((hmD x).1 h).2 rfl
  have hnD : fstI b + 256 ∉ D := fun h => by
    obtain ⟨j, hj, he⟩ := mem_stL.1 ((hmD _).1 h).1
    omega
  have hlar : (stL b 256).lar = fstI b + 255 := by show fstI b + ((256 : Nat) : Int) - 1 = _; omega
  have hA : relS (stL b 256) x = ⟨b, D, [x], fstI b + 255⟩ := by
    unfold relS
    rw [if_pos hin, hD, hlar]
    show (⟨b, D, addS [] x, fstI b + 255⟩ : TSt) = _
    have : addS [] x = [x] := by unfold addS; simp
    rw [this]
  have hgap : gapI ⟨b, D, [x], fstI b + 255⟩ = 256 := by
    refine gap_one (gapI_is _) ⟨fun j hj => ?_, fun h => ?_⟩
    · show fstI b + (j : Int) ∈ D ++ [x]
      by_cases hy : fstI b + (j : Int) = x
      · rw [hy]; simp
      · exact List.mem_append.2 (.inl ((hmD _).2 ⟨mem_stL.2 ⟨j, hj, rfl⟩, hy⟩))
    · have h : fstI b + ((256 : Nat) : Int) ∈ D ++ [x] := h
      rcases List.mem_append.1 h with h | h
      · exact hnD h
      · have := List.mem_singleton.1 h
        omega
  have hcA : ¬ 256 ≤ (⟨b, D, [x], fstI b + 255⟩ : TSt).live.length := by show ¬ 256 ≤ D.length; omega
  have hnx : nxtI ⟨b, D, [x], fstI b + 255⟩ = fstI b + 256 := by unfold nxtI; rw [hgap]; rfl
  have hB : allS ⟨b, D, [x], fstI b + 255⟩ = ⟨b, D ++ [fstI b + 256], [x], fstI b + 256⟩ := by
    unfold allS
    rw [if_neg hcA, hnx]
    show (⟨b, addS D (fstI b + 256), [x], mxI (fstI b + 255) (fstI b + 256)⟩ : TSt) = _
    have h1 : addS D (fstI b + 256) = D ++ [fstI b + 256] := if_neg hnD
    have h2 : mxI (fstI b + 255) (fstI b + 256) = fstI b + 256 := by unfold mxI; rw [if_neg (by omega)]
    rw [h1, h2]
  have hxB : x ∉ D ++ [fstI b + 256] := fun h => by
    rcases List.mem_append.1 h with h | h
    · exact hxD h
    · have := List.mem_singleton.1 h
      omega
  have hC : conS ⟨b, D ++ [fstI b + 256], [x], fstI b + 256⟩ x = ⟨b, D ++ [fstI b + 256], [], fstI b + 256⟩ := by
    unfold conS
    rw [if_pos (show x ∈ [x] by simp)]
    show (⟨b, D ++ [fstI b + 256], delS [x] x, fstI b + 256⟩ : TSt) = _
    have : delS [x] x = [] := by unfold delS; simp
    rw [this]
  have hT : takeE ⟨b, D ++ [fstI b + 256], [], fstI b + 256⟩ x = 5 := by
    unfold takeE
    rw [if_neg (show ¬ (x = 0 ∨ b ≠ decide (4278190080 ≤ x)) by rw [← hx]; exact side b (by omega) (by omega)), if_neg, if_pos (by show 256 ≤ (D ++ [fstI b + 256]).length; rw [List.length_append, hlD]; exact Nat.le_refl _)]
    intro h
    rcases h with h | h
    · exact hxB h
    · exact absurd h (by show ¬ x ∈ ([] : List Int); simp)
  refine ⟨⟨b, D, [x], fstI b + 255⟩, ⟨b, D ++ [fstI b + 256], [x], fstI b + 256⟩, ⟨b, D ++ [fstI b + 256], [], fstI b + 256⟩, if_pos hin, hA, if_neg hxD, if_neg hxD, ?_, if_neg hcA, hB, if_pos (by show x ∈ [x]; simp), hC, if_neg (by show ¬ x ∈ ([] : List Int); simp), if_neg (by show ¬ x ∈ ([] : List Int); simp), hT, by unfold takeS; rw [hT]; rfl, ?_, ?_, ?_⟩
  · unfold allV
    rw [if_neg hcA, hnx]
  · exact ⟨by show D.length ≤ 256; omega, by show 1 ≤ 100000; omega, by show 0 ≤ fstI b + 255; omega, by show fstI b + 255 < 4294967296; omega⟩
  · exact ⟨by show (D ++ [fstI b + 256]).length ≤ 256; rw [List.length_append, hlD]; exact Nat.le_refl _, by show 1 ≤ 100000; omega, by show 0 ≤ fstI b + 256; omega, by show fstI b + 256 < 4294967296; omega⟩
  · exact ⟨by show (D ++ [fstI b + 256]).length ≤ 256; rw [List.length_append, hlD]; exact Nat.le_refl _, by show 0 ≤ 100000; omega, by show 0 ≤ fstI b + 256; omega, by show fstI b + 256 < 4294967296; omega⟩
end Go.Proofs.Ytegkkomlpgappaa.Q
