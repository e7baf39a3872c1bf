import Derived.Test.YtmihibikhmldgaaW13
namespace Go.Proofs.Ytmihibikhmldgaa.Q
open Go.RowKit Go.Proofs.YtmihibikhmldgaaW.PrintWords Go.Proofs.YtmihibikhmldgaaW.PrintLast Go.Proofs.YtmihibikhmldgaaW.PrintMore Go.Proofs.Ytmihibikhmldgaa.Sl Go.Proofs.Ytmihibikhmldgaa.Hand 
attribute [local go_sem] max2_int min2_int max_two min_two max_three min_three max_four min_four 
set_option linter.unusedVariables false
set_option linter.unusedSimpArgs false

/-- What Uint answers is a number of 32 bits. -/
def RdOk (s : RSt) : Prop := s.u.length ≤ 1000000 ∧ 0 ≤ uintV s ∧ uintV s < 4294967296
theorem uintS_len (s : RSt) : (uintS s).u.length ≤ s.u.length := by
  unfold uintS
  split
  · split
    · show (s.u.drop 4).length ≤ _
      rw [List.length_drop]
      omega
    · show ([] : List Int).length ≤ _
      simp
  · exact Nat.le_refl _
/-- Array, all ways. -/
theorem Array_in {w0 w : World} {R : Res} (g : Nat) (s : RSt) (most : Int) (hs : SL w0 w [rdS g s, R]) (ho : RdOk s) :
    Calls Try.prog 26 #[.pointer (some ⟨g, 0, none⟩), .int .i64 most] w fun e w' => ∃ A c, e = .returned (.slice A (arrV s most).length c) ∧ SL w0 w' [rdS g (arrS s most), R, row8 (.slice A (arrV s most).length c) (arrV s most)] := by
  obtain ⟨hu, h0, h1⟩ := ho
  have hul := uintS_len s
  unfold arrV arrS
  by_cases he : (uintS s).er ≠ 0
  · rw [if_pos he, if_pos he]
    refine (Array_e1 g s most hs he).mono ?_
    rintro e w' ⟨rfl, hs⟩
    exact ⟨none, 0, rfl, sl_nil hs (Kd.int .u8) enc8 5⟩
  rw [if_neg he, if_neg he]
  have he0 : (uintS s).er = 0 := Decidable.not_not.1 he
  by_cases hm : mx most 0 < uintV s
  · rw [if_pos hm, if_pos hm]
    refine (Array_e2 g s most hs he0 hm h0 h1).mono ?_
    rintro e w' ⟨rfl, hs⟩
    exact ⟨none, 0, rfl, sl_nil hs (Kd.int .u8) enc8 5⟩
  rw [if_neg hm, if_neg hm]
  by_cases hl : ((uintS s).u.length : Int) < needN s
  · rw [if_pos hl, if_pos hl]
    refine (Array_e3 g s most hs he0 (by omega) h0 h1 hl).mono ?_
    rintro e w' ⟨rfl, hs⟩
    exact ⟨none, 0, rfl, sl_nil hs (Kd.int .u8) enc8 5⟩
  rw [if_neg hl, if_neg hl]
  obtain ⟨u, er, hS⟩ : ∃ u er, uintS s = ⟨u, er⟩ := ⟨_, _, rfl⟩
  obtain rfl : er = 0 := by rw [hS] at he0; exact he0
  obtain ⟨n, hn⟩ : ∃ n : Nat, uintV s = (n : Int) := ⟨(uintV s).toNat, by omega⟩
  have hp0 : 0 ≤ padN (n : Int) ∧ padN (n : Int) ≤ 3 := by unfold padN; omega
  obtain ⟨p, hp⟩ : ∃ p : Nat, padN (n : Int) = (p : Int) := ⟨(padN (n : Int)).toNat, by omega⟩
  have hneed : (needN s).toNat = n + p := by unfold needN; rw [hn, hp]; omega
  have hnt : (uintV s).toNat = n := by omega
  unfold cleanB
  rw [hneed, hnt]
  have hul2 : u.length ≤ 1000000 := by rw [hS] at hul; exact Nat.le_trans hul hu
  have hl2 : n + p ≤ u.length := by unfold needN at hl; rw [hS, hn, hp] at hl; have : ¬ ((u.length : Int) < (n : Int) + (p : Int)) := hl; omega
  have hS1 : (uintS s).u = u := by rw [hS]
  rw [hS1]
  rcases Nat.eq_zero_or_pos n with rfl | n0
  · have hp00 : p = 0 := by have : padN ((0 : Nat) : Int) = 0 := rfl; omega
    subst hp00
    refine (Array_e5 g s most hs u hS hn).mono ?_
    rintro e w' ⟨A, c, rfl, hs⟩
    have hc : ((u.take (0 + 0)).drop 0).all (· == 0) = true := by simp
    rw [if_pos hc, if_pos hc]
    exact ⟨A, c, rfl, hs⟩
  · have hmost : (n : Int) ≤ most := by
      have : ¬ mx most 0 < (n : Int) := by rw [← hn]; exact hm
      unfold mx at this
      split at this <;> omega
    refine (Array_e4 g s most hs u hS n p hn hp n0 (by omega) (by omega) hmost hl2 hul2).mono ?_
    rintro e w' (⟨hc, A, c, rfl, hs⟩ | ⟨hc, rfl, hs⟩)
    · rw [if_pos hc, if_pos hc]
      have hln : (u.take n).length = n := by rw [List.length_take]; omega
      rw [hln]
      exact ⟨A, c, rfl, hs⟩
    · rw [if_neg (by rw [hc]; decide), if_neg (by rw [hc]; decide)]
      exact ⟨none, 0, rfl, sl_nil hs (Kd.int .u8) enc8 5⟩
theorem Array_sl {w0 w : World} {L : List Res} (h : SL w0 w L) (i : Nat) {g : Nat} {s : RSt} (hi : L[i]? = some (rdS g s)) (most : Int) (ho : RdOk s) :
    Calls Try.prog 26 #[.pointer (some ⟨g, 0, none⟩), .int .i64 most] w fun e w' => ∃ A c, e = .returned (.slice A (arrV s most).length c) ∧ SL w0 w' (L.set i (rdS g (arrS s most)) ++ [row8 (.slice A (arrV s most).length c) (arrV s most)]) := by
  obtain ⟨S, h1, h2⟩ := sl_lift h hi
  refine (Array_in g s most h1 ho).mono ?_
  rintro e w' ⟨A, c, rfl, h4⟩
  exact ⟨A, c, rfl, h2 _ _ _ h4⟩
end Go.Proofs.Ytmihibikhmldgaa.Q
