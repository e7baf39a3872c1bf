import Derived.Test.YtlfediaeaaodpaaP15
namespace Go.Proofs.Ytlfediaeaaodpaa.Q
open Go.RowKit Go.Proofs.YtlfediaeaaodpaaW.PrintWords Go.Proofs.YtlfediaeaaodpaaW.PrintLast Go.Proofs.YtlfediaeaaodpaaW.PrintMore Go.Proofs.Ytlfediaeaaodpaa.Sl Go.Proofs.Ytlfediaeaaodpaa.Hand 
attribute [local go_sem] max2_int min2_int max_two min_two max_three min_three max_four min_four 
set_option linter.unusedVariables false
set_option linter.unusedSimpArgs false

theorem use1 {s lim n : Int} (hn : 0 ≤ n) : useE [⟨s, lim⟩] 0 n = (if lim - s < n then 5 else 0) ∧ useS [⟨s, lim⟩] 0 n = (if lim - s < n then [⟨s, lim⟩] else [⟨s + n, lim⟩]) := by
  have hc : chkE [(⟨s, lim⟩ : S58)] 0 n = 0 := by
    unfold chkE
    rw [if_neg (by simp), if_neg (by omega)]
  have he : useE [⟨s, lim⟩] 0 n = (if lim - s < n then 5 else 0) := by
    unfold useE
    rw [if_neg (by omega)]
    rfl
  refine ⟨he, ?_⟩
  unfold useS
  rw [he]
  by_cases h : lim - s < n
  · rw [if_pos h, if_pos h, if_pos (by decide)]
  · rw [if_neg h, if_neg h, if_neg (by decide)]
    rfl
theorem rel1 {s lim n : Int} (hn : 0 ≤ n) : relE [⟨s, lim⟩] 0 n = (if s < n then 14 else 0) ∧ relS [⟨s, lim⟩] 0 n = (if s < n then [⟨s, lim⟩] else [⟨s - n, lim⟩]) := by
  have hc : chkE [(⟨s, lim⟩ : S58)] 0 n = 0 := by
    unfold chkE
    rw [if_neg (by simp), if_neg (by omega)]
  have he : relE [⟨s, lim⟩] 0 n = (if s < n then 14 else 0) := by
    unfold relE
    rw [if_neg (by omega)]
    rfl
  refine ⟨he, ?_⟩
  unfold relS
  rw [he]
  by_cases h : s < n
  · rw [if_pos h, if_pos h, if_pos (by decide)]
  · rw [if_neg h, if_neg h, if_neg (by decide)]
    rfl
theorem used1 {s lim : Int} : usedE [⟨s, lim⟩] 0 = s := by
  have hc : chkE [(⟨s, lim⟩ : S58)] 0 0 = 0 := by
    unfold chkE
    rw [if_neg (by simp), if_neg (by omega)]
  unfold usedE
  rw [if_neg (by omega)]
  rfl
def doE (q : List S58) (x : S49) : Int := if x.f2 = true then relE q x.f0 x.f1 else useE q x.f0 x.f1
def doS (q : List S58) (x : S49) : List S58 := if x.f2 = true then relS q x.f0 x.f1 else useS q x.f0 x.f1
theorem doS_ok {q : List S58} (h : Qok q) {x : S49} : Qok (doS q x) := by
  unfold doS
  split
  · exact relS_ok h
  · exact useS_ok h
theorem useS_len {q : List S58} {k n : Int} : (useS q k n).length = q.length := by unfold useS; split <;> simp
theorem relS_len {q : List S58} {k n : Int} : (relS q k n).length = q.length := by unfold relS; split <;> simp
theorem doS_len {q : List S58} {x : S49} : (doS q x).length = q.length := by
  unfold doS
  split
  · exact relS_len
  · exact useS_len
theorem rd_self {q : List S58} {k : Int} {v : S58} (h0 : 0 ≤ k) (h1 : k < q.length) : rd_T58 (q.set k.toNat v) k = v := by
  unfold rd_T58
  rw [List.getD_eq_getElem?_getD, List.getElem?_set_self (by omega)]
  rfl
theorem rd_other {q : List S58} {k j : Int} {v : S58} (h : k.toNat ≠ j.toNat) : rd_T58 (q.set k.toNat v) j = rd_T58 q j := by
  unfold rd_T58
  rw [List.getD_eq_getElem?_getD, List.getElem?_set_ne h, ← List.getD_eq_getElem?_getD]
theorem useE_0 {q : List S58} {k n : Int} (h : useE q k n = 0) : chkE q k n = 0 := by
  unfold useE at h
  split at h
  · exact h
  · omega
theorem relE_0 {q : List S58} {k n : Int} (h : relE q k n = 0) : chkE q k n = 0 := by
  unfold relE at h
  split at h
  · exact h
  · omega
/-- A kind alone. -/
theorem do_one {q a : List S58} {x : S49} (hl : q.length = a.length) (hr : rd_T58 q x.f0 = rd_T58 a x.f0) : doE q x = doE a x ∧ rd_T58 (doS q x) x.f0 = rd_T58 (doS a x) x.f0 := by
  have hc : ∀ k n, chkE q k n = chkE a k n := fun k n => by unfold chkE; rw [hl]
  have hu : useE q x.f0 x.f1 = useE a x.f0 x.f1 := by unfold useE; rw [hc, hr]
  have hre : relE q x.f0 x.f1 = relE a x.f0 x.f1 := by unfold relE; rw [hc, hr]
  unfold doE doS
  split
  · refine ⟨hre, ?_⟩
    unfold relS
    rw [hre]
    split
    · exact hr
    · rename_i h
      have h0 : relE a x.f0 x.f1 = 0 := by omega
      obtain ⟨p0, p1, _⟩ := chk0 (relE_0 h0)
      rw [rd_self p0 (by omega), rd_self p0 p1, hr]
  · refine ⟨hu, ?_⟩
    unfold useS
    rw [hu]
    split
    · exact hr
    · rename_i h
      have h0 : useE a x.f0 x.f1 = 0 := by omega
      obtain ⟨p0, p1, _⟩ := chk0 (useE_0 h0)
      rw [rd_self p0 (by omega), rd_self p0 p1, hr]
theorem do_other {q : List S58} {x : S49} {j : Int} (hj : 0 ≤ j) (h : x.f0 ≠ j) : rd_T58 (doS q x) j = rd_T58 q j := by
  unfold doS
  split
  · unfold relS
    split
    · rfl
    · rename_i h0
      obtain ⟨p0, p1, _⟩ := chk0 (relE_0 (show relE q x.f0 x.f1 = 0 by omega))
      exact rd_other (by omega)
  · unfold useS
    split
    · rfl
    · rename_i h0
      obtain ⟨p0, p1, _⟩ := chk0 (useE_0 (show useE q x.f0 x.f1 = 0 by omega))
      exact rd_other (by omega)
end Go.Proofs.Ytlfediaeaaodpaa.Q
