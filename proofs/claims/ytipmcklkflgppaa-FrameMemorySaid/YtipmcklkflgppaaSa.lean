import Derived.Test.YtipmcklkflgppaaD1
namespace Go.Proofs.Ytipmcklkflgppaa.Q
open Go.RowKit Go.Proofs.YtipmcklkflgppaaW.PrintWords Go.Proofs.YtipmcklkflgppaaW.PrintLast Go.Proofs.YtipmcklkflgppaaW.PrintMore Go.Proofs.Ytipmcklkflgppaa.Sl Go.Proofs.Ytipmcklkflgppaa.Hand Go.Proofs.Ytipmcklkflgppaa.Plain
attribute [local go_sem] max2_int min2_int max_two min_two max_three min_three max_four min_four 
set_option linter.unusedVariables false
set_option linter.unusedSimpArgs false

abbrev kBB : Kd (List Int) := Kd.slice 5 (Kd.int .u8)
def pre (l : List (List Int)) (i : Nat) : List Int := (l.take i).flatten
theorem pre_zero (l : List (List Int)) : pre l 0 = [] := by simp [pre]
theorem pre_succ (l : List (List Int)) (i : Nat) (h : i < l.length) : pre l (i + 1) = pre l i ++ l.getD i [] := by
  unfold pre
  rw [List.take_add_one, List.flatten_append, List.getElem?_eq_getElem h, List.getD_eq_getElem?_getD, List.getElem?_eq_getElem h]
  simp
theorem pre_all (l : List (List Int)) : pre l l.length = l.flatten := by simp [pre]
theorem pre_le (l : List (List Int)) (i : Nat) : (pre l i).length ≤ l.flatten.length := by
  have : l.flatten = pre l i ++ (l.drop i).flatten := by
    unfold pre
    rw [← List.flatten_append, List.take_append_drop]
  rw [this, List.length_append]
  omega
theorem pre_byte {l : List (List Int)} (h : ∀ x ∈ l, ∀ y ∈ x, 0 ≤ y ∧ y < 256) (i : Nat) : ∀ y ∈ pre l i, 0 ≤ y ∧ y < 256 := fun y hy => by
  obtain ⟨x, hx, hyx⟩ := List.mem_flatten.1 hy
  exact h x (List.mem_of_mem_take hx) y hyx
theorem atS {w : World} {A : Option Addr} {l : List (List Int)} (hr : Kd.C kBB w A l.length l) (i : Nat) (hi : i < l.length) : ∃ ad A2 c2, A = some ad ∧ (l.getD i []).length ≤ c2 ∧ ∀ w', Below w.heap.size w w' →
    w'.cell? (ad.add i) = some (.slice A2 (l.getD i []).length c2) ∧ Kd.C (Kd.int .u8) w' A2 (l.getD i []).length (l.getD i []) := by
  obtain ⟨ad, cs, e, _, ⟨A2, c2, rfl, h1, h2⟩, hc0⟩ := Kd.C_get hr [] (i : Int) (by omega) (by omega)
  have hc : ∀ j u, [Value.slice A2 (l.getD i []).length c2][j]? = some u → w.cell? (ad.add (i * 1 + j)) = some u := hc0
  refine ⟨ad, A2, c2, e, h1, fun w' hb => ⟨?_, Kd.C_below h2 hb⟩⟩
  have := pw_cell_below hb (hc 0 _ rfl)
  rw [Nat.mul_one, Nat.add_zero] at this
  exact this
set_option maxHeartbeats 4000000 in
set_option maxRecDepth 100000 in
theorem long_calls (A : Option Addr) (c : Nat) (l : List (List Int)) (w : World) (hr : Kd.C kBB w A l.length l) (hb : ∀ x ∈ l, x.length ≤ 140737488351232) :
    Calls Try.prog 19 #[.slice A l.length c, .int .i64 20000] w fun e w' => e = .returned (.bool (decide (40 < l.length ∨ 20000 < l.flatten.length))) ∧ Below w.heap.size w w' := by
  have HR := Aside0.mk hr
  have hm := hr.2.1
  have HBn := Aside0.mk hb
  clear hr hb
  go_enter Try.func19, Try.ntmps19
  go_upto_region 3 with (fail)
  go_loopg [5, 6] l.length (fun kq v5 v6 wr => ∃ i : Nat, v6 = .int .i64 (i : Int) ∧ v5 = .int .i64 ((pre l i).length : Int) ∧ Aside0 (i + kq = l.length) ∧ Aside0 ((pre l i).length ≤ 140737488400000) ∧ Aside0 (Below w.heap.size w wr))
  case atStart => exact ⟨0, rfl, by rw [pre_zero]; rfl, ⟨by omega⟩, ⟨by rw [pre_zero]; simp⟩, ⟨Below.refl _ _⟩⟩
  case round =>
    obtain ⟨i, rfl, rfl, HI, HN, HB⟩ := hrel
    have hi := HI.out
    have hn := HN.out
    by_cases hlt : i < l.length
    · have b1 : decide (i < l.length) = true := decide_eq_true hlt
      obtain ⟨kq, rfl⟩ : ∃ m, gk = m + 1 := ⟨gk - 1, by omega⟩
      by_cases h2 : (pre l i).length ≤ 20000
      · have b2 : decide ((pre l i).length ≤ 20000) = true := decide_eq_true h2
        have b2' : decide (((pre l i).length : Int) ≤ 20000) = true := decide_eq_true (by omega)
        obtain ⟨ad, A2, c2, rfl, hc2, hx⟩ := atS HR.out i hlt
        obtain ⟨x0, _⟩ := hx _ HB.out
        have hs := pre_succ l i hlt
        have hxl : (l.getD i []).length ≤ 140737488351232 := HBn.out _ (by simp [List.getD_eq_getElem?_getD, hlt])
        generalize l.getD i [] = x at x0 hs hxl
        have hs2 : (pre l (i + 1)).length = (pre l i).length + x.length := by rw [hs, List.length_append]
        have HS2 := Aside0.mk hs2
        have p1 : (0 : Int) ≤ (i : Int) := by omega
        have p2 : (i : Int) < (l.length : Int) := by omega
        clear hx hc2 hs hs2
        go_wp2
        go_roundg kq
        case measure => omega
        case rel => exact ⟨i + 1, rfl, by rw [HS2.out]; simp, ⟨by omega⟩, ⟨by rw [HS2.out]; omega⟩, HB⟩
      · have b2 : decide ((pre l i).length ≤ 20000) = false := decide_eq_false h2
        have b2' : decide (((pre l i).length : Int) ≤ 20000) = false := decide_eq_false (by omega)
        have b3 : decide (20000 < (pre l i).length) = true := decide_eq_true (by omega)
        have b3' : decide (20000 < ((pre l i).length : Int)) = true := decide_eq_true (by omega)
        have hE := Aside0.mk (show decide (40 < l.length ∨ 20000 < l.flatten.length) = true from decide_eq_true (.inr (by have := pre_le l i; omega)))
        have HB2 := HB
        by_cases h4 : 40 < l.length
        · have b4 : decide (40 < (l.length : Int)) = true := decide_eq_true (by omega)
          go_wp2
          go_ret
          exact ⟨by rw [hE.out]; rfl, HB.out⟩
        · have b4 : decide (40 < (l.length : Int)) = false := decide_eq_false (by omega)
          go_wp2
          go_ret
          exact ⟨by rw [hE.out]; rfl, HB.out⟩
    · have b1 : decide (i < l.length) = false := decide_eq_false hlt
      have e : i = l.length := by omega
      have hfl : (pre l i).length = l.flatten.length := by rw [e, pre_all]
      by_cases h4 : 40 < l.length
      · have b4 : decide (40 < (l.length : Int)) = true := decide_eq_true (by omega)
        have hE := Aside0.mk (show decide (40 < l.length ∨ 20000 < l.flatten.length) = true from decide_eq_true (.inl h4))
        clear e hfl
        go_wp2
        go_ret
        exact ⟨by rw [hE.out]; rfl, HB.out⟩
      · have b4 : decide (40 < (l.length : Int)) = false := decide_eq_false (by omega)
        by_cases h5 : 20000 < (pre l i).length
        · have b3' : decide (20000 < ((pre l i).length : Int)) = true := decide_eq_true (by omega)
          have hE := Aside0.mk (show decide (40 < l.length ∨ 20000 < l.flatten.length) = true from decide_eq_true (.inr (by omega)))
          clear e hfl h5
          go_wp2
          go_ret
          exact ⟨by rw [hE.out]; rfl, HB.out⟩
        · have b3' : decide (20000 < ((pre l i).length : Int)) = false := decide_eq_false (by omega)
          have hE := Aside0.mk (show decide (40 < l.length ∨ 20000 < l.flatten.length) = false from decide_eq_false (by omega))
          clear e hfl h5
          go_wp2
          go_ret
          exact ⟨by rw [hE.out]; rfl, HB.out⟩
end Go.Proofs.Ytipmcklkflgppaa.Q
