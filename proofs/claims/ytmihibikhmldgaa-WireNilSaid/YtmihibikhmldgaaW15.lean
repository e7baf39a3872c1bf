import Derived.Test.YtmihibikhmldgaaW14
namespace Go.Proofs.Ytmihibikhmldgaa.Q
open Go.RowKit Go.Proofs.YtmihibikhmldgaaW.PrintWords Go.Proofs.YtmihibikhmldgaaW.PrintLast Go.Proofs.YtmihibikhmldgaaW.PrintMore Go.Proofs.Ytmihibikhmldgaa.Sl Go.Proofs.Ytmihibikhmldgaa.Hand 
attribute [local go_sem] max2_int min2_int max_two min_two max_three min_three max_four min_four 
set_option linter.unusedVariables false
set_option linter.unusedSimpArgs false

theorem fail_sl {w0 w : World} {L : List Res} (h : SL w0 w L) (i : Nat) {g : Nat} {u : List Int} {er : Int} (hi : L[i]? = some (rdR g u er)) (e' : Int) : Calls Try.prog 46 #[.pointer (some ⟨g, 0, none⟩), .int .i64 e'] w fun e w' => e = .returned (.tuple #[]) ∧ SL w0 w' (L.set i (rdR g [] e')) := by
  obtain ⟨S, h1, h2⟩ := sl_lift h hi
  refine (fail_in g u er e' h1).mono ?_
  rintro e w' ⟨h3, h4⟩
  have := h2 _ _ [] h4
  rw [List.append_nil] at this
  exact ⟨h3, this⟩
theorem arrV_len {s : RSt} {most : Int} (ho : RdOk s) : (arrV s most).length ≤ 1000000 := by
  have h1 := uintS_len s
  have h2 := ho.1
  unfold arrV
  split
  · simp
  · split
    · simp
    · split
      · simp
      · split
        · rw [List.length_take]
          omega
        · simp
/-- No byte is zero. -/
def noZ (b : List Int) : Bool := b.all (· != 0)
def strV (s : RSt) (most : Int) : List Int := if noZ (arrV s most) = true then arrV s most else []
def strS (s : RSt) (most : Int) : RSt := if noZ (arrV s most) = true then arrS s most else ⟨[], 3⟩
theorem noZ_of {b : List Int} (h : ∀ j : Nat, j < b.length → rd b (j : Int) ≠ 0) : noZ b = true := by
  unfold noZ
  rw [List.all_eq_true]
  intro x hx
  obtain ⟨j, hj⟩ := List.getElem?_of_mem hx
  have hjl := (List.getElem?_eq_some_iff.1 hj).1
  have := h j hjl
  unfold rd at this
  rw [Int.toNat_natCast, List.getD_eq_getElem?_getD, hj] at this
  exact bne_iff_ne.2 this
theorem noZ_not {b : List Int} {j : Nat} (hj : j < b.length) (h : rd b (j : Int) = 0) : noZ b = false := by
  refine Bool.eq_false_iff.2 fun hall => ?_
  unfold noZ at hall
  rw [List.all_eq_true] at hall
  have hm : rd b (j : Int) ∈ b := by
    unfold rd
    rw [Int.toNat_natCast, List.getD_eq_getElem?_getD, List.getElem?_eq_getElem hj]
    exact List.getElem_mem _
  have := hall _ hm
  rw [h] at this
  simp at this
set_option maxHeartbeats 4000000 in
set_option maxRecDepth 100000 in
theorem String_in {w0 w : World} {R : Res} (g : Nat) (s : RSt) (most : Int) (hs : SL w0 w [rdS g s, R]) (ho : RdOk s) :
    Calls Try.prog 24 #[.pointer (some ⟨g, 0, none⟩), .int .i64 most] w fun e w' => e = .returned (.string (strOfNums (strV s most))) ∧ SL w0 w' [rdS g (strS s most), R] := by
  have HS := Aside0.mk hs
  obtain ⟨b, hb⟩ : ∃ b, arrV s most = b := ⟨_, rfl⟩
  obtain ⟨S1, hS1⟩ : ∃ S1, arrS s most = S1 := ⟨_, rfl⟩
  have HA := Aside0.mk (show ∀ {w' : World}, SL w0 w' [rdS g s, R] → Calls Try.prog 26 #[.pointer (some ⟨g, 0, none⟩), .int .i64 most] w' fun e w'' => ∃ A c, e = .returned (.slice A b.length c) ∧ SL w0 w'' [rdS g S1, R, row8 (.slice A b.length c) b] from fun hs => by
    have := Array_in g s most hs ho
    rw [hb, hS1] at this
    exact this)
  have hbl := arrV_len (most := most) ho
  rw [hb] at hbl
  have HE := Aside0.mk (show strV s most = (if noZ b = true then b else []) ∧ strS s most = (if noZ b = true then S1 else ⟨[], 3⟩) by unfold strV strS; rw [hb, hS1]; exact ⟨rfl, rfl⟩)
  clear hs ho hb hS1
  go_enter Try.func24, Try.ntmps24
  go_wp2_with (first
    | (go_at_call 26; refine (HA.out (by repeat (with_reducible first | exact HS.out | apply sl_drewN | apply sl_drew | apply sl_alloc))).mono ?_; rintro e w1 ⟨A, c, rfl, hs⟩; replace HS := Aside0.mk hs; clear hs))
  go_loopg [13] b.length (fun kq v13 wr => ∃ i : Nat, v13 = .int .i64 (i : Int) ∧ Aside0 (i + kq = b.length) ∧ Aside0 (∀ j : Nat, j < i → rd b (j : Int) ≠ 0) ∧ Aside0 (SL w0 wr [rdS g S1, R, row8 (.slice A b.length c) b]))
  case atStart => exact ⟨0, rfl, ⟨by omega⟩, ⟨fun j hj => by omega⟩, ⟨(by repeat (with_reducible first | exact HS.out | apply sl_drewN | apply sl_drew | apply sl_alloc))⟩⟩
  case round =>
    obtain ⟨i, rfl, HI, HJ, HW⟩ := hrel
    have hi := HI.out
    clear HS
    have HS := Aside0.mk HW.out
    have HC := Aside0.mk (sl_reads' flat8 HS.out 2 rfl)
    by_cases hlt : i < b.length
    · have c1 : decide (i < b.length) = true := decide_eq_true hlt
      obtain ⟨kq, rfl⟩ : ∃ m, gk = m + 1 := ⟨gk - 1, by omega⟩
      obtain ⟨ad, rfl, x0⟩ := Kd.at_int HC.out (i : Int) (by omega) (by omega)
      rw [Int.toNat_natCast] at x0
      have q1 : (0 : Int) ≤ (i : Int) := by omega
      have q2 : (i : Int) < (b.length : Int) := by omega
      obtain ⟨x, ex⟩ : ∃ x, rd b (i : Int) = x := ⟨_, rfl⟩
      rw [ex] at x0
      have HX := Aside0.mk ex
      have HLt := Aside0.mk hlt
      clear ex hlt
      by_cases hx : x = 0
      · have hb0 : (x == 0) = true := beq_iff_eq.2 hx
        have HX0 := Aside0.mk hx
        clear hx
        go_wp2_with (first | (go_at_call 46; refine (fail_sl (by repeat (with_reducible first | exact HS.out | apply sl_drewN | apply sl_drew | apply sl_alloc)) 0 (by rfl) 3).mono ?_; rintro e w5 ⟨rfl, hs⟩; replace HS := Aside0.mk hs; clear hs))
        try rw [Exit.noGoto_ret]
        go_ret
        have hz : noZ b = false := noZ_not HLt.out (by rw [HX.out]; exact HX0.out)
        refine ⟨by rw [HE.out.1, if_neg (by rw [hz]; decide)]; rfl, ?_⟩
        rw [HE.out.2, if_neg (by rw [hz]; decide)]
        exact sl_take HS.out 2
      · have hb0 : (x == 0) = false := beq_eq_false_iff_ne.2 hx
        have HX0 := Aside0.mk hx
        clear hx
        go_wp2_with (fail)
        go_roundg kq
        case measure => omega
        case rel =>
          refine ⟨i + 1, rfl, ⟨by have := HI.out; omega⟩, ⟨fun j hj => ?_⟩, HW⟩
          by_cases hj2 : j < i
          · exact HJ.out j hj2
          · obtain rfl : j = i := by omega
            rw [HX.out]
            exact HX0.out
    · have c1 : decide (i < b.length) = false := decide_eq_false hlt
      have HZ := Aside0.mk (noZ_of (b := b) fun j hj => HJ.out j (by omega))
      have hcv := fun (n_ : Nat) => Kd.C_string (P := Try.prog) (c := c) Try.underlying22 Try.underlying5 Try.underlying9 (Kd.C_drewN HC.out n_)
      have hcw := Kd.C_string (P := Try.prog) (c := c) Try.underlying22 Try.underlying5 Try.underlying9 HC.out
      clear hlt hi
      go_wp2_with (fail)
      try rw [Exit.noGoto_ret]
      go_ret
      refine ⟨by rw [HE.out.1, if_pos HZ.out]; rfl, ?_⟩
      rw [HE.out.2, if_pos HZ.out]
      exact sl_take (by repeat (with_reducible first | exact HS.out | apply sl_drewN | apply sl_drew | apply sl_alloc)) 2
theorem String_sl {w0 w : World} {L : List Res} (h : SL w0 w L) (i : Nat) {g : Nat} {s : RSt} (hi : L[i]? = some (rdS g s)) (most : Int) (ho : RdOk s) :
    Calls Try.prog 24 #[.pointer (some ⟨g, 0, none⟩), .int .i64 most] w fun e w' => e = .returned (.string (strOfNums (strV s most))) ∧ SL w0 w' (L.set i (rdS g (strS s most))) := by
  obtain ⟨S, h1, h2⟩ := sl_lift h hi
  refine (String_in g s most h1 ho).mono ?_
  rintro e w' ⟨h3, h4⟩
  have := h2 _ _ [] h4
  rw [List.append_nil] at this
  exact ⟨h3, this⟩
end Go.Proofs.Ytmihibikhmldgaa.Q
