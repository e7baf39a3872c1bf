import Derived.Test.YtockppikcghmoaaQu1
namespace Go.Proofs.Ytockppikcghmoaa.Q
open Go.RowKit Go.Proofs.YtockppikcghmoaaW.PrintWords Go.Proofs.YtockppikcghmoaaW.PrintLast Go.Proofs.YtockppikcghmoaaW.PrintMore Go.Proofs.Ytockppikcghmoaa.Sl Go.Proofs.Ytockppikcghmoaa.Hand 
attribute [local go_sem] max2_int min2_int max_two min_two max_three min_three max_four min_four 
set_option linter.unusedVariables false
set_option linter.unusedSimpArgs false

theorem findI_none {l : List S40} {s : Int} (h : ∀ j : Nat, j < l.length → (rd_T40 l (j : Int)).f0 ≠ s) : findI l s = -1 := by
  refine find0_none 0 (fun c hc => ?_)
  obtain ⟨j, hj⟩ := List.getElem?_of_mem hc
  have hl := (List.getElem?_eq_some_iff.1 hj).1
  have := h j hl
  simpa [rd_T40, hj] using this
theorem findI_at {l : List S40} {s : Int} {n : Nat} (h0 : ∀ j : Nat, j < n → (rd_T40 l (j : Int)).f0 ≠ s) (h1 : n < l.length) (h : (rd_T40 l (n : Int)).f0 = s) : findI l s = n := by
  unfold findI
  rw [find0_at 0 n h0 h1 h]
  simp
set_option maxHeartbeats 1000000 in
set_option maxRecDepth 100000 in
theorem find_calls (g : Nat) (v : Value) (Fr : Nat → Prop) (q : QSt) (s : Int) (w : World) (hq : LR k40 enc40 40 w Fr v q.wait) (hb : w.heap[g]? = some (.cells (qcells v q) 57 (0, 0))) :
    Calls Try.prog 25 #[.pointer (some ⟨g, 0, none⟩), .int .u32 s] w fun e w' => e = .returned (.int .i64 (findI q.wait s)) ∧ Below w.heap.size w w' := by
  obtain ⟨A, c, rfl, hc, hr⟩ := hq.reads flat40
  have h3 := (blk_cell hb 3).trans (show _ = some (Value.slice A q.wait.length c) from rfl)
  have HR := Aside0.mk hr
  have HB0 := Aside0.mk (Below.refl w.heap.size w)
  have hm := hr.2.1
  clear hq hb hr hc
  generalize hl : q.wait = l at *
  clear hl
  go_enter Try.func25, Try.ntmps25
  go_wp2
  go_step3
  go_wp2
  go_step3
  go_wp2
  go_loopg [5, 13] l.length (fun kq v5 v13 wr => ∃ i : Nat, v5 = .int .i64 (-1) ∧ v13 = .int .i64 (i : Int) ∧ Aside0 (i + kq = l.length) ∧ Aside0 (∀ j : Nat, j < i → (rd_T40 l (j : Int)).f0 ≠ s) ∧ Aside0 (Below w.heap.size w wr))
  case atStart => exact ⟨0, rfl, rfl, ⟨by omega⟩, ⟨fun j hj => by omega⟩, HB0⟩
  case round =>
    obtain ⟨i, rfl, rfl, HI, HJ, HB⟩ := hrel
    have hi := HI.out
    by_cases hlt : i < l.length
    · have b1 : decide (i < l.length) = true := decide_eq_true hlt
      obtain ⟨kq, rfl⟩ : ∃ m, gk = m + 1 := ⟨gk - 1, by omega⟩
      obtain ⟨ad, rfl, x0, x1, x2, x3⟩ := at_T40 (Kd.C_below HR.out HB.out) (i : Int) (by omega) (by omega)
      rw [Int.toNat_natCast] at x0 x1 x2 x3
      have p1 : (0 : Int) ≤ (i : Int) := by omega
      have p2 : (i : Int) < (l.length : Int) := by omega
      generalize hx : rd_T40 l (i : Int) = x at x0 x1 x2 x3
      have HX := Aside0.mk hx
      clear hx hlt
      by_cases hs : x.f0 = s
      · have HS := Aside0.mk hs
        have b2 : (x.f0 == s) = true := beq_iff_eq.2 hs
        clear hs
        go_wp2
        rw [Exit.noGoto_ret]
        go_ret
        refine ⟨ret_i ?_, below_alloc HB.out _⟩
        exact (findI_at HJ.out (by have := HI.out; omega) (by rw [HX.out]; exact HS.out)).symm
      · have HS := Aside0.mk hs
        have b2 : (x.f0 == s) = false := beq_eq_false_iff_ne.2 hs
        clear hs
        go_wp2
        go_roundg kq
        case measure => omega
        case rel =>
          refine ⟨i + 1, rfl, rfl, ⟨by omega⟩, ⟨fun j hj => ?_⟩, ⟨below_alloc HB.out _⟩⟩
          by_cases hj2 : j < i
          · exact HJ.out j hj2
          · have : j = i := by omega
            subst this
            rw [HX.out]
            exact HS.out
    · have b1 : decide (i < l.length) = false := decide_eq_false hlt
      have e : findI l s = -1 := findI_none (fun j hj => HJ.out j (by omega))
      have E := Aside0.mk e
      clear e hlt
      go_wp2
      rw [Exit.noGoto_ret]
      go_ret
      exact ⟨ret_i E.out.symm, HB.out⟩
end Go.Proofs.Ytockppikcghmoaa.Q
