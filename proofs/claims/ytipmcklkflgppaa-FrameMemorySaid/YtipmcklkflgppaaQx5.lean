-- Written by wip/myprint.py out of the translation; not trusted: Lean checks it.
import Derived.Test.YtipmcklkflgppaaQx0
import Derived.Test.YtipmcklkflgppaaQx2
import Derived.Test.YtipmcklkflgppaaQx4
namespace Go.Proofs.Ytipmcklkflgppaa.Q
open Go.Proofs.Ytipmcklkflgppaa.Hand
open Go.RowKit Go.Proofs.YtipmcklkflgppaaW.PrintWords Go.Proofs.YtipmcklkflgppaaW.PrintLast Go.Proofs.YtipmcklkflgppaaW.PrintMore
attribute [local go_sem] max2_int min2_int max_two min_two max_three min_three max_four min_four   -- for this text's walks alone
attribute [local go_sem] sg_u32 sg_u8 sg_u16 sg_u64
set_option linter.unusedVariables false
set_option linter.unusedSimpArgs false

/-! ### compositorlaw02_exampleHolds: function 10 -/
def compositorlaw02_exampleHolds.f : Option Bool := some true
theorem ex_p : frame_Put.f 9 3 1 [] = some ([3, 0, 0, 0, 1, 0, 8, 0], 0) := by kernel_rfl
theorem ex_s1 : frame_Split.f 3 [3, 0, 0, 0, 1, 0, 8, 0, 5] = some ([⟨3, 1, []⟩], 8, 0) := by kernel_rfl
theorem ex_s2 : frame_Split.f 3 [1, 0, 0, 0, 0, 0, 10, 0] = some ([], 0, 3) := by kernel_rfl
theorem ex_s3 : frame_Split.f 3 [1, 0, 0, 0, 0, 0, 4, 16] = some ([], 0, 5) := by kernel_rfl
theorem C_lit (W : World) (xs : List Int) (fr : Nat × Nat) (hm : xs.length ≤ 9223372036854775807) : Kd.C (Kd.int .u8) (W.alloc (.cells (nums .u8 xs).toArray 5 fr)) (some ⟨W.heap.size, 0, none⟩) xs.length xs := by
  refine ⟨rfl, hm, fun _ => ⟨_, rfl, fun j p hp => ⟨[.int .u8 p], rfl, rfl, fun i u hu => ?_⟩⟩⟩
  have hi : i = 0 := by
    have := (List.getElem?_eq_some_iff.1 hu).1
    simp at this
    exact this
  subst hi
  simp at hu
  subst hu
  have hs : (Kd.int IntKind.u8).sz = 1 := rfl
  rw [hs, Nat.mul_one, Nat.add_zero, add_plain, cell_of_row _ _ _ _ _ _ (heap_alloc_new W _)]
  simp [nums, hp]
set_option maxHeartbeats 4000000 in
set_option maxRecDepth 100000 in
theorem compositorlaw02_exampleHolds.calls (r : Bool) (w : World) (h : compositorlaw02_exampleHolds.f = some r) :
    Calls Try.prog 10 #[] w fun e w' => e = .returned (.bool r) ∧ Below w.heap.size w w' := by
  obtain rfl := Option.some.inj h
  clear h
  go_enter Try.func10, Try.ntmps10
  go_wp2_with fail
  refine (frame_Put.calls 9 3 1 none 0 [] [3, 0, 0, 0, 1, 0, 8, 0] 0 _ (Kd.C_nil _ _) (Nat.le_refl _) ex_p).mono ?_
  rintro e w1 ⟨v1, rfl, hR1, hb1⟩
  have HB1 := Aside0.mk hb1
  have HR1 := Aside0.mk (Kd.R_mono (Kd.R_bound hR1) (ok' := fun k => k < w1.heap.size) (fun k hk => hk.2.2.1))
  obtain ⟨A1, c1, rfl⟩ := Kd.R_slice hR1
  clear hb1 hR1
  go_wp2_with (first | ((with_reducible refine gate_dst (N := 18) rfl ?_); refine Aside0.out ?_))
  constructor
  refine Kd.R_lit (Kd.int .u8) w.heap.size 5 ?hg (N := 18) ?hd (w0 := w) (xs := ([] : List Int)) (inner := []) (ok := fun _ => True) (okp := fun _ => True) ?hr ?hp (fun _ hk => hk) trivial HB1.out (below_size HB1.out) (by simp) ?_
  case hd => rfl
  case hg => rfl
  case hr => first | (go_simp; done) | (go_simp; rfl)
  case hp => exact (Reps.none _ _)
  intro v18 w2 ho2 hb2 hg2 hnew2
  have HB2 := Aside0.mk hb2
  have HO2 := Aside0.mk ho2
  have HR2 := Aside0.mk (Kd.R_grown HR1.out hg2 (fun _ _ => by simp))
  have HN2 := Aside0.mk (show ∀ k, k < w1.heap.size → some k ≠ v18.ownBlock from fun k hk e => by
    obtain ⟨b, hb, hle⟩ := hnew2
    rw [hb] at e
    injection e with e
    omega)
  have HZ2 := Aside0.mk hg2.size
  clear ho2 hb2 hg2 hnew2 HR1
  obtain ⟨_, _, hC2⟩ := Kd.R_reads' HR2.out
  have HC2 := Aside0.mk hC2
  clear hC2
  go_wp2_with (first | ((with_reducible refine gate_builtin (b := .append) (xs := #[.tmp 18, .tmp 19]) rfl ?_); refine Aside0.out ?_))
  constructor
  at_builtin
  refine Kd.R_append_rows (Kd.int .u8) (w0 := w) w.heap.size rfl (.tmp 18) (.tmp 19) 23 5 (.int .u8 0) 1 rfl Try.underlying23 info5 rfl (by decide) (by omega) v18 ([] : List Int) [3, 0, 0, 0, 1, 0, 8, 0] _ _ _ (fun _ => True) (fun _ => False) rfl rfl ?aO ?aR (fun _ _ h => h) (fun _ h => h.elim) ?aF ?aB ?aS ?aL ?_
  case aO => exact HO2.out
  case aR => exact HC2.out
  case aF => exact fun _ _ => trivial
  case aB => exact HB2.out
  case aS => exact below_size HB2.out
  case aL => simp
  intro v20 w3 ho3 hb3 hg3 hat3
  have HB3 := Aside0.mk hb3
  have HO3 := Aside0.mk ho3
  have HR3 := Aside0.mk (Kd.R_grown HR2.out hg3 HN2.out)
  have HN3 := Aside0.mk (show ∀ k, k < w1.heap.size → some k ≠ v20.ownBlock from fun k hk e => by
    rcases hat3 with h | ⟨b, hb, hle⟩
    · exact HN2.out k hk (e.trans h)
    · rw [hb] at e
      injection e with e
      have := HZ2.out
      omega)
  clear ho3 hb3 hg3 hat3 HO2 HC2 HR2 HN2 HZ2
  go_wp2_with (first | ((with_reducible refine gate_builtin (b := .append) (xs := #[.tmp 20, .tmp 21]) rfl ?_); refine Aside0.out ?_))
  constructor
  at_builtin
  refine Kd.R_append (Kd.int .u8) (w0 := w) w.heap.size rfl (.tmp 20) (.tmp 21) 23 5 (.int .u8 0) 1 rfl Try.underlying23 info5 rfl (by decide) (by omega) v20 ([] ++ [3, 0, 0, 0, 1, 0, 8, 0]) (5 : Int) [.int .u8 5] (fun _ => True) (fun _ => False) rfl rfl ?aP (fun _ hk => hk.elim) ?aF ?aO ?aB ?aS ?aL ?_
  case aP => exact rfl
  case aF => exact fun _ _ => trivial
  case aO => exact HO3.out
  case aB => exact HB3.out
  case aS => exact below_size HB3.out
  case aL => simp
  intro v22 w4 ho4 hb4 hg4 hat4
  have HB4 := Aside0.mk hb4
  have HO4 := Aside0.mk ho4
  obtain ⟨A4, c4, rfl⟩ := Kd.R_slice ho4
  obtain ⟨_, hc4, hC4⟩ := Kd.R_reads' ho4
  have HR4 := Aside0.mk (Kd.R_grown HR3.out hg4 HN3.out)
  clear ho4 hb4 hg4 hat4 HO3 HR3 HN3
  have HC4 := Aside0.mk hC4
  have HL4 := Aside0.mk hc4
  clear hc4 hC4
  go_wp2_with fail
  refine (frame_Split.calls 3 _ _ [3, 0, 0, 0, 1, 0, 8, 0, 5] _ _ _ _ HC4.out HL4.out ex_s1).mono ?_
  rintro e w5 ⟨v5, rfl, hR5, hb5⟩
  obtain ⟨A5, c5, rfl⟩ := Kd.S_slice hR5
  obtain ⟨_, hc5, hC5⟩ := Kd.S_reads' hR5
  have HC5 := Aside0.mk hC5
  have HC1 := Aside0.mk (Kd.R_reads' (Kd.R_below HR4.out hb5)).2.2
  clear HR4
  have HB5 := Aside0.mk hb5
  clear hc5 hC5 hR5 hb5 HO4 HC4 HL4
  go_wp2_with fail
  refine (frame_Split.calls 3 _ _ [1, 0, 0, 0, 0, 0, 10, 0] _ _ _ _ (C_lit w5 [1, 0, 0, 0, 0, 0, 10, 0] (0, 0) (by decide)) (by decide) ex_s2).mono ?_
  rintro e w6 ⟨v6, rfl, hR6, hb6⟩
  have HB6 := Aside0.mk hb6
  clear hR6 hb6
  go_wp2_with fail
  refine (frame_Split.calls 3 _ _ [1, 0, 0, 0, 0, 0, 4, 16] _ _ _ _ (C_lit w6 [1, 0, 0, 0, 0, 0, 4, 16] (0, 0) (by decide)) (by decide) ex_s3).mono ?_
  rintro e w7 ⟨v7, rfl, hR7, hb7⟩
  have HB7 := Aside0.mk hb7
  clear hR7 hb7
  have b5 := below_step HB4.out HB5.out
  have b6 := below_step (below_alloc b5 _) HB6.out
  have b7 := below_step (below_alloc b6 _) HB7.out
  have hs1 : Below w5.heap.size w5 w7 := below_step (below_alloc (below_step (below_alloc (Below.refl _ _) _) HB6.out) _) HB7.out
  have hC7 := Kd.C_below HC5.out hs1
  have BB := Aside0.mk b7
  have hC71 : Kd.C (Kd.int .u8) w7 A1 [3, 0, 0, 0, 1, 0, 8, 0].length [3, 0, 0, 0, 1, 0, 8, 0] := Kd.C_below HC1.out hs1
  obtain ⟨ad, A5_2, c5_2, e5, hx0, hx1, hx2, hl2, hi2⟩ := at_T25 hC7 0 (by decide) (by decide)
  cases e5
  clear b5 b6 b7 hs1 hC7 hl2 hi2
  simp only [Int.toNat_zero, Nat.zero_mul] at hx0 hx1 hx2
  have hy0 : w7.cell? ad = some (.int .u32 3) := hx0
  have hy1 : w7.cell? ⟨ad.block, ad.off + 1, none⟩ = some (.int .i64 1) := hx1
  clear hx0 hx1 hx2
  have hcv := Kd.C_string (P := Try.prog) (A := A1) (c := c1) Try.underlying23 Try.underlying5 Try.underlying9 (show Kd.C (Kd.int .u8) w7 A1 8 [3, 0, 0, 0, 1, 0, 8, 0] from hC71)
  have hq : strOfNums [3, 0, 0, 0, 1, 0, 8, 0] = { data := #[3, 0, 0, 0, 1, 0, 8, 0] } := by kernel_rfl
  rw [hq] at hcv
  clear hq
  go_wp2_with fail
  go_ret
  exact ⟨rfl, BB.out⟩

end Go.Proofs.Ytipmcklkflgppaa.Q
