-- Written by wip/myprint.py out of the translation; not trusted: Lean checks it.
import Derived.Test.YtgabllnijkodbaaQx0
import Derived.Test.YtgabllnijkodbaaQx2
import Derived.Test.YtgabllnijkodbaaQx5
import Derived.Test.YtgabllnijkodbaaQx7
namespace Go.Proofs.Ytgabllnijkodbaa.Q
open Go.Proofs.Ytgabllnijkodbaa.Hand
open Go.RowKit Go.Proofs.YtgabllnijkodbaaW.PrintWords Go.Proofs.YtgabllnijkodbaaW.PrintLast Go.Proofs.YtgabllnijkodbaaW.PrintMore
attribute [local go_sem] max2_int min2_int max_two min_two max_three min_three max_four min_four   -- for this text's walks alone
attribute [local go_sem] sg_u32 sg_u8 sg_u16 sg_u64
set_option linter.unusedVariables false
set_option linter.unusedSimpArgs false

/-! ### compositorlaw03_exampleHolds: function 12 -/
def compositorlaw03_exampleHolds.f : Option Bool := some true
theorem ex_v1 : checksum_Verify.f [1, 2, 3] = some ([], 4) := by decide +kernel
theorem ex_v2 : checksum_Verify.f [0, 0, 0, 0] = some ([], 0) := by decide +kernel
theorem ex_c1 : checksum_CRC32.f [49, 50, 51, 52, 53, 54, 55, 56, 57] = some 3421780262 := by decide +kernel
theorem ex_a1 : checksum_Adler32.f 5 [97] = some 6422626 := by decide +kernel
theorem ex_c2 : checksum_CRC32.f [] = some 0 := by decide +kernel
theorem ex_a2 : checksum_Adler32.f 5 [] = some 1 := by decide +kernel
theorem C_lit (W : World) (xs : List Int) (fr : Nat × Nat) (hm : xs.length ≤ 9223372036854775807) : Kd.C (Kd.int .u8) (W.alloc (.cells (nums .u8 xs).toArray 5 fr)) (some ⟨W.heap.size, 0, none⟩) xs.length xs := by
  refine ⟨rfl, hm, fun _ => ⟨_, rfl, fun j p hp => ⟨[.int .u8 p], rfl, rfl, fun i u hu => ?_⟩⟩⟩
  have hi : i = 0 := by
    have := (List.getElem?_eq_some_iff.1 hu).1
    simp at this
    exact this
  subst hi
  simp at hu
  subst hu
  have hs : (Kd.int IntKind.u8).sz = 1 := rfl
  rw [hs, Nat.mul_one, Nat.add_zero, add_plain, cell_of_row _ _ _ _ _ _ (heap_alloc_new W _)]
  simp [nums, hp]
set_option maxHeartbeats 4000000 in
set_option maxRecDepth 100000 in
theorem compositorlaw03_exampleHolds.calls (r : Bool) (w : World) (h : compositorlaw03_exampleHolds.f = some r) :
    Calls Try.prog 12 #[] w fun e w' => e = .returned (.bool r) ∧ Below w.heap.size w w' := by
  obtain rfl := Option.some.inj h
  clear h
  have kc := fun (w : World) (C : Array Value) (n c : Nat) => Lib.run_convert_bytes_const (P := Try.prog) w 23 5 C n c Try.underlying23 Try.underlying5
  go_enter Try.func12, Try.ntmps12
  go_wp2_with fail
  refine (checksum_Verify.calls _ _ [1, 2, 3] [] 4 _ (C_lit w [1, 2, 3] (0, 0) (by decide)) (by decide) ex_v1).mono ?_
  rintro e w1 ⟨v1, rfl, hR1, hb1⟩
  have HB1 := Aside0.mk hb1
  obtain ⟨A1, c1, rfl⟩ := Kd.R_slice hR1
  clear hb1 hR1
  go_wp2_with fail
  refine (checksum_Verify.calls _ _ [0, 0, 0, 0] [] 0 _ (C_lit w1 [0, 0, 0, 0] (0, 0) (by decide)) (by decide) ex_v2).mono ?_
  rintro e w2 ⟨v2, rfl, hR2, hb2⟩
  have HB2 := Aside0.mk hb2
  obtain ⟨A2, c2, rfl⟩ := Kd.R_slice hR2
  clear hb2 hR2
  go_wp2_with fail
  refine (checksum_CRC32.calls _ _ [49, 50, 51, 52, 53, 54, 55, 56, 57] _ _ (C_lit w2 [49, 50, 51, 52, 53, 54, 55, 56, 57] (9, 10) (by decide)) (by decide) ex_c1).mono ?_
  rintro e w3 ⟨rfl, hb3⟩
  have HB3 := Aside0.mk hb3
  clear hb3
  go_wp2_with fail
  refine (checksum_Adler32.calls 5 _ _ [97] _ _ (C_lit w3 [97] (1, 2) (by decide)) (by decide) ex_a1).mono ?_
  rintro e w4 ⟨rfl, hb4⟩
  have HB4 := Aside0.mk hb4
  clear hb4
  go_wp2_with fail
  refine (checksum_CRC32.calls _ _ [] _ _ (Kd.C_nil _ _) (Nat.le_refl _) ex_c2).mono ?_
  rintro e w5 ⟨rfl, hb5⟩
  have HB5 := Aside0.mk hb5
  clear hb5
  go_wp2_with fail
  refine (checksum_Adler32.calls 5 _ _ [] _ _ (Kd.C_nil _ _) (Nat.le_refl _) ex_a2).mono ?_
  rintro e w6 ⟨rfl, hb6⟩
  have HB6 := Aside0.mk hb6
  clear hb6
  go_wp2_with fail
  have b1 := below_step (below_alloc (Below.refl w.heap.size w) _) HB1.out
  have b2 := below_step (below_alloc b1 _) HB2.out
  have b3 := below_step (below_alloc b2 _) HB3.out
  have b4 := below_step (below_alloc b3 _) HB4.out.below
  have b5 := below_step b4 HB5.out
  have b6 := below_step b5 HB6.out.below
  go_ret
  exact ⟨rfl, b6⟩

end Go.Proofs.Ytgabllnijkodbaa.Q
