-- Written by wip/myprint.py out of the translation; not trusted: Lean checks it.
import Derived.Test.YtgabllnijkodbaaQx0
import Derived.Test.YtgabllnijkodbaaQx3
namespace Go.Proofs.Ytgabllnijkodbaa.Q
open Go.Proofs.Ytgabllnijkodbaa.Hand
open Go.RowKit Go.Proofs.YtgabllnijkodbaaW.PrintWords Go.Proofs.YtgabllnijkodbaaW.PrintLast Go.Proofs.YtgabllnijkodbaaW.PrintMore
attribute [local go_sem] max2_int min2_int max_two min_two max_three min_three max_four min_four   -- for this text's walks alone
attribute [local go_sem] sg_u32 sg_u8 sg_u16 sg_u64
set_option linter.unusedVariables false
set_option linter.unusedSimpArgs false

/-! ### checksum_CombineAdler32: function 27 -/
def checksum_CombineAdler32.f (a0 : Int) (a1 : Int) (a2 : Int) : Option (Int) := (checksum_parts.f a0).bind fun bt256 => ((checksum_parts.f a1).bind fun bt258 => (some (Go.bits .or .u32 ((((Int.tmod (IntKind.u64.wrap ((IntKind.u64.wrap ((IntKind.u64.wrap (bt256.2)) + (IntKind.u64.wrap (bt258.2)))) + (IntKind.u64.wrap ((Int.tmod (IntKind.u64.wrap (mx a2 0)) 65521) * ((((bt256.1 + 65521) % 4294967296) - 1) % 4294967296))))) 65521) % 4294967296) * 65536) % 4294967296) (((((((bt256.1 + bt258.1) % 4294967296) + 65521) % 4294967296) - 1) % 4294967296) % 65521))))
set_option maxHeartbeats 8000000 in
set_option maxRecDepth 100000 in
theorem checksum_CombineAdler32.calls (a0 : Int) (a1 : Int) (a2 : Int) (r : Int) (w : World) (h : checksum_CombineAdler32.f a0 a1 a2 = some r) :
    Calls Try.prog 27 #[.int .u32 a0, .int .u32 a1, .int .i64 a2] w fun e w' => e = .returned (.int .u32 r) ∧ Below w.heap.size w w' := by
  have HB := Aside0.mk (Below.refl w.heap.size w)
  have H : ((checksum_parts.f a0).bind fun bt256 => ((checksum_parts.f a1).bind fun bt258 => (some (Go.bits .or .u32 ((((Int.tmod (IntKind.u64.wrap ((IntKind.u64.wrap ((IntKind.u64.wrap (bt256.2)) + (IntKind.u64.wrap (bt258.2)))) + (IntKind.u64.wrap ((Int.tmod (IntKind.u64.wrap (mx a2 0)) 65521) * ((((bt256.1 + 65521) % 4294967296) - 1) % 4294967296))))) 65521) % 4294967296) * 65536) % 4294967296) (((((((bt256.1 + bt258.1) % 4294967296) + 65521) % 4294967296) - 1) % 4294967296) % 65521))))) = some r := h
  clear h
  replace H := Option.bind_eq_some_iff.mp H
  obtain ⟨⟨t256, t257⟩, A40, H⟩ := H
  replace H : ((checksum_parts.f a1).bind fun bt258 => (some (Go.bits .or .u32 ((((Int.tmod (IntKind.u64.wrap ((IntKind.u64.wrap ((IntKind.u64.wrap (t257)) + (IntKind.u64.wrap (bt258.2)))) + (IntKind.u64.wrap ((Int.tmod (IntKind.u64.wrap (mx a2 0)) 65521) * ((((t256 + 65521) % 4294967296) - 1) % 4294967296))))) 65521) % 4294967296) * 65536) % 4294967296) (((((((t256 + bt258.1) % 4294967296) + 65521) % 4294967296) - 1) % 4294967296) % 65521)))) = some r := H
  have A4 := Aside0.mk A40
  clear A40
  replace H := Option.bind_eq_some_iff.mp H
  obtain ⟨⟨t258, t259⟩, A50, H⟩ := H
  replace H : (some (Go.bits .or .u32 ((((Int.tmod (IntKind.u64.wrap ((IntKind.u64.wrap ((IntKind.u64.wrap (t257)) + (IntKind.u64.wrap (t259)))) + (IntKind.u64.wrap ((Int.tmod (IntKind.u64.wrap (mx a2 0)) 65521) * ((((t256 + 65521) % 4294967296) - 1) % 4294967296))))) 65521) % 4294967296) * 65536) % 4294967296) (((((((t256 + t258) % 4294967296) + 65521) % 4294967296) - 1) % 4294967296) % 65521))) = some r := H
  have A5 := Aside0.mk A50
  clear A50
  obtain ⟨ji6, hji6⟩ : ∃ j_ : Int, (mx a2 0) = j_ := ⟨_, rfl⟩
  replace H : (some (Go.bits .or .u32 ((((Int.tmod (IntKind.u64.wrap ((IntKind.u64.wrap ((IntKind.u64.wrap (t257)) + (IntKind.u64.wrap (t259)))) + (IntKind.u64.wrap ((Int.tmod (IntKind.u64.wrap (ji6)) 65521) * ((((t256 + 65521) % 4294967296) - 1) % 4294967296))))) 65521) % 4294967296) * 65536) % 4294967296) (((((((t256 + t258) % 4294967296) + 65521) % 4294967296) - 1) % 4294967296) % 65521))) = some r := by first | (rw [hji6] at H; exact H) | (simp only [hji6] at H ⊢; exact H)
  (try rw [hji6] at A4)
  (try rw [hji6] at A5)
  (try (have hji6l : 0 ≤ ji6 := by (rw [← hji6]; unfold mx; (repeat' split) <;> omega)))
  (try (have hji6m : 0 ≤ ji6 := by omega))
  have hji6_ : (if a2 < 0 then 0 else a2) = ji6 := hji6
  obtain rfl := Option.some.inj H
  go_enter Try.func27, Try.ntmps27
  go_wp2_with (first | ((with_reducible refine gate_callee (f := 30) rfl ?_); refine goesL_ (some 16) rfl rfl Try.func30 (by kernel_rfl) rfl #[.int .u32 a0] rfl (by (try simp only [List.map_toArray, List.map_cons, List.map_nil]); first | done | rfl | (simp only [List.length_drop, List.length_take]; rfl)) ?_; (with_reducible refine (checksum_parts.calls a0 t256 t257 _ A4.out).mono ?_); rintro e w' ⟨rfl, ⟨nd, rfl⟩⟩; refine ⟨_, rfl, ?_⟩) | ((with_reducible refine gate_callee (f := 30) rfl ?_); refine goesL_ (some 21) rfl rfl Try.func30 (by kernel_rfl) rfl #[.int .u32 a1] rfl (by (try simp only [List.map_toArray, List.map_cons, List.map_nil]); first | done | rfl | (simp only [List.length_drop, List.length_take]; rfl)) ?_; (with_reducible refine (checksum_parts.calls a1 t258 t259 _ A5.out).mono ?_); rintro e w' ⟨rfl, ⟨nd, rfl⟩⟩; refine ⟨_, rfl, ?_⟩))
  go_ret
  exact ⟨by first | rfl | (simp [errW_none, errW_some] <;> rfl) | (simp only [← hji6]; first | rfl | (simp [errW_none, errW_some] <;> rfl)) | (simp [*, errW_none, errW_some] <;> rfl), by repeat (first | (with_reducible first | exact HB.out | apply below_alloc | apply pw_below_drewN | apply below_drew1) | exact HB.out)⟩

end Go.Proofs.Ytgabllnijkodbaa.Q
