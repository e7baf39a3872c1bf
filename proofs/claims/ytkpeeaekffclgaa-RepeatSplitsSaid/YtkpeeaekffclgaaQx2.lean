-- Written by wip/myprint.py out of the translation; not trusted: Lean checks it.
import Derived.Test.YtkpeeaekffclgaaQx0
import Derived.Test.YtkpeeaekffclgaaQx4
namespace Go.Proofs.Ytkpeeaekffclgaa.Q
open Go.Proofs.Ytkpeeaekffclgaa.Hand
open Go.RowKit Go.Proofs.YtkpeeaekffclgaaW.PrintWords Go.Proofs.YtkpeeaekffclgaaW.PrintLast Go.Proofs.YtkpeeaekffclgaaW.PrintMore
attribute [local go_sem] max2_int min2_int max_two min_two max_three min_three max_four min_four   -- for this text's walks alone
attribute [local go_sem] sg_u32 sg_u8 sg_u16 sg_u64
set_option linter.unusedVariables false
set_option linter.unusedSimpArgs false

/-! ### repeat_New: function 9 -/
def okNew (r d : Int) : Prop := 0 ≤ r ∧ r ≤ 1000 ∧ 1 ≤ d ∧ d ≤ 10000
instance (r d : Int) : Decidable (okNew r d) := by unfold okNew; infer_instance
def repeat_New.f (r d : Int) : Option (Int × Int × Int × Int × Int × Int × Int) := if okNew r d then some (r, d, 0, 0, 0, 0, 0) else none
set_option maxRecDepth 100000 in
theorem repeat_New.calls (a0 a1 : Int) (r1 r2 r3 r4 r5 r6 r7 : Int) (w0 w : World) (hB : Below w0.heap.size w0 w) (h : repeat_New.f a0 a1 = some (r1, r2, r3, r4, r5, r6, r7)) :
    Calls Try.prog 9 #[.int .i64 a0, .int .i64 a1] w fun e w' => ∃ g_ : Nat, e = .returned (.tuple #[.pointer (some ⟨g_, 0, none⟩), .int .i64 r7]) ∧ IsS59 w0 w' g_ r1 r2 r3 r4 r5 r6 ∧ Below w0.heap.size w0 w' ∧ Below w.heap.size w w' := by
  unfold repeat_New.f at h
  by_cases hk : okNew a0 a1
  case neg => rw [if_neg hk] at h; exact absurd h (by simp)
  rw [if_pos hk] at h
  simp only [Option.some.injEq, Prod.mk.injEq] at h
  obtain ⟨rfl, rfl, rfl, rfl, rfl, rfl, rfl⟩ := h
  unfold okNew at hk
  have HB := Aside0.mk hB
  have b1 : decide (a0 < 0) = false := decide_eq_false (by omega)
  have b2 : decide (1000 < a0) = false := decide_eq_false (by omega)
  have b3 : decide (a1 < 1) = false := decide_eq_false (by omega)
  have b4 : decide (10000 < a1) = false := decide_eq_false (by omega)
  clear hk hB
  go_enter Try.func9, Try.ntmps9
  go_wp2
  go_ret2
  exact ⟨w.heap.size, rfl, ⟨heap_alloc_new _ _, HB.out.size⟩, below_then HB.out HB.out.size (below_alloc (Below.refl _ _) _), below_alloc (Below.refl _ _) _⟩
/-- Arguments that are not valid: no timer. -/
theorem repeat_New.bad (a0 a1 : Int) (w : World) (hk : ¬ okNew a0 a1) :
    Calls Try.prog 9 #[.int .i64 a0, .int .i64 a1] w fun e w' => e = .returned (.tuple #[.pointer none, .int .i64 6]) ∧ Below w.heap.size w w' := by
  unfold okNew at hk
  by_cases c1 : a0 < 0
  · have b1 : decide (a0 < 0) = true := decide_eq_true c1
    clear hk c1
    go_enter Try.func9, Try.ntmps9
    go_wp2
    go_ret2
    exact ⟨rfl, by repeat (first | exact Below.refl _ _ | apply pw_below_drewN | apply below_drew1)⟩
  have b1 : decide (a0 < 0) = false := decide_eq_false c1
  by_cases c2 : 1000 < a0
  · have b2 : decide (1000 < a0) = true := decide_eq_true c2
    clear hk c1 c2
    go_enter Try.func9, Try.ntmps9
    go_wp2
    go_ret2
    exact ⟨rfl, by repeat (first | exact Below.refl _ _ | apply pw_below_drewN | apply below_drew1)⟩
  have b2 : decide (1000 < a0) = false := decide_eq_false c2
  by_cases c3 : a1 < 1
  · have b3 : decide (a1 < 1) = true := decide_eq_true c3
    clear hk c1 c2 c3
    go_enter Try.func9, Try.ntmps9
    go_wp2
    go_ret2
    exact ⟨rfl, by repeat (first | exact Below.refl _ _ | apply pw_below_drewN | apply below_drew1)⟩
  have b3 : decide (a1 < 1) = false := decide_eq_false c3
  have b4 : decide (10000 < a1) = true := decide_eq_true (by omega)
  clear hk c1 c2 c3
  go_enter Try.func9, Try.ntmps9
  go_wp2
  go_ret2
  exact ⟨rfl, by repeat (first | exact Below.refl _ _ | apply pw_below_drewN | apply below_drew1)⟩

end Go.Proofs.Ytkpeeaekffclgaa.Q
