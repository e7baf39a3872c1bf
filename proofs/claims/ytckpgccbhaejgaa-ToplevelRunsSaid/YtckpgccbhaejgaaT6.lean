import Derived.Laws.StandIn
import Derived.Test.YtckpgccbhaejgaaT5
namespace Go.Proofs.Ytckpgccbhaejgaa.Q
open Go.RowKit Go.Proofs.YtckpgccbhaejgaaW.PrintWords Go.Proofs.YtckpgccbhaejgaaW.PrintLast Go.Proofs.YtckpgccbhaejgaaW.PrintMore Go.Proofs.Ytckpgccbhaejgaa.Sl Go.Proofs.Ytckpgccbhaejgaa.Hand 
attribute [local go_sem] max2_int min2_int max_two min_two max_three min_three max_four min_four 
set_option linter.unusedVariables false
set_option linter.unusedSimpArgs false

theorem idx_eq (s : ByteArray) (w : World) : (callFunc 52 #[.string s, .int .u8 0]).run Try.prog w = .ok (.value (.int .i64 (firstIdx s 0))) w := by
  rw [run_callFunc_indexByte Try.func52 (by kernel_rfl) (by kernel_rfl) (by kernel_rfl) (by kernel_rfl), run_indexByte_string]
  rfl
theorem idx50_c (s : ByteArray) (w : World) {r : Int} (hr : firstIdx s 0 = r) : Calls Try.prog 50 #[.string s, .int .u8 0] w fun e w' => e = .returned (.int .i64 r) ∧ Drawn0 w w' := by
  have hx := idx_eq s
  rw [hr] at hx
  go_enter Try.func50, Try.ntmps50
  go_wp2
  go_ret
  exact ⟨rfl, by repeat (first | exact Drawn0.refl _ | apply Drawn0.step)⟩
theorem idx46_c (s : ByteArray) (w : World) {r : Int} (hr : firstIdx s 0 = r) : Calls Try.prog 46 #[.string s, .int .u8 0] w fun e w' => e = .returned (.int .i64 r) ∧ Drawn0 w w' := by
  have HD := Aside0.mk (Drawn0.refl w)
  go_enter Try.func46, Try.ntmps46
  go_wp2_with (first
    | (go_at_call 50; refine (idx50_c s _ hr).mono ?_; rintro e w1 ⟨rfl, n, rfl⟩)
    | go_in)
  go_ret
  exact ⟨rfl, by repeat (first | exact Drawn0.refl _ | apply Drawn0.step)⟩
def titE (s : ByteArray) : Int := if 1024 < s.size then 5 else if 0 ≤ firstIdx s 0 then 3 else 0
section
variable {w0 w : World} {R : Res}
theorem Title_in (g : Nat) (s : WSt) (t : ByteArray) (hs : SL w0 w [winR g s, R]) : Calls Try.prog 36 #[.pointer (some ⟨g, 0, none⟩), .string t] w fun e w' => e = .returned (.int .i64 (titE t)) ∧ SL w0 w' [winR g s, R] := by
  obtain ⟨m, h1⟩ := win_open hs
  have HS := Aside0.mk h1
  clear hs h1
  by_cases c1 : 1024 < t.size
  · have HE := Aside0.mk (show titE t = 5 from if_pos c1)
    have d1 : decide (1024 < (t.size : Int)) = true := decide_eq_true (by omega)
    clear c1
    go_enter Try.func36, Try.ntmps36
    go_wp2_with (first
    | (go_at_call 25; refine (usable_c (by repeat (with_reducible first | exact HS.out | apply sl_drewN | apply sl_drew | apply sl_box | apply sl_alloc)) 0 (by rfl)).mono ?_; rintro e w1 ⟨rfl, hs⟩; (try simp only [World.size_alloc] at hs); replace HS := Aside0.mk hs; clear hs; )
    | (go_at_call 46; refine (idx46_c t _ HF.out).mono ?_; rintro e w2 ⟨rfl, n, rfl⟩; have hs := sl_drewN HS.out n; replace HS := Aside0.mk hs; clear hs))
    go_ret
    rw [HE.out]
    exact ⟨rfl, win_close s (sl_take HS.out 3)⟩
  have d1 : decide (1024 < (t.size : Int)) = false := decide_eq_false (by omega)
  obtain ⟨F, hF⟩ : ∃ F, firstIdx t 0 = F := ⟨_, rfl⟩
  have HF := Aside0.mk hF
  by_cases c2 : 0 ≤ F
  · have HE := Aside0.mk (show titE t = 3 from (if_neg c1).trans (if_pos (hF ▸ c2)))
    have d2 : decide (0 ≤ F) = true := decide_eq_true c2
    clear c1 c2 hF
    go_enter Try.func36, Try.ntmps36
    go_wp2_with (first
    | (go_at_call 25; refine (usable_c (by repeat (with_reducible first | exact HS.out | apply sl_drewN | apply sl_drew | apply sl_box | apply sl_alloc)) 0 (by rfl)).mono ?_; rintro e w1 ⟨rfl, hs⟩; (try simp only [World.size_alloc] at hs); replace HS := Aside0.mk hs; clear hs; )
    | (go_at_call 46; refine (idx46_c t _ HF.out).mono ?_; rintro e w2 ⟨rfl, n, rfl⟩; have hs := sl_drewN HS.out n; replace HS := Aside0.mk hs; clear hs))
    go_ret
    rw [HE.out]
    exact ⟨rfl, win_close s (sl_take HS.out 3)⟩
  · have HE := Aside0.mk (show titE t = 0 from (if_neg c1).trans (if_neg (hF ▸ c2)))
    have d2 : decide (0 ≤ F) = false := decide_eq_false c2
    clear c1 c2 hF
    go_enter Try.func36, Try.ntmps36
    go_wp2_with (first
    | (go_at_call 25; refine (usable_c (by repeat (with_reducible first | exact HS.out | apply sl_drewN | apply sl_drew | apply sl_box | apply sl_alloc)) 0 (by rfl)).mono ?_; rintro e w1 ⟨rfl, hs⟩; (try simp only [World.size_alloc] at hs); replace HS := Aside0.mk hs; clear hs; )
    | (go_at_call 46; refine (idx46_c t _ HF.out).mono ?_; rintro e w2 ⟨rfl, n, rfl⟩; have hs := sl_drewN HS.out n; replace HS := Aside0.mk hs; clear hs))
    go_ret
    rw [HE.out]
    exact ⟨rfl, win_close s (sl_take HS.out 3)⟩
end
end Go.Proofs.Ytckpgccbhaejgaa.Q
