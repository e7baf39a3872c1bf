import Derived.Test.YtmihibikhmldgaaW3
namespace Go.Proofs.Ytmihibikhmldgaa.Q
open Go.RowKit Go.Proofs.YtmihibikhmldgaaW.PrintWords Go.Proofs.YtmihibikhmldgaaW.PrintLast Go.Proofs.YtmihibikhmldgaaW.PrintMore Go.Proofs.Ytmihibikhmldgaa.Sl Go.Proofs.Ytmihibikhmldgaa.Hand 
attribute [local go_sem] max2_int min2_int max_two min_two max_three min_three max_four min_four 
set_option linter.unusedVariables false
set_option linter.unusedSimpArgs false

def quad (n : Int) : List Int := [n % 256, (n / 256) % 256, (n / 65536) % 256, n / 16777216]
theorem quad_byte {n : Int} (h0 : 0 ≤ n) (h1 : n < 4294967296) : ∀ x ∈ quad n, 0 ≤ x ∧ x < 256 := by
  intro x hx
  simp only [quad, List.mem_cons, List.not_mem_nil, or_false] at hx
  omega
theorem lit_C {w : World} {g : Nat} {xs : List Int} (hb : w.heap[g]? = some (.cells (xs.flatMap enc8).toArray 5 (0, 0))) (hl : xs.length ≤ maxLen) : Kd.C (Kd.int .u8) w (some ⟨g, 0, none⟩) xs.length xs :=
  ((LR.lit flat8 hb hl).reads' flat8).2.2
set_option maxHeartbeats 2000000 in
set_option maxRecDepth 100000 in
theorem PutUint_sl {w0 w : World} {L : List Res} (h : SL w0 w L) (A : Option Addr) (c : Nat) (b : List Int) (n : Int) (hr : Kd.C (Kd.int .u8) w A b.length b) (hc : b.length ≤ c) (h0 : 0 ≤ n) (h1 : n < 4294967296) (hl : b.length ≤ 1000000) :
    Calls Try.prog 37 #[.slice A b.length c, .int .u32 n] w fun e w' => ∃ A' c', e = .returned (.slice A' (b.length + 4) c') ∧ SL w0 w' (L ++ [row8 (.slice A' (b.length + 4) c') (b ++ quad n)]) := by
  have H := Aside0.mk h
  have HR := Aside0.mk hr
  have HL := Aside0.mk hl
  have HS := Aside0.mk (sl_start w)
  have q1 : (b.length : Int) ≤ (c : Int) := by omega
  clear h hr hc hl
  go_enter Try.func37, Try.ntmps37
  go_wp2_with (first | (at_builtin; refine app_grow (by repeat (with_reducible first | exact HS.out | apply sl_drewN | apply sl_drew | apply sl_box | apply sl_alloc)) b (quad n) rfl (.tmp 10) (.tmp 22) rfl rfl rfl (Kd.C_below HR.out (by repeat (with_reducible first | exact Below.refl _ _ | apply below_alloc | apply pw_below_drewN | apply below_drew1))) (by exact lit_C (xs := quad n) (by exact heap_alloc_new _ _) (by simp [quad, maxLen])) (by decide) (by have := HL.out; omega) ?_; intro A1 c1 w1 hs; replace HS := Aside0.mk hs; clear hs))
  go_ret
  exact ⟨A1, c1, rfl, sl_new2 H.out (sl_pick HS.out [1] (by decide) rfl)⟩
theorem PutInt_sl {w0 w : World} {L : List Res} (h : SL w0 w L) (A : Option Addr) (c : Nat) (b : List Int) (n : Int) (hr : Kd.C (Kd.int .u8) w A b.length b) (hc : b.length ≤ c) (h0 : -2147483648 ≤ n) (h1 : n < 2147483648) (hl : b.length ≤ 1000000) :
    Calls Try.prog 36 #[.slice A b.length c, .int .i32 n] w fun e w' => ∃ A' c', e = .returned (.slice A' (b.length + 4) c') ∧ SL w0 w' (L ++ [row8 (.slice A' (b.length + 4) c') (b ++ quad (n % 4294967296))]) := by
  have H := Aside0.mk h
  have HR := Aside0.mk hr
  have HC := Aside0.mk hc
  have HL := Aside0.mk hl
  have HN := Aside0.mk (show 0 ≤ n % 4294967296 ∧ n % 4294967296 < 4294967296 by omega)
  clear h hr hc hl
  go_enter Try.func36, Try.ntmps36
  go_wp2_with (first | (go_at_call 37; refine (PutUint_sl H.out A c b (n % 4294967296) HR.out HC.out HN.out.1 HN.out.2 HL.out).mono ?_; rintro e w1 ⟨A1, c1, rfl, hs⟩; have HS := Aside0.mk hs; clear hs))
  go_ret
  exact ⟨A1, c1, rfl, HS.out⟩
def padN (n : Int) : Int := (4 - n % 4) % 4
theorem padding_calls (n : Nat) (w : World) (hn : n ≤ 1000000) : Calls Try.prog 49 #[.int .i64 (n : Int)] w fun e w' => e = .returned (.int .i64 (padN n)) ∧ w = w' := by
  go_enter Try.func49, Try.ntmps49
  go_wp2
  go_ret
  exact ⟨rfl, rfl⟩
end Go.Proofs.Ytmihibikhmldgaa.Q
