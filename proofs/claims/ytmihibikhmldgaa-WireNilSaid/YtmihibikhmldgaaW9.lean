import Derived.Laws.BytesArg
import Derived.Test.YtmihibikhmldgaaW8
namespace Go.Proofs.Ytmihibikhmldgaa.Q
open Go.RowKit Go.Proofs.YtmihibikhmldgaaW.PrintWords Go.Proofs.YtmihibikhmldgaaW.PrintLast Go.Proofs.YtmihibikhmldgaaW.PrintMore Go.Proofs.Ytmihibikhmldgaa.Sl Go.Proofs.Ytmihibikhmldgaa.Hand 
attribute [local go_sem] max2_int min2_int max_two min_two max_three min_three max_four min_four 
set_option linter.unusedVariables false
set_option linter.unusedSimpArgs false

theorem nr_String (v : Value) (m : Int) (w : World) (h : NoRd v w) : Calls Try.prog 24 #[v, .int .i64 m] w fun e w' => e = .returned (.string ByteArray.empty) ∧ Drawn0 w w' := by
  have H := Aside0.mk h
  clear h
  have hcv := fun (w : World) (l c : Nat) => run_convert_bytes_nil (P := Try.prog) (w := w) 22 5 Try.underlying22 Try.underlying5 l c
  go_enter Try.func24, Try.ntmps24
  go_wp2_with (first
    | (go_at_call 26; refine (nr_Array v m _ H.out).mono ?_; rintro e w1 ⟨rfl, ⟨nd, rfl⟩⟩))
  go_loopg [13] 0 (fun kq v13 wr => v13 = .int .i64 0 ∧ Aside0 (∃ n, wr = w.drewN n))
  case atStart => exact ⟨rfl, ⟨⟨_, rfl⟩⟩⟩
  case round =>
    obtain ⟨rfl, HW⟩ := hrel
    have b1 : decide ((0 : Int) < 0) = false := rfl
    go_wp2
    go_ret
    obtain ⟨n, rfl⟩ := HW.out
    exact ⟨rfl, ⟨n, rfl⟩⟩
theorem PutIntO {w0 w : World} {L : List Res} (h : SL w0 w L) (A : Option Addr) (c : Nat) (b : List Int) (n : Int) (hr : Kd.C (Kd.int .u8) w A b.length b) (hc : b.length ≤ c) (h0 : -2147483648 ≤ n) (h1 : n < 2147483648) (hl : b.length ≤ 1000000) :
    Calls Try.prog 36 #[.slice A b.length c, .int .i32 n] w fun e w' => ∃ A' c', e = .returned (.slice A' (b.length + 4) c') ∧ SL w0 w' (L ++ [rowO (.slice A' (b.length + 4) c') (b ++ quad (n % 4294967296))]) := by
  have H := Aside0.mk h
  have HR := Aside0.mk hr
  have HC := Aside0.mk hc
  have HL := Aside0.mk hl
  have HN := Aside0.mk (show 0 ≤ n % 4294967296 ∧ n % 4294967296 < 4294967296 by omega)
  clear h hr hc hl
  go_enter Try.func36, Try.ntmps36
  go_wp2_with (first | (go_at_call 37; refine (PutUintO H.out A c b (n % 4294967296) HR.out HC.out HN.out.1 HN.out.2 HL.out).mono ?_; rintro e w1 ⟨A1, c1, rfl, hs⟩; have HS := Aside0.mk hs; clear hs))
  go_ret
  exact ⟨A1, c1, rfl, HS.out⟩
/-- No byte is taken: the answer is some empty slice. -/
theorem take_zero {w0 w : World} {R : Res} (g : Nat) (u : List Int) (er : Int) (hs : SL w0 w [rdR g u er, R]) : Calls Try.prog 45 #[.pointer (some ⟨g, 0, none⟩), .int .i64 0] w fun e w' => ∃ A, e = .returned (.slice A 0 0) ∧ SL w0 w' [rdR g u er, R] := by
  obtain ⟨A, c, hc, hC, hs1⟩ := rd_open hs 0 rfl
  have HS := Aside0.mk (show SL w0 w [cellsR g 68 #[.slice A u.length c, .int .i64 er, .bool true], R, frR8 (.slice A u.length c) u] from hs1)
  have m0 := (blk_cell (sl_blk HS.out 0 rfl) 0).trans (show _ = some (Value.slice A u.length c) from rfl)
  have f0 := blk_frozen (sl_blk HS.out 0 rfl) 0
  have hg_ := blk_lt (sl_blk HS.out 0 rfl)
  have b1 : decide ((u.length : Int) < 0) = false := decide_eq_false (by omega)
  clear hs hs1 hC hc
  go_enter Try.func45, Try.ntmps45
  go_wp2
  go_ret
  refine ⟨A, rfl, ?_⟩
  have h1 := sl_put HS.out 0 rfl 0 (.slice A u.length c)
  have h2 := sl_close (A := fun v => cellsR g 68 #[v, .int .i64 er, .bool true]) (B := fun v => frR8 v u) (.slice A u.length c) h1 0 2 (by decide) rfl rfl
  exact sl_pick h2 [0, 1] (by decide) rfl
end Go.Proofs.Ytmihibikhmldgaa.Q
