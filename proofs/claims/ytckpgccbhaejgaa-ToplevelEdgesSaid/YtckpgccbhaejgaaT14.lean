import Derived.Test.YtckpgccbhaejgaaT13
namespace Go.Proofs.Ytckpgccbhaejgaa.Q
open Go.RowKit Go.Proofs.YtckpgccbhaejgaaW.PrintWords Go.Proofs.YtckpgccbhaejgaaW.PrintLast Go.Proofs.YtckpgccbhaejgaaW.PrintMore Go.Proofs.Ytckpgccbhaejgaa.Sl Go.Proofs.Ytckpgccbhaejgaa.Hand 
attribute [local go_sem] max2_int min2_int max_two min_two max_three min_three max_four min_four 
set_option linter.unusedVariables false
set_option linter.unusedSimpArgs false

theorem Edges_law (gx gy k sx sy : Int) (w : World) : Calls Try.prog 3 #[.agg #[.int .i64 gx, .int .i64 gy], .int .i64 k, .agg #[.int .i64 sx, .int .i64 sy]] w fun e w' => e = .returned (.bool true) ∧ Below w.heap.size w w' := by
  by_cases h1 : gx < 1
  · exact out_1 gx gy k sx sy w h1
  by_cases h2 : 16384 < gx
  · exact out_2 gx gy k sx sy w h2
  by_cases h3 : gy < 1
  · exact out_3 gx gy k sx sy w (by omega) (by omega) h3
  by_cases h4 : 16384 < gy
  · exact out_4 gx gy k sx sy w (by omega) (by omega) h4
  replace h1 : 1 ≤ gx := by omega
  replace h2 : gx ≤ 16384 := by omega
  replace h3 : 1 ≤ gy := by omega
  replace h4 : gy ≤ 16384 := by omega
  by_cases hk : edgeB k = true
  · have hc : k = 1 ∨ k = 2 ∨ k = 4 ∨ k = 5 ∨ k = 6 ∨ k = 8 ∨ k = 9 ∨ k = 10 := by
      unfold edgeB at hk
      simp only [Bool.or_eq_true, beq_iff_eq] at hk
      omega
    by_cases hv : valB 1 sx sy = true
    · rcases hc with rfl | rfl | rfl | rfl | rfl | rfl | rfl | rfl
      · exact ok_1 gx gy sx sy w h1 h2 h3 h4 hv
      · exact ok_2 gx gy sx sy w h1 h2 h3 h4 hv
      · exact ok_4 gx gy sx sy w h1 h2 h3 h4 hv
      · exact ok_5 gx gy sx sy w h1 h2 h3 h4 hv
      · exact ok_6 gx gy sx sy w h1 h2 h3 h4 hv
      · exact ok_8 gx gy sx sy w h1 h2 h3 h4 hv
      · exact ok_9 gx gy sx sy w h1 h2 h3 h4 hv
      · exact ok_10 gx gy sx sy w h1 h2 h3 h4 hv
    · have hv := Bool.eq_false_iff.2 hv
      rcases hc with rfl | rfl | rfl | rfl | rfl | rfl | rfl | rfl
      · exact no_1 gx gy sx sy w h1 h2 h3 h4 hv
      · exact no_2 gx gy sx sy w h1 h2 h3 h4 hv
      · exact no_4 gx gy sx sy w h1 h2 h3 h4 hv
      · exact no_5 gx gy sx sy w h1 h2 h3 h4 hv
      · exact no_6 gx gy sx sy w h1 h2 h3 h4 hv
      · exact no_8 gx gy sx sy w h1 h2 h3 h4 hv
      · exact no_9 gx gy sx sy w h1 h2 h3 h4 hv
      · exact no_10 gx gy sx sy w h1 h2 h3 h4 hv
  · exact bad gx gy k sx sy w h1 h2 h3 h4 (Bool.eq_false_iff.2 hk)
end Go.Proofs.Ytckpgccbhaejgaa.Q
