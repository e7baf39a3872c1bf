import Derived.Test.YtckpgccbhaejgaaLr
namespace Go.Proofs.Ytckpgccbhaejgaa.Sl
open Go.RowKit Go.Proofs.YtckpgccbhaejgaaW.PrintWords Go.Proofs.YtckpgccbhaejgaaW.PrintLast Go.Proofs.YtckpgccbhaejgaaW.PrintMore Go.Proofs.Ytckpgccbhaejgaa.Sl Go.Proofs.Ytckpgccbhaejgaa.Hand 
attribute [local go_sem] max2_int min2_int max_two min_two max_three min_three max_four min_four 
set_option linter.unusedVariables false
set_option linter.unusedSimpArgs false

/-! ### Rows of the call's own among its things -/
def lrR {α : Type} (d : Kd α) (enc : α → List Value) (e : TypeId) (v : Value) (xs : List α) : Res where
  P := fun w F => LR d enc e w F v xs
  loc := fun h hm => h.step hm
section
variable {w0 w : World} {L : List Res} {A : Res} {α : Type} {d : Kd α} {enc : α → List Value} {e : TypeId} {v : Value} {xs : List α}
/-- Some of the things are forgotten. -/
theorem sl_take (h : SL w0 w L) (n : Nat) : SL w0 w (L.take n) := by
  obtain ⟨hb, G, h1, h2, h3⟩ := h
  refine ⟨hb, fun j k => j < n ∧ G j k, fun j B hB => ?_, fun j k hk => ⟨(h2 j k hk.2).1, (h2 j k hk.2).2.1, ?_⟩, fun j j' k hk hk' => h3 j j' k hk.2 hk'.2⟩
  · rw [List.getElem?_take] at hB
    split at hB
    · rename_i hj
      have := h1 j B hB
      show B.P w (fun k => j < n ∧ G j k)
      simpa [hj] using this
    · cases hB
  · have := (h2 j k hk.2).2.2
    rw [List.length_take]
    omega
variable {P : Program} {ops : Array Oper} {rest : List Oper} {o : Oper} {a : Act} {Q : Exit → Act → World → Prop}
end
end Go.Proofs.Ytckpgccbhaejgaa.Sl
