/- Proved: the law ToplevelEdges, called with any arguments, returns true and changes nothing that was there (no condition). -/
import Derived.Test.YtckpgccbhaejgaaT14
import Derived.Test.YtckpgccbhaejgaaOpen
namespace Go.Proofs.Ytckpgccbhaejgaa.Run
open Go.RowKit Go.Proofs.Ytckpgccbhaejgaa.Q Go.Proofs.Ytckpgccbhaejgaa.Sl Go.Proofs.Ytckpgccbhaejgaa.Open Go.Proofs.YtckpgccbhaejgaaW.PrintWords Go.Proofs.YtckpgccbhaejgaaW.PrintLast
set_option linter.unusedVariables false
def k23 : Kd (Int × Int) := Kd.pair (Kd.int .i64) (Kd.int .i64)
def good23 : Int × Int → Prop := gpair (gint .i64) (gint .i64)
theorem opens23 : Opens Try.prog 23 k23 good23 :=
  opens_struct Try.underlying23 (by kernel_rfl) (at_cons rfl (by kernel_rfl) rfl (opens_int Try.underlying3) (at_last rfl (by kernel_rfl) (opens_int Try.underlying3)))
theorem int_cell {k : IntKind} {W : World} {n a : Int} (c : (Kd.int k).K W a (Value.int k n).cells.toList) : n = a := by
  have : [Value.int k n] = [Value.int k a] := c
  injection this with h
  injection h
theorem pair_cells {W : World} {x : Int × Int} {l : Array Value} (c : k23.K W x (Value.agg l).cells.toList) : l = #[.int .i64 x.1, .int .i64 x.2] := by
  obtain ⟨l⟩ := l
  obtain ⟨_, _, e, rfl, rfl⟩ := c
  have e' : l = [.int .i64 x.1, .int .i64 x.2] := by simpa [Value.cells] using e
  rw [e']
theorem ToplevelEdges_o0 : Opens Try.prog 23 k23 good23 := opens23
theorem ToplevelEdges_o1 : Opens Try.prog 3 (Kd.int .i64) (gint .i64) := opens_int Try.underlying3
theorem ToplevelEdges_o2 : Opens Try.prog 23 k23 good23 := opens23
theorem ToplevelEdges_run (W : World) (v : Value) (s : ∃ cs, v = .agg cs ∧ cs.size = Try.prog.cellsOf 23) (a : Int × Int) (g : good23 a) (c : k23.K W a v.cells.toList) (v1 : Value) (s1 : ∃ n, v1 = .int .i64 n) (a1 : Int) (g1 : gint .i64 a1) (c1 : (Kd.int .i64).K W a1 v1.cells.toList) (v2 : Value) (s2 : ∃ cs, v2 = .agg cs ∧ cs.size = Try.prog.cellsOf 23) (a2 : Int × Int) (g2 : good23 a2) (c2 : k23.K W a2 v2.cells.toList) :
    Calls Try.prog 3 #[v, v1, v2] W fun e w' => e = .returned (.bool true) ∧ Below W.heap.size W w' := by
  obtain ⟨cs, rfl, _⟩ := s
  obtain ⟨n1, rfl⟩ := s1
  obtain ⟨cs2, rfl, _⟩ := s2
  obtain rfl := int_cell c1
  obtain rfl := pair_cells c
  obtain rfl := pair_cells c2
  exact Edges_law _ _ _ _ _ W
end Go.Proofs.Ytckpgccbhaejgaa.Run
