/- What the rows' condition on the four tables gives: their cells; and a world that meets it. -/
import Derived.Test.YtinchgipfaefbaaDoorRows
import Derived.Test.YtinchgipfaefbaaDoorV1
import Derived.Lib.LaidTab
import Derived.ProofKit
import Derived.LaidMore
import Derived.OpenShut
import Derived.Stop.Joined
namespace Go.Proofs.YtinchgipfaefbaaDoor.Tb
open Go.ChangeShapes Go.WideShapes Go.ChangeAt Go.WideMaps Go.WideElems Go.RowKit
abbrev laidL : List (String × DataW Unit) := [("compositor/popup.sidesX", Rows.laid_compositor_popup_sidesX), ("compositor/popup.sidesY", Rows.laid_compositor_popup_sidesY), ("compositor/popup.flipsX", Rows.laid_compositor_popup_flipsX), ("compositor/popup.flipsY", Rows.laid_compositor_popup_flipsY)]
theorem gfx : Tryd.prog.globalNamed "compositor/popup.flipsX" = some 0 := by kernel_rfl
theorem gfy : Tryd.prog.globalNamed "compositor/popup.flipsY" = some 1 := by kernel_rfl
theorem gsx : Tryd.prog.globalNamed "compositor/popup.sidesX" = some 2 := by kernel_rfl
theorem gsy : Tryd.prog.globalNamed "compositor/popup.sidesY" = some 3 := by kernel_rfl
theorem tfx : (Tryd.prog.globals[0]?).map (·.type) = some 45 := by kernel_rfl
theorem tfy : (Tryd.prog.globals[1]?).map (·.type) = some 45 := by kernel_rfl
theorem tsx : (Tryd.prog.globals[2]?).map (·.type) = some 45 := by kernel_rfl
theorem tsy : (Tryd.prog.globals[3]?).map (·.type) = some 45 := by kernel_rfl
theorem c3 : Tryd.prog.cellsOf 3 = 1 := by kernel_rfl
theorem c45 : Tryd.prog.cellsOf 45 = 9 := by kernel_rfl
theorem u45 : Tryd.prog.underlying 45 = some (.array 9 3) := by kernel_rfl
theorem u3 : Tryd.prog.underlying 3 = some (.int .i64) := by kernel_rfl
theorem at_tab {W : World} {name : String} {g : Nat} {cs : Array Value} {zs : List Int} (hl : zs.length = 9) (hg : Tryd.prog.globalNamed name = some g) (hv : W.var? Tryd.prog name = some cs) (hc : cs.toList = zs.map fun z => Value.int .i64 z) (m : Nat) (hm : m < 9) :
    W.cell? ⟨g, m, none⟩ = some (.int .i64 (zs.getD m 0)) := by
  rw [World.var?_cell hg hv m, ← Array.getElem?_toList, hc, List.getElem?_map, List.getElem?_eq_getElem (by omega), List.getD_eq_getElem?_getD, List.getElem?_eq_getElem (by omega)]
  rfl
theorem lt_of_cell {W : World} {p : Addr} {v : Value} (h : W.cell? p = some v) : p.block < W.heap.size := by
  rcases Nat.lt_or_ge p.block W.heap.size with h1 | h1
  · exact h1
  · unfold World.cell? at h
    rw [Array.getElem?_eq_none h1] at h
    cases h
/-- What the condition gives the walks. -/
theorem tab_of_laid {W : World} (h : laidMetH Tryd.prog laidL W) : Q.Tab W := by
  rw [MakeChecks.laidMetH_plain _ _ _ (by kernel_rfl)] at h
  obtain ⟨ps, ⟨g0, t0, cs0, f0, p0, q0, hg0, ht0, hv0, hd0, ⟨g1, t1, cs1, f1, p1, q1, hg1, ht1, hv1, hd1, ⟨g2, t2, cs2, f2, p2, q2, hg2, ht2, hv2, hd2, ⟨g3, t3, cs3, f3, p3, q3, hg3, ht3, hv3, hd3, _, _⟩, _⟩, _⟩, _⟩, _, _⟩ := h
  obtain rfl := Option.some.inj (gsx.symm.trans hg0)
  obtain rfl := Option.some.inj (gsy.symm.trans hg1)
  obtain rfl := Option.some.inj (gfx.symm.trans hg2)
  obtain rfl := Option.some.inj (gfy.symm.trans hg3)
  obtain rfl := Option.some.inj (tsx.symm.trans ht0)
  obtain rfl := Option.some.inj (tsy.symm.trans ht1)
  obtain rfl := Option.some.inj (tfx.symm.trans ht2)
  obtain rfl := Option.some.inj (tfy.symm.trans ht3)
  have k0 := Lib.cells_of_tab (k := .i64) (zs := Q.sidesX) u45 u3 c3 c45 hd0
  have k1 := Lib.cells_of_tab (k := .i64) (zs := Q.sidesY) u45 u3 c3 c45 hd1
  have k2 := Lib.cells_of_tab (k := .i64) (zs := Q.flipsX) u45 u3 c3 c45 hd2
  have k3 := Lib.cells_of_tab (k := .i64) (zs := Q.flipsY) u45 u3 c3 c45 hd3
  have hy := at_tab (zs := Q.sidesY) rfl hg1 hv1 k1
  exact ⟨lt_of_cell (hy 0 (by omega)), at_tab (zs := Q.flipsX) rfl hg2 hv2 k2, at_tab (zs := Q.flipsY) rfl hg3 hv3 k3, at_tab (zs := Q.sidesX) rfl hg0 hv0 k0, hy⟩
/-- The door's own heap meets the condition. -/
theorem door_met (os : Os) (args : Array Value) : laidMetH Tryd.prog laidL ((World.doorLaid Tryd.prog 29 os).forCall (fun _ _ => 0) ⟨#[], args, []⟩).memory :=
  laidMetH_of_parts3 (fuel := 8) (laidMet_of_run' 8 (by kernel_rfl) (by kernel_rfl)) (by kernel_rfl) (by kernel_rfl)
end Go.Proofs.YtinchgipfaefbaaDoor.Tb
