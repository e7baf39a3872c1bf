import Derived.Maps.OwnSet
import Derived.Test.YtckpgccbhaejgaaRw
import Derived.Test.YtckpgccbhaejgaaQx0
namespace Go.Proofs.Ytckpgccbhaejgaa.Q
open Go.RowKit Go.Proofs.YtckpgccbhaejgaaW.PrintWords Go.Proofs.YtckpgccbhaejgaaW.PrintLast Go.Proofs.YtckpgccbhaejgaaW.PrintMore Go.Proofs.Ytckpgccbhaejgaa.Sl Go.Proofs.Ytckpgccbhaejgaa.Hand 
attribute [local go_sem] max2_int min2_int max_two min_two max_three min_three max_four min_four 
set_option linter.unusedVariables false
set_option linter.unusedSimpArgs false

open Go.Maps (Keyed)
/-! ### A window's states, in a map -/
structure Bits where
  a : Bool
  b : Bool
  c : Bool
  d : Bool
def bi (x : Bool) : Int := if x = true then 1 else 0
def mskI (s : Bits) : Int := bi s.a + 2 * bi s.b + 4 * bi s.c + 8 * bi s.d
theorem law3 : Keyed Try.prog 3 := Maps.int_keyed Try.underlying3
def ky (k : Int) : Lit := .int .i64 k
structure BitD (D : DataW Unit) (s : Bits) (k1 k2 k4 k8 : Bool) : Prop where
  h1 : Maps.has D (ky 1) = k1
  h2 : Maps.has D (ky 2) = k2
  h4 : Maps.has D (ky 4) = k4
  h8 : Maps.has D (ky 8) = k8
  only : ∀ kl, Maps.has D kl = true → kl = ky 1 ∨ kl = ky 2 ∨ kl = ky 4 ∨ kl = ky 8
  v1 : k1 = true → ∀ z, D.atKey (ky 1) z = .lit (.int .i64 (bi s.a))
  v2 : k2 = true → ∀ z, D.atKey (ky 2) z = .lit (.int .i64 (bi s.b))
  v4 : k4 = true → ∀ z, D.atKey (ky 4) z = .lit (.int .i64 (bi s.c))
  v8 : k8 = true → ∀ z, D.atKey (ky 8) z = .lit (.int .i64 (bi s.d))
  n1 : k1 = false → s.a = false
  n2 : k2 = false → s.b = false
  n4 : k4 = false → s.c = false
  n8 : k8 = false → s.d = false
  sz : Maps.size D = k1.toNat + k2.toNat + k4.toNat + k8.toNat
/-- Block m holds the states. -/
def BitP (w : World) (m : Nat) (s : Bits) : Prop := ∃ D k1 k2 k4 k8, w.ownsMap Try.prog 3 (plainElem Try.prog 3) m (Maps.size D) D ∧ BitD D s k1 k2 k4 k8
theorem BitP.made (w : World) : BitP (w.alloc (.map #[] 0)) w.heap.size ⟨false, false, false, false⟩ :=
  ⟨.map [], false, false, false, false, World.ownsMap_made w _ _ _, rfl, rfl, rfl, rfl, fun kl h => by simp [Maps.has] at h, fun h => (by cases h), fun h => (by cases h), fun h => (by cases h), fun h => (by cases h), fun _ => rfl, fun _ => rfl, fun _ => rfl, fun _ => rfl, rfl⟩
theorem BitP.step {w w1 : World} {m : Nat} {s : Bits} (h : BitP w m s) (hm : m < w.heap.size → w1.heap[m]? = w.heap[m]?) : BitP w1 m s := by
  obtain ⟨D, k1, k2, k4, k8, h2, r⟩ := h
  have hlt := h2.lt
  obtain ⟨es, clock, hb, F, hs, hD⟩ := h2
  exact ⟨D, k1, k2, k4, k8, ⟨es, clock, (hm hlt).trans hb, F, hs, hD⟩, r⟩
def bitR (m : Nat) (s : Bits) : Res where
  P := fun w F => F m ∧ BitP w m s
  loc := fun h hm => ⟨h.1, h.2.step fun hlt => hm m h.1 hlt⟩
theorem sl_bit {w0 w : World} {L : List Res} {m : Nat} {s : Bits} (h : SL w0 w L) (i : Nat) (hi : L[i]? = some (bitR m s)) : BitP w m s := by
  obtain ⟨F, h1, _, _⟩ := sl_upd h hi
  exact h1.2
theorem sl_bmade {w0 w : World} {L : List Res} (h : SL w0 w L) : SL w0 (w.alloc (.map #[] 0)) (L ++ [bitR w.heap.size ⟨false, false, false, false⟩]) :=
  sl_new h (below_alloc (Below.refl _ _) _) (F := fun k => k = w.heap.size) ⟨rfl, BitP.made w⟩ (fun k hk => by simp [hk])
def setB (s : Bits) (k : Int) (x : Bool) : Bits := if k = 1 then ⟨x, s.b, s.c, s.d⟩ else if k = 2 then ⟨s.a, x, s.c, s.d⟩ else if k = 4 then ⟨s.a, s.b, x, s.d⟩ else ⟨s.a, s.b, s.c, x⟩
theorem ky_ne {a b : Int} (h : a ≠ b) : ky a ≠ ky b := fun e => h (by injection e)
theorem BitP.put {w : World} {m : Nat} {s : Bits} (h : BitP w m s) (k : Int) (hk : k = 1 ∨ k = 2 ∨ k = 4 ∨ k = 8) (x : Bool) :
    ∃ w', (Instr.mapUpdate 53 (.map (some m)) (.int .i64 k) (.int .i64 (bi x))).run Try.prog w = .ok () w' ∧ BitP w' m (setB s k x) ∧ w.grownBy w' (some m) := by
  obtain ⟨D, k1, k2, k4, k8, h2, r⟩ := h
  have hwk : (Lit.int .i64 k).wf = true := by rcases hk with rfl | rfl | rfl | rfl <;> decide
  have hwx : (Lit.int .i64 (bi x)).wf = true := by cases x <;> decide
  have hl4 : Maps.size D < maxLen := by
    rw [r.sz]
    unfold maxLen
    cases k1 <;> cases k2 <;> cases k4 <;> cases k8 <;> decide
  obtain ⟨w', hrun, h7, h8⟩ := h2.update law3 Try.underlying53 hl4 (Maps.keyOf_int_mk Try.underlying3 hwk) (plainElem_int Try.underlying3 hwx)
  have hmap := h2.isMap
  have htidy := h2.tidy law3
  have hkl : WideAt.IsKeyLit (ky k) := trivial
  have hown : w'.ownsMap Try.prog 3 (plainElem Try.prog 3) m (Maps.size (D.put (ky k) (.lit (.int .i64 (bi x))))) (D.put (ky k) (.lit (.int .i64 (bi x)))) := by
    obtain ⟨es, clock, hb, F, hs, hD⟩ := h7
    have hD : D.put (ky k) (.lit (.int .i64 (bi x))) = _ := hD
    refine ⟨es, clock, hb, F, ?_, hD⟩
    rw [hD]
    simp [Maps.size, length_sorted]
  have same := Maps.has_put_same hmap hkl (.lit (.int .i64 (bi x)))
  have other : ∀ j, j ≠ k → Maps.has (D.put (ky k) (.lit (.int .i64 (bi x)))) (ky j) = Maps.has D (ky j) := fun j hj => Maps.has_put_other (ky_ne hj) _
  have vs : ∀ z, (D.put (ky k) (.lit (.int .i64 (bi x)))).atKey (ky k) z = .lit (.int .i64 (bi x)) := fun z => Maps.atKey_put_same hmap hkl _ z
  have vo : ∀ j, j ≠ k → ∀ z, (D.put (ky k) (.lit (.int .i64 (bi x)))).atKey (ky j) z = D.atKey (ky j) z := fun j hj z => Maps.atKey_put_other (ky_ne hj) _ z
  have only : ∀ kl, Maps.has (D.put (ky k) (.lit (.int .i64 (bi x)))) kl = true → kl = ky 1 ∨ kl = ky 2 ∨ kl = ky 4 ∨ kl = ky 8 := fun kl hh => by
    by_cases he : kl = ky k
    · subst he
      rcases hk with rfl | rfl | rfl | rfl <;> simp
    · rw [Maps.has_put_other he] at hh
      exact r.only kl hh
  have hsz := Maps.size_put (k := ky k) htidy (.lit (.int .i64 (bi x)))
  rw [r.sz] at hsz
  refine ⟨w', hrun, ?_, h8⟩
  rcases hk with rfl | rfl | rfl | rfl
  · refine ⟨_, true, k2, k4, k8, hown, same, (other 2 (by decide)).trans r.h2, (other 4 (by decide)).trans r.h4, (other 8 (by decide)).trans r.h8, only, fun _ => vs, fun h z => (vo 2 (by decide) z).trans (r.v2 h z), fun h z => (vo 4 (by decide) z).trans (r.v4 h z), fun h z => (vo 8 (by decide) z).trans (r.v8 h z), fun h => (by cases h), r.n2, r.n4, r.n8, ?_⟩
    rw [hsz, r.h1]
    cases k1 <;> simp <;> omega
  · refine ⟨_, k1, true, k4, k8, hown, (other 1 (by decide)).trans r.h1, same, (other 4 (by decide)).trans r.h4, (other 8 (by decide)).trans r.h8, only, fun h z => (vo 1 (by decide) z).trans (r.v1 h z), fun _ => vs, fun h z => (vo 4 (by decide) z).trans (r.v4 h z), fun h z => (vo 8 (by decide) z).trans (r.v8 h z), r.n1, fun h => (by cases h), r.n4, r.n8, ?_⟩
    rw [hsz, r.h2]
    cases k2 <;> simp <;> omega
  · refine ⟨_, k1, k2, true, k8, hown, (other 1 (by decide)).trans r.h1, (other 2 (by decide)).trans r.h2, same, (other 8 (by decide)).trans r.h8, only, fun h z => (vo 1 (by decide) z).trans (r.v1 h z), fun h z => (vo 2 (by decide) z).trans (r.v2 h z), fun _ => vs, fun h z => (vo 8 (by decide) z).trans (r.v8 h z), r.n1, r.n2, fun h => (by cases h), r.n8, ?_⟩
    rw [hsz, r.h4]
    cases k4 <;> simp <;> omega
  · refine ⟨_, k1, k2, k4, true, hown, (other 1 (by decide)).trans r.h1, (other 2 (by decide)).trans r.h2, (other 4 (by decide)).trans r.h4, same, only, fun h z => (vo 1 (by decide) z).trans (r.v1 h z), fun h z => (vo 2 (by decide) z).trans (r.v2 h z), fun h z => (vo 4 (by decide) z).trans (r.v4 h z), fun _ => vs, r.n1, r.n2, r.n4, fun h => (by cases h), ?_⟩
    rw [hsz, r.h8]
    cases k8 <;> simp <;> omega
end Go.Proofs.Ytckpgccbhaejgaa.Q
