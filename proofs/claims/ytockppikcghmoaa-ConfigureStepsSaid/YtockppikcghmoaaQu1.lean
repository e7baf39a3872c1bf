import Derived.Test.YtockppikcghmoaaQx0
import Derived.Test.YtockppikcghmoaaLr
namespace Go.Proofs.Ytockppikcghmoaa.Q
open Go.RowKit Go.Proofs.YtockppikcghmoaaW.PrintWords Go.Proofs.YtockppikcghmoaaW.PrintLast Go.Proofs.YtockppikcghmoaaW.PrintMore Go.Proofs.Ytockppikcghmoaa.Sl Go.Proofs.Ytockppikcghmoaa.Hand 
attribute [local go_sem] max2_int min2_int max_two min_two max_three min_three max_four min_four 
set_option linter.unusedVariables false
set_option linter.unusedSimpArgs false

/-- What a queue holds. -/
structure QSt where
  wait : List S40
  next : S40
  acked : Bool
  conf : Bool
def q0 : QSt := ⟨[], z40, false, false⟩
def find0 : List S40 → Int → Nat → Int
  | [], _, _ => -1
  | c :: l, s, i => if c.f0 = s then (i : Int) else find0 l s (i + 1)
/-- The place of the waiting configuration with a serial, or -1. -/
def findI (l : List S40) (s : Int) : Int := find0 l s 0
theorem find0_none {s : Int} : ∀ {l : List S40} (i : Nat), (∀ c ∈ l, c.f0 ≠ s) → find0 l s i = -1
  | [], _, _ => rfl
  | c :: l, i, h => by
    unfold find0
    rw [if_neg (h c (by simp))]
    exact find0_none (i + 1) (fun d hd => h d (by simp [hd]))
theorem find0_at {s : Int} : ∀ {l : List S40} (i : Nat) (n : Nat), (∀ j, j < n → (rd_T40 l (j : Int)).f0 ≠ s) → n < l.length → (rd_T40 l (n : Int)).f0 = s → find0 l s i = (i + n : Nat)
  | [], _, _, _, h, _ => by simp at h
  | c :: l, i, 0, _, _, h => by
    unfold find0
    rw [if_pos (by simpa [rd_T40] using h)]
    simp
  | c :: l, i, n + 1, h0, h1, h => by
    unfold find0
    have hc : c.f0 ≠ s := by simpa [rd_T40] using h0 0 (by omega)
    rw [if_neg hc, find0_at (i + 1) n (fun j hj => ?_) (by simpa using h1) (by simpa [rd_T40] using h)]
    · congr 1; omega
    · simpa [rd_T40] using h0 (j + 1) (by omega)
theorem find0_bound {s : Int} : ∀ (l : List S40) (i : Nat), find0 l s i = -1 ∨ (i : Int) ≤ find0 l s i ∧ find0 l s i < i + l.length
  | [], _ => .inl rfl
  | c :: l, i => by
    unfold find0
    split
    · simp only [List.length_cons]; omega
    · have := find0_bound (s := s) l (i + 1)
      simp only [List.length_cons]
      omega
theorem findI_bound (l : List S40) (s : Int) : findI l s = -1 ∨ 0 ≤ findI l s ∧ findI l s < l.length := by
  have := find0_bound (s := s) l 0
  unfold findI
  omega
def enc40 (x : S40) : List Value := [.int .u32 x.f0, .int .i64 x.f1, .int .i64 x.f2, .int .i64 x.f3]
theorem flat40 : Flat k40 enc40 := ⟨fun w x => k40_mk w x, fun w x cs h => k40_open h⟩
def qcells (v : Value) (q : QSt) : Array Value := #[.bool true, .bool q.acked, .bool q.conf, v, .int .u32 q.next.f0, .int .i64 q.next.f1, .int .i64 q.next.f2, .int .i64 q.next.f3]
/-- A queue that lies at block g. -/
def queueR (g : Nat) (q : QSt) : Res where
  P := fun w F => ∃ (v : Value) (Fr : Nat → Prop), LR k40 enc40 40 w Fr v q.wait ∧ w.heap[g]? = some (.cells (qcells v q) 57 (0, 0)) ∧ F g ∧ ∀ k, Fr k → F k ∧ k ≠ g
  loc := fun ⟨v, Fr, h1, h2, h3, h4⟩ hm => ⟨v, Fr, h1.step (fun k hk hlt => hm k (h4 k hk).1 hlt), (hm _ h3 (blk_lt h2)).trans h2, h3, h4⟩
/-- What is no queue: nil, or one that New did not make. -/
def NoQueue (v : Value) (w : World) : Prop := v = .pointer none ∨ ∃ g, v = .pointer (some ⟨g, 0, none⟩) ∧ w.heap[g]? = some (.cells #[.bool false, .bool false, .bool false, .slice none 0 0, .int .u32 0, .int .i64 0, .int .i64 0, .int .i64 0] 57 (0, 0))

theorem New_calls (w0 w : World) (L : List Res) (h : SL w0 w L) :
    Calls Try.prog 10 #[] w fun e w' => ∃ g : Nat, e = .returned (.pointer (some ⟨g, 0, none⟩)) ∧ SL w0 w' (L ++ [queueR g q0]) := by
  have H := Aside0.mk h
  clear h
  go_enter Try.func10, Try.ntmps10
  go_wp2
  go_ret
  refine ⟨w.heap.size, rfl, ?_⟩
  refine sl_new H.out (below_alloc (Below.refl _ _) _) (F := fun k => k = w.heap.size) ⟨.slice none 0 0, fun _ => False, LR.nil _ _ _ _ _, ?_, rfl, fun k hk => hk.elim⟩ (fun k hk => by simp [hk])
  exact heap_alloc_new w _
theorem usable_calls (g : Nat) (v : Value) (q : QSt) (w : World) (hb : w.heap[g]? = some (.cells (qcells v q) 57 (0, 0))) :
    Calls Try.prog 24 #[.pointer (some ⟨g, 0, none⟩)] w fun e w' => e = .returned (.bool true) ∧ w = w' := by
  have h0 := (blk_cell hb 0).trans (show _ = some (Value.bool true) from rfl)
  clear hb
  go_enter Try.func24, Try.ntmps24
  go_wp2
  go_ret
  exact ⟨rfl, rfl⟩
theorem no_usable (v : Value) (w : World) (h : NoQueue v w) : Calls Try.prog 24 #[v] w fun e w' => e = .returned (.bool false) ∧ w = w' := by
  rcases h with rfl | ⟨g, rfl, hb⟩
  · go_enter Try.func24, Try.ntmps24
    go_wp2
    go_ret
    exact ⟨rfl, rfl⟩
  · have h0 := (blk_cell hb 0).trans (show _ = some (Value.bool false) from rfl)
    clear hb
    go_enter Try.func24, Try.ntmps24
    go_wp2
    go_ret
    exact ⟨rfl, rfl⟩
end Go.Proofs.Ytockppikcghmoaa.Q
