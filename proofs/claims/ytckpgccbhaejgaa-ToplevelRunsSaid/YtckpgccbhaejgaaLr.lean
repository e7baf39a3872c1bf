import Derived.Test.YtckpgccbhaejgaaSl
import Derived.Test.YtckpgccbhaejgaaHand
namespace Go.Proofs.Ytckpgccbhaejgaa.Sl
open Go.RowKit Go.Proofs.YtckpgccbhaejgaaW.PrintWords Go.Proofs.YtckpgccbhaejgaaW.PrintLast Go.Proofs.YtckpgccbhaejgaaW.PrintMore Go.Proofs.Ytckpgccbhaejgaa.Sl Go.Proofs.Ytckpgccbhaejgaa.Hand 
attribute [local go_sem] max2_int min2_int max_two min_two max_three min_three max_four min_four 
set_option linter.unusedVariables false
set_option linter.unusedSimpArgs false

/-! ### Rows of the call's own that may begin and end anywhere in their block; elements without rows inside -/
/-- An element's cells are the same in every world. -/
structure Flat {α : Type} (d : Kd α) (enc : α → List Value) : Prop where
  mk_ : ∀ w x, d.K w x (enc x)
  eq_ : ∀ w x cs, d.K w x cs → cs = enc x
namespace Flat
variable {α : Type} {d : Kd α} {enc : α → List Value}
theorem len (f : Flat d enc) (x : α) : (enc x).length = d.sz := d.K_len (f.mk_ (default : World) x)
theorem one (f : Flat d enc) (x : α) : ∀ u ∈ enc x, u.oneCell' = true := d.K_one (f.mk_ (default : World) x)
theorem flat_len (f : Flat d enc) : ∀ xs : List α, (xs.flatMap enc).length = xs.length * d.sz
  | [] => by simp
  | x :: xs => by rw [List.flatMap_cons, List.length_append, f.len, flat_len f xs, List.length_cons, Nat.add_mul]; omega
theorem flat_one (f : Flat d enc) (xs : List α) : ∀ u ∈ xs.flatMap enc, u.oneCell' = true := fun u hu => by
  obtain ⟨x, _, h⟩ := List.mem_flatMap.1 hu
  exact f.one x u h
theorem flat_drop (f : Flat d enc) : ∀ (xs : List α) (k : Nat), (xs.flatMap enc).drop (k * d.sz) = (xs.drop k).flatMap enc
  | _, 0 => by simp
  | [], k + 1 => by simp
  | x :: xs, k + 1 => by
    rw [List.flatMap_cons, List.drop_succ_cons, ← flat_drop f xs k, List.drop_append, List.drop_eq_nil_of_le (by rw [f.len, Nat.add_mul]; omega), List.nil_append, f.len]
    congr 1
    rw [Nat.add_mul]; omega
theorem flat_take (f : Flat d enc) : ∀ (xs : List α) (k : Nat), (xs.flatMap enc).take (k * d.sz) = (xs.take k).flatMap enc
  | _, 0 => by simp
  | [], k + 1 => by simp
  | x :: xs, k + 1 => by
    rw [List.flatMap_cons, List.take_succ_cons, List.flatMap_cons, ← flat_take f xs k, List.take_append, List.take_of_length_le (by rw [f.len, Nat.add_mul]; omega), f.len]
    congr 2
    rw [Nat.add_mul]; omega
theorem flat_at (f : Flat d enc) {xs : List α} {j : Nat} {p : α} (h : xs[j]? = some p) : ((xs.flatMap enc).drop (j * d.sz)).take d.sz = enc p := by
  rw [f.flat_drop]
  obtain ⟨hl, he⟩ := List.getElem?_eq_some_iff.1 h
  rw [List.drop_eq_getElem_cons hl, List.flatMap_cons, List.take_append, he, List.take_of_length_le (by rw [f.len]; omega), f.len]
  simp
/-- What is read, cell by cell. -/
theorem cells (f : Flat d enc) {w : World} {A : Option Addr} {n : Nat} {xs : List α} (h : d.C w A n xs) (hn : 0 < n) : ∃ ad, A = some ad ∧ ∀ j u, (xs.flatMap enc)[j]? = some u → w.cell? (ad.add j) = some u := by
  obtain ⟨ad, e, hc⟩ := h.2.2 hn
  refine ⟨ad, e, fun j u hu => ?_⟩
  have hj : j < xs.length * d.sz := by
    have := (List.getElem?_eq_some_iff.1 hu).1
    rwa [f.flat_len] at this
  have hz : 0 < d.sz := by
    rcases Nat.eq_zero_or_pos d.sz with h0 | h0
    · rw [h0] at hj; omega
    · exact h0
  have hq : j / d.sz < xs.length := Nat.div_lt_of_lt_mul (by rwa [Nat.mul_comm])
  obtain ⟨c, hcl, hk, hcc⟩ := hc (j / d.sz) _ (List.getElem?_eq_getElem hq)
  rw [f.eq_ _ _ _ hk] at hcc
  have ha := f.flat_at (List.getElem?_eq_getElem hq)
  have hm : j / d.sz * d.sz + j % d.sz = j := by rw [Nat.mul_comm]; exact Nat.div_add_mod j d.sz
  have := hcc (j % d.sz) u (by
    rw [← ha, List.getElem?_take, if_pos (Nat.mod_lt _ hz), List.getElem?_drop, hm]
    exact hu)
  rwa [hm] at this
end Flat
/-- A row of n elements (type e, size cells each). -/
def LRow (w : World) (e : TypeId) (size : Nat) (v : Value) (n : Nat) (xs : List Value) : Prop :=
  xs.length = n * size ∧ ((n = 0 ∧ v = .slice none 0 0) ∨
    ∃ g off cap cur, v = .slice (some ⟨g, off * size, none⟩) n cap ∧ w.heap[g]? = some (.cells cur e (0, 0)) ∧ n ≤ cap ∧ off + cap ≤ maxLen ∧ (off + cap) * size ≤ cur.size ∧ (cur.toList.drop (off * size)).take (n * size) = xs)
section
variable {w w1 : World} {n size : Nat} {e : TypeId} {v : Value} {xs : List Value}
theorem l_of_own {base : Nat} (h : w.ownsRow base e size v n xs) : LRow w e size v n xs := by
  obtain ⟨h1, h2⟩ := h
  refine ⟨h1, ?_⟩
  rcases h2 with ⟨rfl, h0⟩ | ⟨g, cap, cur, rfl, hb, hh, hnc, hcm, hcs, ht⟩
  · exact .inl ⟨h0, rfl⟩
  · exact .inr ⟨g, 0, cap, cur, by rw [Nat.zero_mul], hh, hnc, by rw [Nat.zero_add]; exact hcm, by rw [Nat.zero_add, hcs]; exact Nat.le_refl _, by rw [Nat.zero_mul, List.drop_zero]; exact ht⟩
theorem l_move (h : LRow w e size v n xs) (hm : ∀ k, v.ownBlock = some k → k < w.heap.size → w1.heap[k]? = w.heap[k]?) : LRow w1 e size v n xs := by
  obtain ⟨h1, h2⟩ := h
  refine ⟨h1, ?_⟩
  rcases h2 with h2 | ⟨g, off, cap, cur, rfl, hh, r⟩
  · exact .inl h2
  · exact .inr ⟨g, off, cap, cur, rfl, (hm g (by simp [Value.ownBlock]) (blk_lt hh)).trans hh, r⟩
theorem l_typed (h : LRow w e size v n xs) (k : Nat) (hk : v.ownBlock = some k) : ∃ cells, w.heap[k]? = some (.cells cells e (0, 0)) := by
  rcases h.2 with ⟨_, rfl⟩ | ⟨g, off, cap, cur, rfl, hh, r⟩
  · simp [Value.ownBlock] at hk
  · have : g = k := by simpa [Value.ownBlock] using hk
    subst this
    exact ⟨cur, hh⟩
theorem l_slice (h : LRow w e size v n xs) : ∃ A c, v = .slice A n c ∧ n ≤ c := by
  rcases h.2 with ⟨h0, rfl⟩ | ⟨g, off, cap, cur, rfl, hh, hnc, r⟩
  · exact ⟨none, 0, by rw [h0], by omega⟩
  · exact ⟨_, cap, rfl, hnc⟩
theorem l_max (h : LRow w e size v n xs) : n ≤ 9223372036854775807 := by
  rcases h.2 with ⟨h0, _⟩ | ⟨g, off, cap, cur, rfl, hh, hnc, hm, r⟩
  · omega
  · simp only [maxLen] at hm
    omega
theorem l_cells {A : Option Addr} {c : Nat} (h : LRow w e size (.slice A n c) n xs) (hn : 0 < n) : ∃ ad, A = some ad ∧ ∀ j u, xs[j]? = some u → w.cell? (ad.add j) = some u := by
  rcases h.2 with ⟨h0, _⟩ | ⟨g, off, cap, cur, he, hh, hnc, hm, hcs, ht⟩
  · omega
  · injection he with ha _ hc
    subst ha
    refine ⟨_, rfl, fun j u hu => ?_⟩
    rw [add_at, cell_of_row w g _ cur e (0, 0) hh]
    rw [← ht, List.getElem?_take] at hu
    split at hu
    · rw [List.getElem?_drop] at hu
      rw [← Array.getElem?_toList]
      exact hu
    · cases hu
/-- 'v[l:h:m]'. -/
theorem l_cut {A : Option Addr} {c l h m : Nat} (hr : LRow w e size (.slice A n c) n xs) (h1 : l ≤ h) (h2 : h ≤ n) (h3 : h ≤ m) (h4 : m ≤ c) :
    LRow w e size (.slice (if m = l then A else A.map (·.add (l * size))) (h - l) (m - l)) (h - l) ((xs.drop (l * size)).take ((h - l) * size)) := by
  obtain ⟨hl, hb⟩ := hr
  have hle : l * size + (h - l) * size ≤ n * size := by rw [← Nat.add_mul]; exact Nat.mul_le_mul_right _ (by omega)
  refine ⟨by rw [List.length_take, List.length_drop, hl]; omega, ?_⟩
  rcases hb with ⟨h0, he⟩ | ⟨g, off, cap, cur, he, hh, hnc, hcm, hcs, ht⟩
  · injection he with ha hb hc
    subst ha; subst hc
    refine .inl ⟨by omega, ?_⟩
    rw [show m = 0 by omega, show l = 0 by omega, show h = 0 by omega]
    simp
  · injection he with ha hb hc
    subst ha; subst hc
    by_cases hml : m = l
    · rw [if_pos hml]
      refine .inr ⟨g, off, 0, cur, by rw [show m - l = 0 by omega], hh, by omega, by omega, Nat.le_trans (Nat.mul_le_mul_right _ (by omega)) hcs, ?_⟩
      rw [show h - l = 0 by omega]
      simp
    · rw [if_neg hml]
      refine .inr ⟨g, off + l, m - l, cur, by rw [Option.map_some, add_at, Nat.add_mul], hh, by omega, by omega, Nat.le_trans (Nat.mul_le_mul_right _ (by omega)) hcs, ?_⟩
      rw [← ht, List.drop_take, List.drop_drop, Nat.add_mul, List.take_take, Nat.min_eq_left (by rw [← Nat.sub_mul]; exact Nat.mul_le_mul_right _ (by omega))]
variable {P : Program}
theorem l_append (w : World) (t ty e : TypeId) (i : TypeInfo) (z : Value) (size bytes : Nat) (ht : P.underlying t = some (.slice e)) (hi : P.info? e = some i) (hz : i.zero = some z)
    (hsize : i.size = size) (hby : i.bytes = bytes) (hzs : z.cells.size = size) (hsz : 0 < size)
    (v : Value) (n : Nat) (xs : List Value) (hown : LRow w e size v n xs)
    (a : Addr) (m c : Nat) (news : List Value) (hl : news.length = m * size) (hnews : ∀ j u, news[j]? = some u → w.cell? (a.add j) = some u) (h1 : ∀ u ∈ news, u.oneCell' = true)
    (h63 : n + m ≤ maxLen) (hbytes : (n + m) * bytes ≤ 140737488355328) :
    ∃ v' w', (Builtin.append_ #[t, t] ty #[v, .slice (some a) m c]).run P w = .ok v' w' ∧ LRow w' e size v' (n + m) (xs ++ news) ∧ w.grownBy w' v.ownBlock ∧ (v'.ownBlock = v.ownBlock ∨ ∃ b, v'.ownBlock = some b ∧ w.heap.size ≤ b) := by
  rcases hown.2 with ⟨h0, hv⟩ | ⟨g, off, cap, cur, hv, hg, hnc, hcm, hcs, htake⟩
  · subst h0
    have ho : w.ownsRow 0 e size v 0 xs := ⟨hown.1, .inl ⟨hv, rfl⟩⟩
    obtain ⟨v', w', hr, ho', hg, _, hat⟩ := run_append_own_at (P := P) w 0 t ty e i z size bytes ht hi hz hsize hby hzs hsz v 0 xs ho a m c news hl hnews h1 h63 hbytes (Nat.zero_le _)
    refine ⟨v', w', hr, l_of_own ho', hg, ?_⟩
    rcases hat with hat | hat
    · exact .inl hat
    · exact .inr ⟨_, hat, Nat.le_refl _⟩
  · by_cases hroom : n + m ≤ cap
    · have hfit : off * size + n * size + news.length ≤ cur.size := by
        refine Nat.le_trans ?_ hcs
        rw [hl, ← Nat.add_mul, ← Nat.add_mul]
        exact Nat.mul_le_mul_right _ (by omega)
      subst hsize
      have hr := run_append_room_cells (P := P) (w := w) t ty e i ht hi g (off * i.size) n cap a m c news hl hnews h1 hroom
        (fun j hj => by rw [cell_of_row w g _ cur e (0, 0) hg]; simp; omega) (fun j _ => blk_frozen hg _)
      obtain ⟨cur', h3, h4, h5⟩ := setCells_row news (off * i.size + n * i.size) w cur hg hfit
      obtain ⟨s1, s2, s3, s4⟩ := setCells_same g news (off * i.size + n * i.size) w
      refine ⟨_, _, by rw [hv]; exact hr, ⟨by rw [List.length_append, hown.1, hl, Nat.add_mul], .inr ⟨g, off, cap, cur', rfl, h3, hroom, hcm, by rw [h4]; exact hcs, ?_⟩⟩,
        ⟨s1, s2, s3, by rw [s4]; exact Nat.le_refl _, fun k _ hk => setCells_far news _ k (fun he => hk (by rw [hv, he]; simp [Value.ownBlock]))⟩, .inl (by rw [hv]; rfl)⟩
      rw [h5, List.append_assoc, List.drop_append_of_le_length (by rw [List.length_take, Array.length_toList]; omega), List.drop_take]
      rw [show off * i.size + n * i.size - off * i.size = n * i.size by omega, htake, ← List.append_assoc]
      exact List.take_left' (by rw [List.length_append, hown.1, hl, Nat.add_mul])
    · obtain ⟨v', w', hr, ho, hgw⟩ := run_append_arg_grows (P := P) (w := w) t ty e i z size bytes ht hi hz hsize hby hzs hsz ⟨g, off * size, none⟩ n cap xs hown.1 (fun j u hu => by
        rw [add_at, cell_of_row w g _ cur e (0, 0) hg]
        rw [← htake, List.getElem?_take] at hu
        split at hu
        · rw [List.getElem?_drop] at hu
          rw [← Array.getElem?_toList]
          exact hu
        · cases hu) a m c news hl hnews (by omega) h63 hbytes
      refine ⟨v', w', by rw [hv]; exact hr, l_of_own ho, ⟨hgw.os, hgw.tape, hgw.output, hgw.size, fun k hk _ => hgw.block k hk (by simp)⟩, ?_⟩
      obtain ⟨g', cap', he, hb, _⟩ := ho.form (by omega)
      exact .inr ⟨g', by rw [he]; simp [Value.ownBlock], hb⟩
theorem l_append_nil (w : World) (t ty e : TypeId) (i : TypeInfo) (size : Nat) (ht : P.underlying t = some (.slice e)) (hi : P.info? e = some i)
    (v : Value) (n : Nat) (xs : List Value) (hown : LRow w e size v n xs) (c : Nat) : (Builtin.append_ #[t, t] ty #[v, .slice none 0 c]).run P w = .ok v w := by
  rcases hown.2 with ⟨rfl, rfl⟩ | ⟨g, off, cap, cur, rfl, _, hnc, _⟩
  · simp [Builtin.append_, run_underlying ht, sizeOf, typeInfo, hi, Builtin.lenOf, Builtin.firstCells]
  · simp [Builtin.append_, run_underlying ht, sizeOf, typeInfo, hi, Builtin.lenOf, Builtin.firstCells, hnc, storeCells]
end
/-- The row of xs, its block one of F. -/
def LR {α : Type} (d : Kd α) (enc : α → List Value) (e : TypeId) (w : World) (F : Nat → Prop) (v : Value) (xs : List α) : Prop :=
  (∀ k, v.ownBlock = some k → F k) ∧ LRow w e d.sz v xs.length (xs.flatMap enc)
namespace LR
variable {α : Type} {d : Kd α} {enc : α → List Value} {e : TypeId} {w w1 : World} {F F' : Nat → Prop} {v : Value} {xs ys : List α}
theorem nil (d : Kd α) (enc : α → List Value) (e : TypeId) (w : World) (F : Nat → Prop) : LR d enc e w F (.slice none 0 0) [] := ⟨fun k hk => by simp [Value.ownBlock] at hk, by simp, .inl ⟨rfl, rfl⟩⟩
theorem step (h : LR d enc e w F v xs) (hm : ∀ k, F k → k < w.heap.size → w1.heap[k]? = w.heap[k]?) : LR d enc e w1 F v xs := ⟨h.1, l_move h.2 (fun k hk hlt => hm k (h.1 k hk) hlt)⟩
theorem below (h : LR d enc e w F v xs) (hb : Below w.heap.size w w1) : LR d enc e w1 F v xs := h.step fun k _ hlt => hb.block k hlt
theorem mono (h : LR d enc e w F v xs) (hF : ∀ k, F k → F' k) : LR d enc e w F' v xs := ⟨fun k hk => hF k (h.1 k hk), h.2⟩
theorem bound (h : LR d enc e w F v xs) : LR d enc e w (fun k => F k ∧ k < w.heap.size ∧ ∃ cells, w.heap[k]? = some (.cells cells e (0, 0))) v xs :=
  ⟨fun k hk => ⟨h.1 k hk, by obtain ⟨c, hc⟩ := l_typed h.2 k hk; exact blk_lt hc, l_typed h.2 k hk⟩, h.2⟩
theorem slice (h : LR d enc e w F v xs) : ∃ A c, v = .slice A xs.length c ∧ xs.length ≤ c := l_slice h.2
theorem max (h : LR d enc e w F v xs) : xs.length ≤ 9223372036854775807 := l_max h.2
theorem far (h : LR d enc e w F v xs) {p : Addr} (hp : ¬ F p.block) (u : Value) : LR d enc e (w.setCell p u) F v xs := h.step fun k hk _ => Below.heap_setCell w p u k (fun he => hp (he ▸ hk))
theorem reads' (f : Flat d enc) {A : Option Addr} {n c : Nat} (h : LR d enc e w F (.slice A n c) xs) : n = xs.length ∧ n ≤ c ∧ d.C w A xs.length xs := by
  obtain ⟨A', c', he, hl⟩ := l_slice h.2
  injection he with h1 h2 h3
  subst h1; subst h2; subst h3
  refine ⟨rfl, hl, rfl, l_max h.2, fun hp => ?_⟩
  obtain ⟨ad, ha, hc⟩ := l_cells h.2 hp
  refine ⟨ad, ha, fun j p hj => ⟨enc p, f.len p, f.mk_ w p, fun i u hu => hc _ u ?_⟩⟩
  have hi : i < d.sz := by rw [← f.len p]; exact (List.getElem?_eq_some_iff.1 hu).1
  rw [← f.flat_at hj, List.getElem?_take, if_pos hi, List.getElem?_drop] at hu
  exact hu
theorem reads (f : Flat d enc) (h : LR d enc e w F v xs) : ∃ A c, v = .slice A xs.length c ∧ xs.length ≤ c ∧ d.C w A xs.length xs := by
  obtain ⟨A, c, rfl, _⟩ := h.slice
  obtain ⟨_, h1, h2⟩ := reads' f h
  exact ⟨A, c, rfl, h1, h2⟩
/-- 'v[l:h:m]'. -/
theorem cut (f : Flat d enc) {A : Option Addr} {n c l h m : Nat} (hr : LR d enc e w F (.slice A n c) xs) (h1 : l ≤ h) (h2 : h ≤ xs.length) (h3 : h ≤ m) (h4 : m ≤ c) :
    LR d enc e w F (.slice (if m = l then A else A.map (·.add (l * d.sz))) (h - l) (m - l)) ((xs.drop l).take (h - l)) := by
  obtain ⟨A', c', he, hl⟩ := l_slice hr.2
  injection he with e1 e2 e3
  subst e2
  have hc := l_cut hr.2 h1 h2 h3 h4
  have hlen : ((xs.drop l).take (h - l)).length = h - l := by rw [List.length_take, List.length_drop]; omega
  refine ⟨fun k hk => hr.1 k ?_, ?_⟩
  · cases A with
    | none => split at hk <;> simp [Value.ownBlock] at hk
    | some a =>
      split at hk
      · exact hk
      · have hb : (Addr.add a (l * d.sz)).block = a.block := add_block a _
        simp only [Value.ownBlock, Option.map_some] at hk ⊢
        rw [← hk, hb]
  · rw [hlen, ← f.flat_take, ← f.flat_drop]
    exact hc
section
variable {P : Program}
/-- append(v, y...), y a slice that is read. -/
theorem run (f : Flat d enc) (t ty : TypeId) (z : Value) (bytes : Nat) (ht : P.underlying t = some (.slice e)) (hinfo : (P.info? e).map (fun i => (i.zero, i.size, i.bytes)) = some (some z, d.sz, bytes)) (hz : z.cells.size = d.sz) (hs0 : 0 < d.sz) (hb0 : 0 < bytes)
    (h : LR d enc e w F v xs) {A : Option Addr} {m c : Nat} (hy : d.C w A m ys) (hl : (xs.length + m) * bytes ≤ 140737488355328) :
    ∃ v1 w1, (Builtin.append_ #[t, t] ty #[v, .slice A m c]).run P w = .ok v1 w1 ∧ LR d enc e w1 (fun k => F k ∨ w.heap.size ≤ k) v1 (xs ++ ys) ∧ w.grownBy w1 v.ownBlock := by
  obtain ⟨i0, hi, hzz⟩ := Option.map_eq_some_iff.1 hinfo
  simp only [Prod.mk.injEq] at hzz
  obtain ⟨hz0, hz1, hz2⟩ := hzz
  have hm : ys.length = m := hy.1
  have hlen : xs.length + m ≤ 140737488355328 := Nat.le_trans (Nat.le_mul_of_pos_right _ hb0) hl
  have key : ∀ (ad : Addr), A = some ad → (∀ j u, (ys.flatMap enc)[j]? = some u → w.cell? (ad.add j) = some u) → ∃ v1 w1, (Builtin.append_ #[t, t] ty #[v, .slice A m c]).run P w = .ok v1 w1 ∧ LR d enc e w1 (fun k => F k ∨ w.heap.size ≤ k) v1 (xs ++ ys) ∧ w.grownBy w1 v.ownBlock := by
    rintro ad rfl hc
    obtain ⟨v1, w1, hr, h2, h3, h4⟩ := l_append (P := P) w t ty e i0 z d.sz bytes ht hi hz0 hz1 hz2 hz hs0 v xs.length _ h.2 ad m c (ys.flatMap enc) (by rw [f.flat_len, hm]) hc (f.flat_one ys) (by simp only [maxLen]; omega) hl
    refine ⟨v1, w1, hr, ⟨fun k hk => ?_, ?_⟩, h3⟩
    · rcases h4 with h4 | ⟨b, h4, hb⟩
      · exact .inl (h.1 k (by rw [← h4]; exact hk))
      · rw [h4] at hk
        injection hk with hk
        exact .inr (hk ▸ hb)
    · rw [List.length_append, hm, List.flatMap_append]
      exact h2
  rcases Nat.eq_zero_or_pos m with h0 | h0
  · subst h0
    obtain rfl : ys = [] := List.eq_nil_of_length_eq_zero hm
    cases A with
    | none =>
      refine ⟨v, w, l_append_nil w t ty e i0 d.sz ht hi v xs.length _ h.2 c, ?_, World.grownBy.refl w _⟩
      rw [List.append_nil]
      exact h.mono fun k hk => .inl hk
    | some ad => exact key ad rfl (fun j u hu => by simp at hu)
  · obtain ⟨ad, rfl, hc⟩ := f.cells hy h0
    exact key ad rfl hc
variable {ops : Array Oper} {rest : List Oper} {o : Oper} {a : Act} {Q : Exit → Act → World → Prop}
end
end LR
end Go.Proofs.Ytckpgccbhaejgaa.Sl
