import Derived.Test.YtockppikcghmoaaP20
import Derived.Test.YtockppikcghmoaaSlr
namespace Go.Proofs.Ytockppikcghmoaa.Q
open Go.RowKit Go.Proofs.YtockppikcghmoaaW.PrintWords Go.Proofs.YtockppikcghmoaaW.PrintLast Go.Proofs.YtockppikcghmoaaW.PrintMore Go.Proofs.Ytockppikcghmoaa.Sl Go.Proofs.Ytockppikcghmoaa.Hand 
attribute [local go_sem] max2_int min2_int max_two min_two max_three min_three max_four min_four 
set_option linter.unusedVariables false
set_option linter.unusedSimpArgs false

structure S32 where
  f0 : Int
  f1 : Int
  f2 : Int
  f3 : Int
  f4 : Int
def z32 : S32 := ⟨0, 0, 0, 0, 0⟩
def k32 : Kd S32 := Kd.iso (Kd.pair (Kd.int .i64) (Kd.pair (Kd.int .u32) (Kd.pair (Kd.int .i64) (Kd.pair (Kd.int .i64) (Kd.int .i64))))) (fun x : S32 => (x.f0, x.f1, x.f2, x.f3, x.f4))
def enc32 (x : S32) : List Value := [.int .i64 x.f0, .int .u32 x.f1, .int .i64 x.f2, .int .i64 x.f3, .int .i64 x.f4]
theorem k32_open {w : World} {x : S32} {cs : List Value} (h : k32.K w x cs) : cs = [.int .i64 x.f0, .int .u32 x.f1, .int .i64 x.f2, .int .i64 x.f3, .int .i64 x.f4] := by
  obtain ⟨_, _, rfl, rfl, ⟨_, _, rfl, rfl, ⟨_, _, rfl, rfl, ⟨_, _, rfl, rfl, rfl⟩⟩⟩⟩ := h
  exact rfl
theorem k32_mk (w : World) (x : S32) : k32.K w x [.int .i64 x.f0, .int .u32 x.f1, .int .i64 x.f2, .int .i64 x.f3, .int .i64 x.f4] := ⟨[.int .i64 x.f0], [.int .u32 x.f1, .int .i64 x.f2, .int .i64 x.f3, .int .i64 x.f4], rfl, rfl, ⟨[.int .u32 x.f1], [.int .i64 x.f2, .int .i64 x.f3, .int .i64 x.f4], rfl, rfl, ⟨[.int .i64 x.f2], [.int .i64 x.f3, .int .i64 x.f4], rfl, rfl, ⟨[.int .i64 x.f3], [.int .i64 x.f4], rfl, rfl, rfl⟩⟩⟩⟩
theorem flat32 : Flat k32 enc32 := ⟨fun w x => k32_mk w x, fun w x cs h => k32_open h⟩
def rd_T32 (xs : List S32) (i : Int) : S32 := xs.getD i.toNat z32
theorem at_T32 {w : World} {A : Option Addr} {n : Nat} {xs : List S32} (h : Kd.C k32 w A n xs) (i : Int) (h0 : 0 ≤ i) (h1 : i < n) : ∃ ad, A = some ad ∧ w.cell? (ad.add (i.toNat * 5)) = some (.int .i64 (rd_T32 xs i).f0) ∧ w.cell? ⟨(ad.add (i.toNat * 5)).block, (ad.add (i.toNat * 5)).off + 1, none⟩ = some (.int .u32 (rd_T32 xs i).f1) ∧ w.cell? ⟨(ad.add (i.toNat * 5)).block, (ad.add (i.toNat * 5)).off + 2, none⟩ = some (.int .i64 (rd_T32 xs i).f2) ∧ w.cell? ⟨(ad.add (i.toNat * 5)).block, (ad.add (i.toNat * 5)).off + 3, none⟩ = some (.int .i64 (rd_T32 xs i).f3) ∧ w.cell? ⟨(ad.add (i.toNat * 5)).block, (ad.add (i.toNat * 5)).off + 4, none⟩ = some (.int .i64 (rd_T32 xs i).f4) := by
  obtain ⟨ad, c, e, _, hK, hc0⟩ := Kd.C_get h z32 i h0 h1
  have hc : ∀ j u, c[j]? = some u → w.cell? (ad.add (i.toNat * 5 + j)) = some u := hc0
  obtain rfl := k32_open hK
  exact ⟨ad, e, hc 0 _ rfl, by rw [← add_field _ _ 1 (by omega)]; exact hc 1 _ rfl, by rw [← add_field _ _ 2 (by omega)]; exact hc 2 _ rfl, by rw [← add_field _ _ 3 (by omega)]; exact hc 3 _ rfl, by rw [← add_field _ _ 4 (by omega)]; exact hc 4 _ rfl⟩

def atN (l : List S40) (g : Nat) (s : Int) : Nat → Int
  | 0 => -1
  | m + 1 => if (rd_T40 l ((g : Int) + (m : Int))).f0 = s then (g : Int) + (m : Int) else atN l g s m
theorem atN_none {l : List S40} {g : Nat} {s : Int} : ∀ m : Nat, (∀ j : Nat, j < m → (rd_T40 l ((g : Int) + (j : Int))).f0 ≠ s) → atN l g s m = -1
  | 0, _ => rfl
  | m + 1, h => by
    unfold atN
    rw [if_neg (h m (by omega))]
    exact atN_none m (fun j hj => h j (by omega))
theorem atN_some {l : List S40} {g n : Nat} {s : Int} (h : (rd_T40 l ((g : Int) + (n : Int))).f0 = s) : ∀ m : Nat, n < m → (∀ j : Nat, n < j → j < m → (rd_T40 l ((g : Int) + (j : Int))).f0 ≠ s) → atN l g s m = (g : Int) + (n : Int)
  | 0, hn, _ => by omega
  | m + 1, hn, hj => by
    unfold atN
    by_cases e : m = n
    · subst e; rw [if_pos h]
    · rw [if_neg (hj m (by omega) (by omega))]
      exact atN_some h m (by omega) (fun j h1 h2 => hj j h1 (by omega))
theorem rd_drop (l : List S40) (g j : Nat) : rd_T40 (l.drop g) (j : Int) = rd_T40 l ((g : Int) + (j : Int)) := by
  unfold rd_T40
  rw [show ((g : Int) + (j : Int)).toNat = g + j by omega, Int.toNat_natCast, List.getD_eq_getElem?_getD, List.getD_eq_getElem?_getD, List.getElem?_drop]
theorem findI_spec (l : List S40) (s : Int) : (findI l s = -1 ∧ ∀ j : Nat, j < l.length → (rd_T40 l (j : Int)).f0 ≠ s) ∨ ∃ n : Nat, findI l s = n ∧ n < l.length ∧ (rd_T40 l (n : Int)).f0 = s := by
  by_cases h : ∀ j : Nat, j < l.length → (rd_T40 l (j : Int)).f0 ≠ s
  · exact .inl ⟨findI_none h, h⟩
  · right
    have hex : ∃ n : Nat, n < l.length ∧ (rd_T40 l (n : Int)).f0 = s := by
      refine Classical.byContradiction fun hn => h fun j hj he => hn ⟨j, hj, he⟩
    have : ∀ m : Nat, (∃ n : Nat, n < m ∧ n < l.length ∧ (rd_T40 l (n : Int)).f0 = s) → ∃ n : Nat, n < l.length ∧ (rd_T40 l (n : Int)).f0 = s ∧ ∀ j : Nat, j < n → (rd_T40 l (j : Int)).f0 ≠ s := by
      intro m
      induction m with
      | zero => rintro ⟨n, h1, _⟩; omega
      | succ m ih =>
        rintro ⟨n, h1, h2, h3⟩
        by_cases hs : ∃ n : Nat, n < m ∧ n < l.length ∧ (rd_T40 l (n : Int)).f0 = s
        · exact ih hs
        · have : n = m := by
            by_cases e : n < m
            · exact absurd ⟨n, e, h2, h3⟩ hs
            · omega
          subst this
          exact ⟨n, h2, h3, fun j hj he => hs ⟨j, hj, by omega, he⟩⟩
    obtain ⟨n, h1, h2⟩ := hex
    obtain ⟨n, h1, h2, h3⟩ := this (n + 1) ⟨n, by omega, h1, h2⟩
    exact ⟨n, findI_at h3 h1 h2, h1, h2⟩
/-- The queue and what ConfigureHandshake keeps of it. -/
structure HInv (q : QSt) (l : List S40) (g : Nat) (ak : Int) : Prop where
  wait : q.wait = l.drop g
  le : g ≤ l.length
  dist : ∀ i j : Nat, g ≤ i → i < j → j < l.length → (rd_T40 l (i : Int)).f0 ≠ (rd_T40 l (j : Int)).f0
  ack : (ak = -1 ∧ q.acked = false) ∨ (0 ≤ ak ∧ ak < l.length ∧ q.acked = true ∧ q.next = rd_T40 l ak)
theorem HInv.len {q : QSt} {l : List S40} {g : Nat} {ak : Int} (h : HInv q l g ak) : (q.wait.length : Int) = (l.length : Int) - (g : Int) := by
  rw [h.wait, List.length_drop]
  have := h.le
  omega
/-- The last place is the first one. -/
theorem HInv.at_ {q : QSt} {l : List S40} {g : Nat} {ak : Int} (h : HInv q l g ak) (s : Int) : (findI q.wait s = -1 ∧ atN l g s (l.length - g) = -1) ∨ ∃ n : Nat, findI q.wait s = n ∧ g + n < l.length ∧ atN l g s (l.length - g) = (g : Int) + (n : Int) := by
  rw [h.wait]
  rcases findI_spec (l.drop g) s with ⟨h1, h2⟩ | ⟨n, h1, h2, h3⟩
  · refine .inl ⟨h1, atN_none _ (fun j hj => ?_)⟩
    have := h2 j (by rw [List.length_drop]; omega)
    rwa [rd_drop] at this
  · rw [List.length_drop] at h2
    rw [rd_drop] at h3
    refine .inr ⟨n, h1, by omega, atN_some h3 _ (by omega) (fun j h4 h5 he => ?_)⟩
    have := h.dist (g + n) (g + j) (by omega) (by omega) (by omega)
    apply this
    rw [show ((g + n : Nat) : Int) = (g : Int) + (n : Int) by omega, show ((g + j : Nat) : Int) = (g : Int) + (j : Int) by omega, h3, he]
theorem rd_app (l : List S40) (x : S40) (i : Int) (h : i < l.length) (h0 : 0 ≤ i) : rd_T40 (l ++ [x]) i = rd_T40 l i := by
  unfold rd_T40
  rw [List.getD_eq_getElem?_getD, List.getD_eq_getElem?_getD, List.getElem?_append_left (by omega)]
theorem HInv.send {q : QSt} {l : List S40} {g : Nat} {ak : Int} (h : HInv q l g ak) {s a b st : Int} (he : sendE q s a b = 0) : HInv (sendS q s a b st) (l ++ [⟨s, a, b, st⟩]) g ak := by
  have hf : findI q.wait s < 0 := by
    unfold sendE at he
    split at he
    · omega
    · omega
  rw [sendS_ok he]
  have hle := h.le
  refine ⟨?_, by simp; omega, fun i j h1 h2 h3 => ?_, ?_⟩
  · show q.wait ++ _ = _
    rw [h.wait, List.drop_append_of_le_length hle]
  · simp only [List.length_append, List.length_singleton] at h3
    rw [rd_app _ _ _ (by omega) (by omega)]
    by_cases hj : j < l.length
    · rw [rd_app _ _ _ (by omega) (by omega)]
      exact h.dist i j h1 h2 hj
    · have : j = l.length := by omega
      subst this
      have e : rd_T40 (l ++ [(⟨s, a, b, st⟩ : S40)]) (l.length : Int) = ⟨s, a, b, st⟩ := by
        unfold rd_T40
        rw [Int.toNat_natCast, List.getD_eq_getElem?_getD, List.getElem?_append_right (Nat.le_refl _)]
        simp
      rw [e]
      rcases findI_spec q.wait s with ⟨_, h5⟩ | ⟨n, h4, _⟩
      · rw [h.wait] at h5
        have := h5 (i - g) (by rw [List.length_drop]; omega)
        rw [rd_drop, show (g : Int) + ((i - g : Nat) : Int) = (i : Int) by omega] at this
        exact this
      · omega
  · rcases h.ack with ⟨h1, h2⟩ | ⟨h1, h2, h3, h4⟩
    · exact .inl ⟨h1, h2⟩
    · exact .inr ⟨h1, by simp; omega, h3, by rw [rd_app _ _ _ h2 h1]; exact h4⟩
theorem HInv.ackd {q : QSt} {l : List S40} {g n : Nat} {ak s : Int} (h : HInv q l g ak) (h1 : findI q.wait s = n) (h2 : g + n < l.length) : HInv (ackS q s) l (g + n + 1) ((g : Int) + (n : Int)) := by
  unfold ackS
  rw [if_neg (by omega), h1, Int.toNat_natCast]
  refine ⟨?_, by omega, fun i j h3 h4 h5 => h.dist i j (by omega) h4 h5, .inr ⟨by omega, by omega, rfl, ?_⟩⟩
  · show q.wait.drop (n + 1) = _
    rw [h.wait, List.drop_drop]
    congr 1
  · show rd_T40 q.wait _ = _
    rw [h.wait, rd_drop]
theorem HInv.app {q : QSt} {l : List S40} {g : Nat} {ak : Int} (h : HInv q l g ak) : HInv (apS q) l g (-1) := by
  unfold apS
  rcases h.ack with ⟨h1, h2⟩ | ⟨h1, h2, h3, h4⟩
  · rw [h2]
    exact ⟨h.wait, h.le, h.dist, .inl ⟨rfl, h2⟩⟩
  · rw [h3]
    exact ⟨h.wait, h.le, h.dist, .inl ⟨rfl, rfl⟩⟩
theorem atN_succ (l : List S40) (g : Nat) (s : Int) (m : Nat) : atN l g s (m + 1) = if (rd_T40 l ((g : Int) + (m : Int))).f0 = s then (g : Int) + (m : Int) else atN l g s m := rfl
theorem sl_two {w0 w : World} {A B : Res} {L : List Res} (h : SL w0 w (A :: B :: L)) : SL w0 w [A, B] := sl_take h 2
end Go.Proofs.Ytockppikcghmoaa.Q
