import Derived.Test.YtockppikcghmoaaQu5
namespace Go.Proofs.Ytockppikcghmoaa.Q
open Go.RowKit Go.Proofs.YtockppikcghmoaaW.PrintWords Go.Proofs.YtockppikcghmoaaW.PrintLast Go.Proofs.YtockppikcghmoaaW.PrintMore Go.Proofs.Ytockppikcghmoaa.Sl Go.Proofs.Ytockppikcghmoaa.Hand 
attribute [local go_sem] max2_int min2_int max_two min_two max_three min_three max_four min_four 
set_option linter.unusedVariables false
set_option linter.unusedSimpArgs false

theorem findI_one (c : S40) (s : Int) : findI [c] s = if c.f0 = s then 0 else -1 := by
  unfold findI find0
  split
  · rfl
  · rfl
theorem sendE_fits {q : QSt} {s a b : Int} (h1 : findI q.wait s < 0) (h2 : q.wait.length < 64) (h3 : 0 ≤ a ∧ a ≤ 16384 ∧ 0 ≤ b ∧ b ≤ 16384) : sendE q s a b = 0 := by
  unfold sendE
  rw [if_neg (by omega), if_neg (by omega), if_neg (by omega)]
theorem sendE_range {q : QSt} {s a b : Int} (h1 : findI q.wait s < 0) (h3 : ¬ (0 ≤ a ∧ a ≤ 16384 ∧ 0 ≤ b ∧ b ≤ 16384)) : sendE q s a b = 6 := by
  unfold sendE
  rw [if_neg (by omega), if_pos (by omega)]
theorem sendE_dup {q : QSt} {s a b : Int} (h1 : 0 ≤ findI q.wait s) : sendE q s a b = 7 := by
  unfold sendE
  rw [if_pos h1]
theorem sendS_ok {q : QSt} {s a b st : Int} (h : sendE q s a b = 0) : sendS q s a b st = { q with wait := q.wait ++ [⟨s, a, b, st⟩] } := by
  unfold sendS
  rw [if_pos h]
theorem sendS_no {q : QSt} {s a b st : Int} (h : sendE q s a b ≠ 0) : sendS q s a b st = q := by
  unfold sendS
  rw [if_neg h]
def wc (f : Int) (j : Nat) : S40 := ⟨(f + (j : Int)) % 4294967296, j, j, j⟩
/-- The first n configurations of ConfigureLimit. -/
def wl (f : Int) (n : Nat) : List S40 := (List.range n).map (wc f)
theorem wl_len (f : Int) (n : Nat) : (wl f n).length = n := by simp [wl]
theorem wl_succ (f : Int) (n : Nat) : wl f (n + 1) = wl f n ++ [wc f n] := by simp [wl, List.range_succ]
theorem wl_at (f : Int) (n j : Nat) (h : j < n) : rd_T40 (wl f n) (j : Int) = wc f j := by
  unfold rd_T40 wl
  rw [Int.toNat_natCast, List.getD_eq_getElem?_getD, List.getElem?_map, List.getElem?_range h]
  rfl
theorem wl_find (f : Int) (n m : Nat) (hn : n ≤ m) (hm : m ≤ 64) : findI (wl f n) ((f + (m : Int)) % 4294967296) = -1 := by
  refine findI_none (fun j hj => ?_)
  rw [wl_len] at hj
  rw [wl_at f n j hj]
  show (f + (j : Int)) % 4294967296 ≠ _
  omega
theorem wl_find_at (f : Int) (n m : Nat) (hn : m < n) (hm : n ≤ 64) : findI (wl f n) ((f + (m : Int)) % 4294967296) = m := by
  refine findI_at (fun j hj => ?_) (by rw [wl_len]; exact hn) (by rw [wl_at f n m hn]; rfl)
  rw [wl_at f n j (by omega)]
  show (f + (j : Int)) % 4294967296 ≠ _
  omega
theorem wl_drop (f : Int) (n m k : Nat) (hn : n ≤ m) (hm : m ≤ 64) : findI ((wl f n).drop k) ((f + (m : Int)) % 4294967296) = -1 := by
  unfold findI
  refine find0_none 0 (fun c hc => ?_)
  have hc2 := List.mem_of_mem_drop hc
  obtain ⟨j, hj⟩ := List.getElem?_of_mem hc2
  have hl := (List.getElem?_eq_some_iff.1 hj).1
  rw [wl_len] at hl
  have := wl_at f n j hl
  unfold rd_T40 at this
  rw [Int.toNat_natCast, List.getD_eq_getElem?_getD, hj] at this
  have hcc : c = wc f j := this
  rw [hcc]
  show (f + (j : Int)) % 4294967296 ≠ _
  omega
end Go.Proofs.Ytockppikcghmoaa.Q
