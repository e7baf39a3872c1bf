import Derived.WalkSpells
import Derived.Test.YtmihibikhmldgaaW1
namespace Go.Proofs.Ytmihibikhmldgaa.Q
open Go.RowKit Go.Proofs.YtmihibikhmldgaaW.PrintWords Go.Proofs.YtmihibikhmldgaaW.PrintLast Go.Proofs.YtmihibikhmldgaaW.PrintMore Go.Proofs.Ytmihibikhmldgaa.Sl Go.Proofs.Ytmihibikhmldgaa.Hand 
attribute [local go_sem] max2_int min2_int max_two min_two max_three min_three max_four min_four 
set_option linter.unusedVariables false
set_option linter.unusedSimpArgs false

structure RSt where
  u : List Int
  er : Int
abbrev rdS (g : Nat) (s : RSt) : Res := rdR g s.u s.er
def word4 (a0 a1 a2 a3 : Int) : Int :=
  Go.bits .or .u32 (Go.bits .or .u32 (Go.bits .or .u32 (a0 % 4294967296) (a1 % 4294967296 * 256 % 4294967296)) (a2 % 4294967296 * 65536 % 4294967296)) (a3 % 4294967296 * 16777216 % 4294967296)
/-- What Uint answers, and what it leaves. -/
def uintV (s : RSt) : Int := if s.er = 0 ∧ 4 ≤ s.u.length then word4 (rd s.u 0) (rd s.u 1) (rd s.u 2) (rd s.u 3) else 0
def uintS (s : RSt) : RSt := if s.er = 0 then (if 4 ≤ s.u.length then ⟨s.u.drop 4, 0⟩ else ⟨[], 4⟩) else s
theorem rd_take {u : List Int} {k : Nat} {j : Int} (h0 : 0 ≤ j) (h : j < k) : rd (u.take k) j = rd u j := by
  unfold rd
  rw [List.getD_eq_getElem?_getD, List.getD_eq_getElem?_getD, List.getElem?_take, if_pos (by omega)]
set_option maxHeartbeats 2000000 in
set_option maxRecDepth 100000 in
theorem Uint_in {w0 w : World} {R : Res} (g : Nat) (s : RSt) (hs : SL w0 w [rdS g s, R]) : Calls Try.prog 20 #[.pointer (some ⟨g, 0, none⟩)] w fun e w' => e = .returned (.int .u32 (uintV s)) ∧ SL w0 w' [rdS g (uintS s), R] := by
  obtain ⟨u, er⟩ := s
  have hnil := fun (w : World) (a : Option Addr) (n c : Nat) => Lib.run_eql_slice_nil (P := Try.prog) w 22 5 a n c 0 0 Try.underlying22
  have HS := Aside0.mk hs
  obtain ⟨A, c, hc, hC, hs1⟩ := rd_open hs 0 rfl
  have HBk := Aside0.mk (sl_blk hs1 0 rfl)
  clear hs hs1 hC hc
  by_cases h0 : er = 0
  rotate_left
  · have bz : (er == 0) = false := beq_eq_false_iff_ne.2 h0
    have E := Aside0.mk (show uintV ⟨u, er⟩ = 0 ∧ uintS ⟨u, er⟩ = ⟨u, er⟩ from ⟨if_neg (fun h => h0 h.1), if_neg h0⟩)
    clear h0
    go_enter Try.func20, Try.ntmps20
    go_wp2_with (first
      | (go_at_call 44; refine (usable_c g _ er _ HBk.out).mono ?_; rintro e w1 ⟨rfl, ⟨nd, rfl⟩⟩; replace HS := Aside0.mk (sl_drewN HS.out nd)))
    try rw [Exit.noGoto_ret]
    go_ret
    exact ⟨by rw [E.out.1]; rfl, by rw [E.out.2]; exact HS.out⟩
  subst h0
  by_cases h4 : 4 ≤ u.length
  · have E := Aside0.mk (show uintV ⟨u, 0⟩ = word4 (rd u 0) (rd u 1) (rd u 2) (rd u 3) ∧ uintS ⟨u, 0⟩ = ⟨u.drop 4, 0⟩ from ⟨if_pos ⟨rfl, h4⟩, (if_pos rfl).trans (if_pos h4)⟩)
    have H4 := Aside0.mk h4
    clear h4
    go_enter Try.func20, Try.ntmps20
    go_upto_region 6 with (first
      | (go_at_call 44; refine (usable_c g _ 0 _ HBk.out).mono ?_; rintro e w1 ⟨rfl, ⟨nd, rfl⟩⟩; replace HS := Aside0.mk (sl_drewN HS.out nd))
      | (go_at_call 45; refine (take_in g u 0 4 (by repeat (with_reducible first | exact HS.out | apply sl_drewN | apply sl_drew | apply sl_alloc)) H4.out (by omega)).mono ?_; rintro e w2 ⟨ad, rfl, hs, hC4⟩; obtain ⟨_, e_, hx0⟩ := Kd.at_int hC4 0 (by omega) (by omega); cases e_; obtain ⟨_, e_, hx1⟩ := Kd.at_int hC4 1 (by omega) (by omega); cases e_; obtain ⟨_, e_, hx2⟩ := Kd.at_int hC4 2 (by omega) (by omega); cases e_; obtain ⟨_, e_, hx3⟩ := Kd.at_int hC4 3 (by omega) (by omega); cases e_; rw [rd_take (by omega) (by omega)] at hx0 hx1 hx2 hx3; simp only [Int.reduceToNat] at hx0 hx1 hx2 hx3; have hxz : w2.cell? ad = some (.int .u8 (rd u 0)) := (by rw [show ad.add 0 = ad by simp [Addr.add]] at hx0; exact hx0); have hy1 : w2.cell? ⟨ad.block, ad.off + 1, none⟩ = some (.int .u8 (rd u 1)) := hx1; have hy2 : w2.cell? ⟨ad.block, ad.off + 2, none⟩ = some (.int .u8 (rd u 2)) := hx2; have hy3 : w2.cell? ⟨ad.block, ad.off + 3, none⟩ = some (.int .u8 (rd u 3)) := hx3; clear hx0 hx1 hx2 hx3 hC4; (try simp only [World.size_alloc] at hs); replace HS := Aside0.mk hs; clear hs))
    go_quiet (fail)
    go_wp2
    go_ret
    exact ⟨by rw [E.out.1]; rfl, by rw [E.out.2]; exact (by repeat (with_reducible first | exact HS.out | apply sl_drewN | apply sl_drew | apply sl_alloc))⟩
  · have E := Aside0.mk (show uintV ⟨u, 0⟩ = 0 ∧ uintS ⟨u, 0⟩ = ⟨[], 4⟩ from ⟨if_neg (fun h => h4 h.2), (if_pos rfl).trans (if_neg h4)⟩)
    have H4 := Aside0.mk h4
    clear h4
    go_enter Try.func20, Try.ntmps20
    go_wp2_with (first
      | (go_at_call 44; refine (usable_c g _ 0 _ HBk.out).mono ?_; rintro e w1 ⟨rfl, ⟨nd, rfl⟩⟩; replace HS := Aside0.mk (sl_drewN HS.out nd))
      | (go_at_call 45; refine (take_no g u 0 4 (by repeat (with_reducible first | exact HS.out | apply sl_drewN | apply sl_drew | apply sl_alloc)) (by have := H4.out; omega)).mono ?_; rintro e w2 ⟨rfl, hs⟩; (try simp only [World.size_alloc] at hs); replace HS := Aside0.mk hs; clear hs))
    try rw [Exit.noGoto_ret]
    go_ret
    exact ⟨by rw [E.out.1]; rfl, by rw [E.out.2]; exact (by repeat (with_reducible first | exact HS.out | apply sl_drewN | apply sl_drew | apply sl_alloc))⟩
theorem Uint_sl {w0 w : World} {L : List Res} (h : SL w0 w L) (i : Nat) {g : Nat} {s : RSt} (hi : L[i]? = some (rdS g s)) : Calls Try.prog 20 #[.pointer (some ⟨g, 0, none⟩)] w fun e w' => e = .returned (.int .u32 (uintV s)) ∧ SL w0 w' (L.set i (rdS g (uintS s))) := by
  obtain ⟨S, h1, h2⟩ := sl_lift h hi
  refine (Uint_in g s h1).mono ?_
  rintro e w' ⟨h3, h4⟩
  have := h2 _ _ [] h4
  rw [List.append_nil] at this
  exact ⟨h3, this⟩
end Go.Proofs.Ytmihibikhmldgaa.Q
