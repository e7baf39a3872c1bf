-- Written by wip/myprint.py out of the translation; not trusted: Lean checks it.
import Derived.Test.YtipmcklkflgppaaQx0
import Derived.Test.YtipmcklkflgppaaQx3
namespace Go.Proofs.Ytipmcklkflgppaa.Q
open Go.Proofs.Ytipmcklkflgppaa.Hand
open Go.RowKit Go.Proofs.YtipmcklkflgppaaW.PrintWords Go.Proofs.YtipmcklkflgppaaW.PrintLast Go.Proofs.YtipmcklkflgppaaW.PrintMore
attribute [local go_sem] max2_int min2_int max_two min_two max_three min_three max_four min_four   -- for this text's walks alone
attribute [local go_sem] sg_u32 sg_u8 sg_u16 sg_u64
set_option linter.unusedVariables false
set_option linter.unusedSimpArgs false

/-! ### frame_Split: function 13 -/
/-- The little-endian number at place i, as the code joins it. -/
def word (l : List Int) (i : Int) : Int :=
  Go.bits .or .u32 (Go.bits .or .u32 (Go.bits .or .u32 (rd l i % 4294967296) (rd l (i + 1) % 4294967296 * 256 % 4294967296)) (rd l (i + 2) % 4294967296 * 65536 % 4294967296)) (rd l (i + 3) % 4294967296 * 16777216 % 4294967296)
set_option maxHeartbeats 1000000 in
set_option maxRecDepth 100000 in
theorem number_calls (i t : Int) (g1 g2 : Nat) (A : Option Addr) (c : Nat) (l : List Int) (w : World) (hb1 : w.heap[g1]? = some (.cells #[.slice A l.length c] 23 (0, 0))) (hb2 : w.heap[g2]? = some (.cells #[.int .i64 t] 3 (0, 0)))
    (hr : Kd.C (Kd.int .u8) w A l.length l) (hc : l.length ≤ c) (h0 : 0 ≤ t + i) (h1 : t + i + 4 ≤ l.length) :
    Calls Try.prog 25 #[.int .i64 i, .pointer (some ⟨g1, 0, none⟩), .pointer (some ⟨g2, 0, none⟩)] w fun e w' => e = .returned (.int .u32 (word l (t + i))) ∧ Drawn0 w w' := by
  have hm := hr.2.1
  have hc1 := cell_of_one hb1
  have hc2 := cell_of_one hb2
  clear hb1 hb2
  obtain ⟨i0, hi0, _, hsz, _⟩ := info_parts info5
  obtain ⟨A', hcut, hA, hC⟩ := print_drop_of (P := Try.prog) (Value.int .u8) 0 23 5 .i64 Try.underlying23 hi0 hsz A c l (t + i) h0 (by omega) hc
  have HR := Kd.C_of_reads (h1 := fun _ => rfl) (hA w (Kd.reads_of_C hr))
  have hl : (l.drop (t + i).toNat).length = l.length - (t + i).toNat := List.length_drop
  have hq : ∀ j : Int, 0 ≤ j → j < 4 → ∃ ad, A' = some ad ∧ w.cell? (ad.add j.toNat) = some (.int .u8 (rd l (t + i + j))) := by
    intro j hj0 hj1
    obtain ⟨ad, e, hx⟩ := Kd.at_int HR j hj0 (by rw [hl]; omega)
    refine ⟨ad, e, ?_⟩
    rw [hx]
    congr 2
    unfold rd
    rw [List.getD_eq_getElem?_getD, List.getD_eq_getElem?_getD, List.getElem?_drop, show (t + i).toNat + j.toNat = (t + i + j).toNat by omega]
  obtain ⟨ad, rfl, hx0⟩ := hq 0 (by omega) (by omega)
  obtain ⟨ad1, e1, hx1⟩ := hq 1 (by omega) (by omega)
  cases e1
  obtain ⟨ad2, e2, hx2⟩ := hq 2 (by omega) (by omega)
  cases e2
  obtain ⟨ad3, e3, hx3⟩ := hq 3 (by omega) (by omega)
  cases e3
  have hw : wrap64 (t + i) = t + i := by unfold wrap64; omega
  have hw' : IntKind.i64.wrap (t + i) = t + i := by rw [i64_w]; exact hw
  have hz : t + i + 0 = t + i := by omega
  rw [hz] at hx0
  clear hz
  generalize hlen : (l.drop (t + i).toNat).length = m at hcut hl hC
  have hm4 : 4 ≤ m := by omega
  have p0 : (0 : Int) < (m : Int) := by omega
  have p1 : (1 : Int) < (m : Int) := by omega
  have p2 : (2 : Int) < (m : Int) := by omega
  have p3 : (3 : Int) < (m : Int) := by omega
  have n0 : 0 < m := by omega
  have n1 : 1 < m := by omega
  have n2 : 2 < m := by omega
  have n3 : 3 < m := by omega
  clear hl hlen HR hq hA hC hr
  simp only [Int.reduceToNat] at hx0 hx1 hx2 hx3
  have hxz : w.cell? ad = some (.int .u8 (rd l (t + i))) := by rw [show ad.add 0 = ad by simp [Addr.add]] at hx0; exact hx0
  have HM := Aside0.mk hm4
  clear hm4
  have hy1 : w.cell? ⟨ad.block, ad.off + 1, none⟩ = some (.int .u8 (rd l (t + i + 1))) := hx1
  have hy2 : w.cell? ⟨ad.block, ad.off + 2, none⟩ = some (.int .u8 (rd l (t + i + 2))) := hx2
  have hy3 : w.cell? ⟨ad.block, ad.off + 3, none⟩ = some (.int .u8 (rd l (t + i + 3))) := hx3
  clear hx0 hx1 hx2 hx3
  go_enter Try.func25, Try.ntmps25
  go_wp2
  go_quiet (fail)
  go_wp2
  go_ret
  exact ⟨rfl, by repeat (first | exact Drawn0.refl _ | apply Drawn0.step)⟩

def frame_Split.l0 : Nat → List Int → List S25 → Int → Option (List S25 × Int × Int)
  | 0, _, _, _ => none
  | k + 1, l, fs, t =>
    if t + 8 ≤ (l.length : Int) then
      if word l (t + 4) / 65536 < 8 ∨ (word l (t + 4) / 65536) % 4 ≠ 0 then some (fs, t, 3)
      else if word l (t + 4) / 65536 > 4096 then some (fs, t, 5)
      else if (l.length : Int) - t < word l (t + 4) / 65536 then some (fs, t, 0)
      else if fs.length < 3518437208883 then
        frame_Split.l0 k l (fs ++ [(⟨word l t, wrap64 (Go.bits .and .u32 (word l (t + 4)) 65535), (l.take (t + word l (t + 4) / 65536).toNat).drop (t + 8).toNat⟩ : S25)]) (t + word l (t + 4) / 65536)
      else none
    else some (fs, t, 0)
def frame_Split.f (k : Nat) (l : List Int) : Option (List S25 × Int × Int) := frame_Split.l0 k l [] 0
theorem frame_Split.mono_l : ∀ k, (∀ y0 y1 y2, LeO (frame_Split.l0 k y0 y1 y2) (frame_Split.l0 (k + 1) y0 y1 y2))
  | 0 => fun _ _ _ r h => by simp [frame_Split.l0] at h
  | k + 1 => by
    have ih0 := frame_Split.mono_l k
    intro y0 y1 y2
    unfold frame_Split.l0
    repeat' first
      | (with_reducible exact ih0 _ _ _)
      | (with_reducible exact LeO.refl _)
      | (with_reducible exact LeO.none _)
      | (with_reducible refine LeO.ite ?_ ?_)
theorem frame_Split.mono : ∀ a0 k, LeO (frame_Split.f k a0) (frame_Split.f (k + 1) a0) := fun a0 k => frame_Split.mono_l k a0 [] 0
theorem word_range (l : List Int) (i : Int) : 0 ≤ word l i ∧ word l i < 4294967296 := by
  unfold word Go.bits
  rw [IntKind.wrap_u32]
  omega
theorem chk1 (z : Int) (h : z < 8 ∨ z % 4 ≠ 0) (h0 : 0 ≤ z) : frame_check.f 1 z = some 3 := by
  unfold frame_check.f
  by_cases c : z < 8
  · rw [if_pos c]; rfl
  · rw [if_neg c, Int.tmod_eq_emod_of_nonneg h0, show (z % 4 != 0) = true from bne_iff_ne.2 (by omega)]; rfl
theorem chk2 (z : Int) (h : ¬ (z < 8 ∨ z % 4 ≠ 0)) (h2 : 4096 < z) : frame_check.f 1 z = some 5 := by
  unfold frame_check.f
  rw [if_neg (by omega), Int.tmod_eq_emod_of_nonneg (by omega), show (z % 4 != 0) = false from bne_eq_false_iff_eq.2 (by omega)]
  simp only [frame_check.j0]
  rw [if_neg (by simp), if_pos h2]
theorem chk3 (z : Int) (h : ¬ (z < 8 ∨ z % 4 ≠ 0)) (h2 : z ≤ 4096) : frame_check.f 1 z = some 0 := by
  unfold frame_check.f
  rw [if_neg (by omega), Int.tmod_eq_emod_of_nonneg (by omega), show (z % 4 != 0) = false from bne_eq_false_iff_eq.2 (by omega)]
  simp only [frame_check.j0]
  rw [if_neg (by simp), if_neg (by omega)]

set_option maxHeartbeats 2000000 in
set_option maxRecDepth 100000 in
theorem frame_Split.calls (k : Nat) (A0 : Option Addr) (c0 : Nat) (l0 : List Int) (r1 : List (S25)) (r2 : Int) (r3 : Int) (w : World) (hr0 : Kd.C (Kd.int .u8) w A0 l0.length l0) (hc0 : l0.length ≤ c0) (h : frame_Split.f k l0 = some (r1, r2, r3)) :
    Calls Try.prog 13 #[.slice A0 l0.length c0] w fun e w' => ∃ v0_ : Value, e = .returned (.tuple #[v0_, .int .i64 r2, .int .i64 r3]) ∧ Kd.S k25 25 w' w.heap.size (fun _ => True) v0_ r1 ∧ Below w.heap.size w w' := by
  have hm := hr0.2.1
  have HR0 := Aside0.mk hr0
  have HC0 := Aside0.mk hc0
  clear hr0 hc0
  have H' := Aside0.mk (show frame_Split.l0 k l0 [] 0 = some (r1, r2, r3) from h)
  clear h
  go_enter Try.func13, Try.ntmps13
  go_wp2
  go_step3
  go_wp2
  go_step3
  go_wp2
  go_loopg [5, 7] k (fun kq v5 v7 wr => ∃ (fs : List S25) (t : Int), v7 = .int .i64 0 ∧ Aside0 (0 ≤ t ∧ t ≤ (l0.length : Int)) ∧ Aside0 (frame_Split.l0 kq l0 fs t = some (r1, r2, r3)) ∧ Aside0 (Kd.S k25 25 wr w.heap.size (fun _ => True) v5 fs) ∧ Aside0 (Below w.heap.size w wr) ∧ Aside0 (wr.heap[w.heap.size]? = some (.cells #[.slice A0 l0.length c0] 23 (0, 0)) ∧ wr.heap[w.heap.size + 1]? = some (.cells #[.int .i64 t] 3 (0, 0))))
  case atStart => exact ⟨[], 0, rfl, ⟨by omega, by omega⟩, H', ⟨Kd.S_nil _ _ _ _ _⟩, ⟨((Below.refl _ _).alloc (Nat.le_refl _) _).alloc (by simp) _⟩, ⟨heap_alloc2_old _ _ _, heap_alloc2_new _ _ _⟩⟩
  case round =>
    clear H'
    obtain ⟨fs, t, rfl, HT, HA, HS, HB, HH⟩ := hrel
    cases gk with
    | zero => exact absurd HA.out (by simp [frame_Split.l0])
    | succ kq =>
      have H := HA.out
      clear HA
      simp only [frame_Split.l0] at H
      have hc1 := cell_of_one HH.out.1
      have hc2 := cell_of_one HH.out.2
      have hf2 := free_of_one HH.out.2
      have ht0 := HT.out.1
      have ht1 := HT.out.2
      by_cases h8 : t + 8 ≤ (l0.length : Int)
      · rw [if_pos h8] at H
        have hwr := word_range l0 (t + 4)
        have HN := Aside0.mk (number_calls 4 t w.heap.size (w.heap.size + 1) A0 c0 l0 wr HH.out.1 HH.out.2 (Kd.C_below HR0.out HB.out) HC0.out (by omega) (by omega))
        generalize hn : word l0 (t + 4) = n at H hwr HN
        clear hn
        have hz0 : 0 ≤ n / 65536 := by omega
        have hz1 : n / 65536 < 65536 := by omega
        generalize hz : n / 65536 = z at H hz0 hz1
        have HZ := Aside0.mk hz
        by_cases c1 : z < 8 ∨ z % 4 ≠ 0
        · rw [if_pos c1] at H
          have HC := Aside0.mk (chk1 z c1 hz0)
          clear c1
          simp only [Option.some.injEq, Prod.mk.injEq] at H
          obtain ⟨rfl, rfl, rfl⟩ := H
          go_wp2_with (first | (go_at_call 25; refine HN.out.mono ?_; rintro e w1 ⟨rfl, ⟨nd, rfl⟩⟩) | (go_at_call 26; refine (frame_check.calls 1 _ 3 _ HC.out).mono ?_; rintro e w1 ⟨rfl, ⟨nd, rfl⟩⟩))
          go_quiet (fail)
          go_wp2
          try rw [Exit.noGoto_ret]
          go_ret3
          exact ⟨_, rfl, by (with_reducible repeat (first | apply Kd.S_alloc | apply Kd.S_drewN | apply Kd.S_drew)); exact HS.out, by repeat (first | (with_reducible first | exact HB.out | apply below_alloc | apply pw_below_drewN | apply below_drew1) | exact HB.out)⟩
        rw [if_neg c1] at H
        by_cases c2 : z > 4096
        · rw [if_pos c2] at H
          have HC := Aside0.mk (chk2 z c1 c2)
          clear c1
          simp only [Option.some.injEq, Prod.mk.injEq] at H
          obtain ⟨rfl, rfl, rfl⟩ := H
          go_wp2_with (first | (go_at_call 25; refine HN.out.mono ?_; rintro e w1 ⟨rfl, ⟨nd, rfl⟩⟩) | (go_at_call 26; refine (frame_check.calls 1 _ 5 _ HC.out).mono ?_; rintro e w1 ⟨rfl, ⟨nd, rfl⟩⟩))
          go_quiet (fail)
          go_wp2
          try rw [Exit.noGoto_ret]
          go_ret3
          exact ⟨_, rfl, by (with_reducible repeat (first | apply Kd.S_alloc | apply Kd.S_drewN | apply Kd.S_drew)); exact HS.out, by repeat (first | (with_reducible first | exact HB.out | apply below_alloc | apply pw_below_drewN | apply below_drew1) | exact HB.out)⟩
        rw [if_neg c2] at H
        have HC := Aside0.mk (chk3 z c1 (by omega))
        have HZ8 : 8 ≤ z := by omega
        have HZ9 : z ≤ 4096 := by omega
        clear c1 c2
        by_cases c3 : (l0.length : Int) - t < z
        · rw [if_pos c3] at H
          simp only [Option.some.injEq, Prod.mk.injEq] at H
          obtain ⟨rfl, rfl, rfl⟩ := H
          go_wp2_with (first | (go_at_call 25; refine HN.out.mono ?_; rintro e w1 ⟨rfl, ⟨nd, rfl⟩⟩) | (go_at_call 26; refine (frame_check.calls 1 _ 0 _ HC.out).mono ?_; rintro e w1 ⟨rfl, ⟨nd, rfl⟩⟩))
          go_quiet (fail)
          go_wp2
          try rw [Exit.noGoto_ret]
          go_ret3
          exact ⟨_, rfl, by (with_reducible repeat (first | apply Kd.S_alloc | apply Kd.S_drewN | apply Kd.S_drew)); exact HS.out, by repeat (first | (with_reducible first | exact HB.out | apply below_alloc | apply pw_below_drewN | apply below_drew1) | exact HB.out)⟩
        rw [if_neg c3] at H
        by_cases c4 : fs.length < 3518437208883
        · rw [if_pos c4] at H
          have HL := Aside0.mk c4
          clear c4
          have HW0 := word_range l0 t
          obtain ⟨i0, hi0, _, hsz, _⟩ := info_parts info5
          obtain ⟨A17, hcut, hA, hC⟩ := print_mid_of (P := Try.prog) (Value.int .u8) 0 23 5 .i64 .i64 Try.underlying23 hi0 hsz A0 c0 l0 (t + 8) (t + z) (by omega) (by omega) (by omega) HC0.out
          have hbl : ((l0.take (t + z).toNat).drop (t + 8).toNat).length ≤ 4096 := by rw [List.length_drop, List.length_take]; omega
          have HRB := Aside0.mk (Kd.C_of_reads (h1 := fun _ => rfl) (hA w (Kd.reads_of_C HR0.out)))
          generalize (l0.take (t + z).toNat).drop (t + 8).toNat = bd at H hcut HRB hC hbl
          have HCB := Aside0.mk hC
          have HBL := Aside0.mk hbl
          have H' := Aside0.mk H
          clear H hA hC hbl hi0 hsz
          go_wp2_with (first | (go_at_call 25; refine HN.out.mono ?_; rintro e w1 ⟨rfl, ⟨nd, rfl⟩⟩; clear HN) | (go_at_call 26; refine (frame_check.calls 1 _ 0 _ HC.out).mono ?_; rintro e w1 ⟨rfl, ⟨nd, rfl⟩⟩) | ((with_reducible refine gate_builtin (b := .append) (xs := #[.const (.slice none 0 0), .tmp 39]) rfl ?_); refine Aside0.out ?_))
          constructor
          at_builtin
          refine Kd.R_append_rows (Kd.int .u8) (w0 := w) w.heap.size rfl (.const (.slice none 0 0)) (.tmp 39) 23 5 (.int .u8 0) 1 rfl Try.underlying23 info5 rfl (by decide) (by omega) (.slice none 0 0) ([] : List Int) bd _ _ _ (fun _ => True) (fun _ => False) rfl rfl ?aO ?aR (fun _ _ h => h) (fun _ h => h.elim) ?aF ?aB ?aS ?aL ?_
          case aO => exact Kd.R_nil _ _ _ _ _
          case aR => exact Kd.C_drewN (Kd.C_below HRB.out HB.out) _
          case aF => exact fun _ _ => trivial
          case aB => repeat (first | (with_reducible first | exact HB.out | apply below_alloc | apply pw_below_drewN | apply below_drew1) | exact HB.out)
          case aS => exact below_size (by repeat (first | (with_reducible first | exact HB.out | apply below_alloc | apply pw_below_drewN | apply below_drew1) | exact HB.out))
          case aL => have := HBL.out; simp only [List.length_nil]; omega
          intro v2 w2 ho hb hg hat
          rw [List.nil_append] at ho
          have HS2 := Aside0.mk (Kd.S_after (Kd.S_apart_nil (Kd.S_drewN HS.out _)) hg hat)
          have HB2 := Aside0.mk hb
          have HO2 := Aside0.mk ho
          have HH2 := Aside0.mk (And.intro (blk_grown (blk_drewN HH.out.1 _) hg (by simp [Value.ownBlock])) (blk_grown (blk_drewN HH.out.2 _) hg (by simp [Value.ownBlock])))
          have HN2 := Aside0.mk (number_calls 0 t w.heap.size (w.heap.size + 1) A0 c0 l0 w2 HH2.out.1 HH2.out.2 (Kd.C_below HR0.out HB2.out) HC0.out (by omega) (by omega))
          rw [show t + 0 = t by omega] at HN2
          clear hc1 hc2 hf2 ho hb hg hat HS HB HH HRB
          have hc1 := cell_of_one HH2.out.1
          have hc2 := cell_of_one HH2.out.2
          generalize word l0 t = n0 at H' HW0 HN2
          obtain ⟨Ab, cb, hbe⟩ := Kd.R_slice HO2.out
          subst hbe
          go_wp2_with (first | (go_at_call 25; refine HN2.out.mono ?_; rintro e w1 ⟨rfl, ⟨nd2, rfl⟩⟩; clear HN2) | ((with_reducible refine gate_builtin (b := .append) (xs := #[.tmp 41, .tmp 49]) rfl ?_); refine Aside0.out ?_))
          constructor
          at_builtin
          have HG3 := Aside0.mk (show (∀ b : Nat, some b = (u5 : Value).ownBlock → w2.heap[b]? = w2.heap[b]?) from fun _ _ => rfl)
          refine Kd.S_append k25 (w0 := w) w.heap.size rfl (.tmp 41) (.tmp 49) 31 25 (.agg #[(.int .u32 0), (.int .i64 0), (.slice none 0 0)]) 40 rfl Try.underlying31 info25 rfl (by decide) (by omega) u5 fs (⟨n0, wrap64 (Go.bits .and .u32 n 65535), bd⟩ : S25) [.int .u32 n0, .int .i64 (wrap64 (Go.bits .and .u32 n 65535)), .slice Ab bd.length cb] (fun _ => True) (fun k_ => some k_ = (.slice Ab bd.length cb : Value).ownBlock) rfl rfl ?aP (fun k_ hk_ => ((Kd.R_mono (ok' := fun k_ => ((fun _ => True)) k_ ∧ some k_ ≠ (u5 : Value).ownBlock) (Kd.R_apart' (HO2.out) (Kd.S_typed HS2.out) (by decide)) (fun k_ hk => ⟨trivial, hk.2⟩))).1 k_ hk_.symm) ?aF ?aO ?aB ?aS ?aL ?_
          case aP => exact k25_mkM _ _ _ (⟨n0, wrap64 (Go.bits .and .u32 n 65535), bd⟩ : S25) (Kd.R_mono (Kd.R_tight rfl (Kd.R_mono (ok' := fun k_ => ((fun _ => True)) k_ ∧ some k_ ≠ (u5 : Value).ownBlock) (Kd.R_drewN (Kd.R_apart' (HO2.out) (Kd.S_typed HS2.out) (by decide)) _) (fun k_ hk => ⟨trivial, hk.2⟩))) (fun _ h_ => h_))
          case aB => exact pw_below_drewN HB2.out _
          case aF => exact (fun _ _ => trivial)
          case aO => exact Kd.S_mono (Kd.S_drewN HS2.out _) (fun k_ hk => ⟨trivial, fun e_ => hk.2 e_⟩)
          case aS => exact below_size (pw_below_drewN HB2.out _)
          case aL => have := HL.out; omega
          intro v3 w3 ho hb hg hat
          have hHS := (Kd.S_ne (Kd.S_drewN HS2.out _) (blk_drewN HH2.out.1 nd2) (by decide))
          have hHT := (Kd.S_ne (Kd.S_drewN HS2.out _) (blk_drewN HH2.out.2 nd2) (by decide))
          have HH3 := Aside0.mk (And.intro (blk_grown (blk_drewN HH2.out.1 nd2) hg hHS) (blk_grown (blk_drewN HH2.out.2 nd2) hg hHT))
          have HB3 := Aside0.mk hb
          have HO3 := Aside0.mk ho
          clear hc1 hc2 HH2 HB2 HO2 HS2 HG3 hHS hHT ho hb hg hat
          have hc1 := cell_of_one HH3.out.1
          have hc2 := cell_of_one HH3.out.2
          have hf2 := free_of_one HH3.out.2
          have hwz : wrap64 (t + z) = t + z := by unfold wrap64; omega
          have hwz' : IntKind.i64.wrap (t + z) = t + z := by rw [i64_w]; exact hwz
          go_wp2
          go_roundg kq
          case measure => exact Nat.lt_succ_self _
          case rel => exact ⟨fs ++ [⟨n0, wrap64 (Go.bits .and .u32 n 65535), bd⟩], t + z, rfl, ⟨by omega, by omega⟩, ⟨by first | exact H'.out⟩, ⟨by (with_reducible repeat (first | apply Kd.S_alloc | apply Kd.S_drewN | apply Kd.S_drew)); exact Kd.S_set HO3.out HH3.out.2 (by decide) 0 _⟩, ⟨below_set (by repeat (first | (with_reducible first | exact HB3.out | apply below_alloc | apply pw_below_drewN | apply below_drew1) | exact HB3.out)) (by omega)⟩, ⟨blk_far HH3.out.1 (by simp) _, blk_put HH3.out.2 0 _ rfl⟩⟩
        · rw [if_neg c4] at H
          exact absurd H (by simp)
      · rw [if_neg h8] at H
        simp only [Option.some.injEq, Prod.mk.injEq] at H
        obtain ⟨rfl, rfl, rfl⟩ := H
        go_wp2
        go_quiet (fail)
        go_wp2
        try rw [Exit.noGoto_ret]
        go_ret3
        exact ⟨_, rfl, by (with_reducible repeat (first | apply Kd.S_alloc | apply Kd.S_drewN | apply Kd.S_drew)); exact HS.out, by repeat (first | (with_reducible first | exact HB.out | apply below_alloc | apply pw_below_drewN | apply below_drew1) | exact HB.out)⟩

end Go.Proofs.Ytipmcklkflgppaa.Q
