import Derived.Laws.StandIn
import Derived.Test.YtckpgccbhaejgaaT26
import Derived.Test.YtckpgccbhaejgaaT28A
import Derived.Test.YtckpgccbhaejgaaT28B
import Derived.Test.YtckpgccbhaejgaaT28C
import Derived.Test.YtckpgccbhaejgaaQx7
import Derived.Test.YtckpgccbhaejgaaT23
namespace Go.Proofs.Ytckpgccbhaejgaa.Q
open Go.RowKit Go.Proofs.YtckpgccbhaejgaaW.PrintWords Go.Proofs.YtckpgccbhaejgaaW.PrintLast Go.Proofs.YtckpgccbhaejgaaW.PrintMore Go.Proofs.Ytckpgccbhaejgaa.Sl Go.Proofs.Ytckpgccbhaejgaa.Hand 
attribute [local go_sem] max2_int min2_int max_two min_two max_three min_three max_four min_four 
set_option linter.unusedVariables false
set_option linter.unusedSimpArgs false

theorem bt_at (t : ByteArray) (i : Nat) (h : i < t.data.toList.length) : bt t (i : Int) = ((t.data.toList[i]).toNat : Int) := by
  have h2 : i < t.size := by
    have h3 : t.data.toList.length = t.size := by rw [Array.length_toList]; rfl
    omega
  unfold bt
  rw [Int.toNat_natCast, dif_pos h2]
  rfl
theorem title_l0 (t : ByteArray) (ht : t.size ≤ 1024) (a b c d X Y U V e f M : Int) : ∀ n i : Nat, i + n = t.size → compositorref22_SetTitle.l0 (n + 1) t (i : Int) a b c d X Y U V e f M = some (a, b, c, d, X, Y, U, V, e, f, M, if (t.data.toList.drop i).any (· == 0) then 3 else 0)
  | 0, i, hi => by
    unfold compositorref22_SetTitle.l0
    have h3 : t.data.toList.length = t.size := by rw [Array.length_toList]; rfl
    rw [if_neg (show ¬ (i : Int) < (t.size : Int) by omega), List.drop_eq_nil_of_le (by omega)]
    rfl
  | n + 1, i, hi => by
    have h3 : t.data.toList.length = t.size := by rw [Array.length_toList]; rfl
    have hl : i < t.data.toList.length := by omega
    unfold compositorref22_SetTitle.l0
    rw [if_pos (show (i : Int) < (t.size : Int) by omega), if_pos (show (0 : Int) ≤ (i : Int) by omega), bt_at t i hl, List.drop_eq_getElem_cons hl, List.any_cons]
    by_cases h : t.data.toList[i] = 0
    · rw [if_pos (by rw [h]; rfl), h]
      rfl
    · have hne : ¬ ((t.data.toList[i]).toNat : Int) = 0 := fun h4 => h (UInt8.toNat_inj.1 (by have : (0 : UInt8).toNat = 0 := rfl; omega))
      rw [if_neg hne, beq_eq_false_iff_ne.2 h, Bool.false_or]
      have hw : wrap64 ((i : Int) + 1) = ((i + 1 : Nat) : Int) := by unfold wrap64; omega
      rw [hw]
      exact title_l0 t ht a b c d X Y U V e f M n (i + 1) (by omega)
theorem title_f (t : ByteArray) (a b c d X Y U V e f M : Int) : compositorref22_SetTitle.f (t.size + 1) a b c d X Y U V e f M t = some (a, b, c, d, X, Y, U, V, e, f, M, titE t) := by
  unfold compositorref22_SetTitle.f titE
  by_cases h : 1024 < t.size
  · rw [if_pos (show (t.size : Int) > 1024 by omega), if_pos h]
  · rw [if_neg (show ¬ (t.size : Int) > 1024 by omega), if_neg h]
    have h2 := title_l0 t (by omega) a b c d X Y U V e f M t.size 0 (by omega)
    rw [List.drop_zero] at h2
    have h3 := firstIdx_nonneg t 0
    rw [show ((0 : Nat) : Int) = 0 from rfl] at h2
    rw [h2, ← h3]
    by_cases h4 : 0 ≤ firstIdx t 0
    · rw [if_pos (decide_eq_true h4), if_pos h4]
    · rw [if_neg (by rw [decide_eq_false h4]; decide), if_neg h4]
section
variable {w0 w : World} {L : List Res}
theorem rTit_e (h : SL w0 w L) (s : WSt) (M : Int) (t : ByteArray) {E : Int} (hE : titE t = E) : Calls Try.prog 34 #[rvS s M, .string t] w fun e w' => e = .returned (.tuple #[rvS s M, .int .i64 E]) ∧ SL w0 w' L := by
  subst hE
  refine (compositorref22_SetTitle.calls (t.size + 1) _ _ _ _ _ _ _ _ _ _ M t _ _ _ _ _ _ _ _ _ _ _ _ w (title_f t _ _ _ _ _ _ _ _ _ _ M)).mono ?_
  rintro e w' ⟨rfl, hb⟩
  exact ⟨rfl, sl_below h hb⟩
theorem rMin_e (h : SL w0 w L) (s : WSt) (M x y : Int) {E : Int} {S : WSt} (hE : minE s x y = E) (hS : minS s x y = S) : Calls Try.prog 30 #[rvS s M, .int .i64 x, .int .i64 y] w fun e w' => e = .returned (.tuple #[rvS S M, .int .i64 E]) ∧ SL w0 w' L := by
  subst hE; subst hS
  exact rMin_c h s M x y
theorem rMax_e (h : SL w0 w L) (s : WSt) (M x y : Int) {E : Int} {S : WSt} (hE : maxE s x y = E) (hS : maxS s x y = S) : Calls Try.prog 31 #[rvS s M, .int .i64 x, .int .i64 y] w fun e w' => e = .returned (.tuple #[rvS S M, .int .i64 E]) ∧ SL w0 w' L := by
  subst hE; subst hS
  exact rMax_c h s M x y
theorem rAcc_e (h : SL w0 w L) (s : WSt) {M : Int} (hM : mskI s.b = M) (x y : Int) {E : Int} {S : WSt} (hE : accE s x y = E) (hS : accS s x y = S) : Calls Try.prog 35 #[rvS s M, .int .i64 x, .int .i64 y] w fun e w' => e = .returned (.tuple #[rvS S M, .int .i64 E]) ∧ SL w0 w' L := by
  subst hE; subst hS
  exact rAcc_c h s hM x y
theorem rRsz_e (h : SL w0 w L) (s : WSt) {M : Int} (hM : mskI s.b = M) (k x y : Int) {A B E : Int} {S : WSt} (hA : rszA s k x y = A) (hB : rszB s k x y = B) (hE : rszE s k x y = E) (hS : rszS s k x y = S) : Calls Try.prog 33 #[rvS s M, .int .i64 k, .int .i64 x, .int .i64 y] w fun e w' => e = .returned (.tuple #[rvS S M, .int .i64 A, .int .i64 B, .int .i64 E]) ∧ SL w0 w' L := by
  subst hA; subst hB; subst hE; subst hS
  exact rRsz_c h s hM k x y
theorem oq_k (b : Bits) {k : Int} (hk : k = 1 ∨ k = 2 ∨ k = 4 ∨ k = 8) : Go.bits .andNot .i64 (mskI b) k = mskI (setB b k false) ∧ Go.bits .or .i64 (mskI b) k = mskI (setB b k true) := by
  rcases hk with rfl | rfl | rfl | rfl <;> (obtain ⟨b1, b2, b3, b4⟩ := b; cases b1 <;> cases b2 <;> cases b3 <;> cases b4 <;> exact ⟨by kernel_rfl, by kernel_rfl⟩)
set_option maxHeartbeats 2000000 in
theorem rReq_bad (h : SL w0 w L) (s : WSt) {M : Int} (k : Int) (hk : ¬ (k = 1 ∨ k = 2 ∨ k = 4 ∨ k = 8)) (on : Bool) (p0 q0 p1 q1 : Int) : Calls Try.prog 32 #[rvS s M, .int .i64 k, .bool on, .agg #[.int .i64 p0, .int .i64 q0, .int .i64 p1, .int .i64 q1]] w fun e w' => e = .returned (.tuple #[rvS s M, .int .i64 0, .int .i64 0, .int .i64 0, .int .i64 2]) ∧ SL w0 w' L := by
  have HL := Aside0.mk h
  have HS := Aside0.mk (sl_box (sl_box (sl_box (sl_start w) (rcs s M) 39) #[.int .i64 p0, .int .i64 q0, .int .i64 p1, .int .i64 q1] 34) rcz 39)
  simp only [World.size_alloc] at HS
  have k1 : (k != 1) = true := bne_iff_ne.2 (fun h => hk (.inl h))
  have k2 : (k != 2) = true := bne_iff_ne.2 (fun h => hk (.inr (.inl h)))
  have k4 : (k != 4) = true := bne_iff_ne.2 (fun h => hk (.inr (.inr (.inl h))))
  have k8 : (k != 8) = true := bne_iff_ne.2 (fun h => hk (.inr (.inr (.inr h))))
  clear h hk
  go_enter Try.func32, Try.ntmps32
  go_wp2_with (first
    | (refine wpList_store_row rfl 39 _ _ rfl _ (rcs s M) rfl rfl 39 rcz (sl_blk (by repeat (with_reducible first | exact HS.out | apply sl_drewN | apply sl_drew | apply sl_box | apply sl_alloc)) 2 rfl) (by kernel_rfl) rfl (by simp [Value.oneCell']) ?_; have hs := sl_row (by repeat (with_reducible first | exact HS.out | apply sl_drewN | apply sl_drew | apply sl_box | apply sl_alloc)) 2 rfl (rcs s M); (try simp only [World.size_alloc] at hs); replace HS := Aside0.mk hs; clear hs))
  try rw [Exit.noGoto_ret]
  refine bodyPost_ret (results_list (rs := [.cell 8 39, .tmp 9, .tmp 10, .tmp 11, .tmp 12]) rfl (by simp) (.cell _ 39 (rcs s M) (0, 0) _ rfl (sl_blk HS.out 2 rfl) Try.underlying39 rfl (by kernel_rfl) (.tmp (.tmp (.tmp (.tmp .nil)))))) rfl ?_
  exact ⟨rfl, sl_below HL.out (sl_below0 HS.out)⟩
theorem rReq_e' (h : SL w0 w L) (s : WSt) {M : Int} (hM : mskI s.b = M) (k : Int) (on : Bool) (p0 q0 p1 q1 : Int) {A B C E : Int} {S : WSt} {N : Int} (hA : rqA s k on p0 q0 p1 q1 = A) (hB : rqB s k on p0 q0 p1 q1 = B) (hC : rqM s k on p0 q0 p1 q1 = C) (hE : rqE s k on (emptyB p0 q0 p1 q1) = E) (hS : rqS s k on p0 q0 p1 q1 = S) (hN : mskI S.b = N) :
    Calls Try.prog 32 #[rvS s M, .int .i64 k, .bool on, .agg #[.int .i64 p0, .int .i64 q0, .int .i64 p1, .int .i64 q1]] w fun e w' => e = .returned (.tuple #[rvS S N, .int .i64 A, .int .i64 B, .int .i64 C, .int .i64 E]) ∧ SL w0 w' L := by
  subst hN; subst hS; subst hA; subst hB; subst hC; subst hE
  unfold rqA rqB rqM rqS
  by_cases hk : k = 1 ∨ k = 2 ∨ k = 4 ∨ k = 8
  rotate_left
  · have hE : rqE s k on (emptyB p0 q0 p1 q1) = 2 := by unfold rqE; rw [if_neg hk]
    rw [hE, if_neg (by decide), if_neg (by decide), if_neg (by decide), if_neg (by decide), hM]
    exact rReq_bad h s k hk on p0 q0 p1 q1
  obtain ⟨h0, h1⟩ := oq_k s.b hk
  rw [hM] at h0 h1
  have hNN : (if on = true then mskI (setB s.b k true) else mskI (setB s.b k false)) = mskI (setB s.b k on) := by cases on <;> rfl
  have h3 := and3 (setB s.b k on)
  by_cases hc : rqC s k on = true
  · have hcon : (Go.bits .and .i64 (mskI (setB s.b k on)) 3 != 0) = true := by
      unfold bne
      rw [h3]
      have : ((setB s.b k on).a || (setB s.b k on).b) = true := hc
      rw [this]
      rfl
    by_cases he : emptyB p0 q0 p1 q1 = true
    · have hE : rqE s k on (emptyB p0 q0 p1 q1) = 6 := by unfold rqE; rw [if_pos hk, hc, he]; rfl
      rw [hE, if_neg (by decide), if_neg (by decide), if_neg (by decide), if_neg (by decide), hM]
      exact rReq_e h s k hk on p0 q0 p1 q1 _ _ _ h0 h1 hNN hcon he
    · have he := Bool.eq_false_iff.2 he
      have hE : rqE s k on (emptyB p0 q0 p1 q1) = 0 := by unfold rqE; rw [if_pos hk, hc, he]; rfl
      have hr := emp_rng he
      rw [hE, if_pos rfl, if_pos rfl, if_pos rfl, if_pos rfl]
      unfold rqX rqY
      rw [if_pos hc, if_pos hc]
      cases on
      · exact rReq_c0 h s k hk p0 q0 p1 q1 _ _ _ h0 h1 hNN hcon he _ _ (by unfold wrap64; omega) (by unfold wrap64; omega)
      · exact rReq_c1 h s k hk p0 q0 p1 q1 _ _ _ h0 h1 hNN hcon he _ _ (by unfold wrap64; omega) (by unfold wrap64; omega)
  · have hc2 := Bool.eq_false_iff.2 hc
    have hcon : (Go.bits .and .i64 (mskI (setB s.b k on)) 3 != 0) = false := by
      unfold bne
      rw [h3]
      have : ((setB s.b k on).a || (setB s.b k on).b) = false := hc2
      rw [this]
      rfl
    have hE : rqE s k on (emptyB p0 q0 p1 q1) = 0 := by unfold rqE; rw [if_pos hk, hc2]; rfl
    rw [hE, if_pos rfl, if_pos rfl, if_pos rfl, if_pos rfl]
    unfold rqX rqY
    rw [if_neg hc, if_neg hc]
    exact rReq_f h s k hk on p0 q0 p1 q1 _ _ _ h0 h1 hNN hcon _ _ rfl rfl
end
end Go.Proofs.Ytckpgccbhaejgaa.Q

namespace Go.Proofs.Ytckpgccbhaejgaa.Q
open Go.RowKit Go.Proofs.YtckpgccbhaejgaaW.PrintWords Go.Proofs.YtckpgccbhaejgaaW.PrintLast Go.Proofs.YtckpgccbhaejgaaW.PrintMore Go.Proofs.Ytckpgccbhaejgaa.Sl Go.Proofs.Ytckpgccbhaejgaa.Hand 
attribute [local go_sem] max2_int min2_int max_two min_two max_three min_three max_four min_four 
set_option linter.unusedVariables false
set_option linter.unusedSimpArgs false

set_option maxHeartbeats 2000000 in
theorem want_0 {w0 w : World} {L : List Res} (h : SL w0 w L) (s : WSt) {M : Int} (hM : mskI s.b = M) (x : S46)  (h0 : x.f0 = 0) : Calls Try.prog 15 #[rvS s M, ag46 x] w fun e w' => e = .returned (.tuple #[rvS (minS s x.f2 x.f3) (M), .agg #[.int .i64 (0), .int .i64 (0), .int .i64 (0), .int .i64 (minE s x.f2 x.f3)]]) ∧ SL w0 w' L := by
  have HL := Aside0.mk h
  have HS := Aside0.mk (sl_start w)
  have HM := Aside0.mk hM
  have d0 : (x.f0 == 0) = true := beq_iff_eq.2 h0
  obtain ⟨E, hE⟩ : ∃ z, minE s x.f2 x.f3 = z := ⟨_, rfl⟩
  obtain ⟨S, hS⟩ : ∃ z, minS s x.f2 x.f3 = z := ⟨_, rfl⟩
  rw [hE, hS]
  have H_hE := Aside0.mk hE
  have H_hS := Aside0.mk hS
  clear h hM h0 hE hS
  go_enter Try.func15, Try.ntmps15
  go_wp2_with (first
    | (go_at_call 30; refine (rMin_e (by repeat (with_reducible first | exact HS.out | apply sl_drewN | apply sl_drew | apply sl_box | apply sl_alloc)) s M x.f2 x.f3 H_hE.out H_hS.out).mono ?_; rintro e w1 ⟨rfl, hs⟩; (try simp only [World.size_alloc] at hs); replace HS := Aside0.mk hs; clear hs)
    | (refine wpList_store_row rfl 39 _ _ rfl _ (rcs S M) rfl rfl 39 rcz (sl_blk (sl_box HS.out (rcs S M) 39) 2 rfl) (by kernel_rfl) rfl (by simp [Value.oneCell']) ?_; have hs := sl_row (sl_box HS.out (rcs S M) 39) 2 rfl (rcs S M); (try simp only [World.size_alloc] at hs); replace HS := Aside0.mk hs; clear hs)
    | (refine wpList_store_row rfl 42 _ _ rfl _ (#[.int .i64 0, .int .i64 0, .int .i64 0, .int .i64 E]) rfl rfl 42 #[.int .i64 0, .int .i64 0, .int .i64 0, .int .i64 0] (sl_blk HS.out 3 rfl) (by kernel_rfl) rfl (by simp [Value.oneCell']) ?_; have hs := sl_row HS.out 3 rfl (#[.int .i64 0, .int .i64 0, .int .i64 0, .int .i64 E]); (try simp only [World.size_alloc] at hs); replace HS := Aside0.mk hs; clear hs))
  try rw [Exit.noGoto_ret]
  refine bodyPost_ret (results_list (rs := [.cell 4 39, .cell 5 42]) rfl (by simp) (.cell _ 39 (rcs S M) (0, 0) _ rfl (sl_blk HS.out 2 rfl) Try.underlying39 rfl (by kernel_rfl) (.cell _ 42 #[.int .i64 0, .int .i64 0, .int .i64 0, .int .i64 E] (0, 0) _ rfl (sl_blk HS.out 3 rfl) Try.underlying42 rfl (by kernel_rfl) .nil))) rfl ?_
  exact ⟨rfl, sl_below HL.out (sl_below0 HS.out)⟩
set_option maxHeartbeats 2000000 in
theorem want_1 {w0 w : World} {L : List Res} (h : SL w0 w L) (s : WSt) {M : Int} (hM : mskI s.b = M) (x : S46) (h0 : x.f0 ≠ 0) (h1 : x.f0 = 1) : Calls Try.prog 15 #[rvS s M, ag46 x] w fun e w' => e = .returned (.tuple #[rvS (maxS s x.f2 x.f3) (M), .agg #[.int .i64 (0), .int .i64 (0), .int .i64 (0), .int .i64 (maxE s x.f2 x.f3)]]) ∧ SL w0 w' L := by
  have HL := Aside0.mk h
  have HS := Aside0.mk (sl_start w)
  have HM := Aside0.mk hM
  have d0 : (x.f0 == 0) = false := beq_eq_false_iff_ne.2 h0
  have d1 : (x.f0 == 1) = true := beq_iff_eq.2 h1
  obtain ⟨E, hE⟩ : ∃ z, maxE s x.f2 x.f3 = z := ⟨_, rfl⟩
  obtain ⟨S, hS⟩ : ∃ z, maxS s x.f2 x.f3 = z := ⟨_, rfl⟩
  rw [hE, hS]
  have H_hE := Aside0.mk hE
  have H_hS := Aside0.mk hS
  clear h hM h0 h1 hE hS
  go_enter Try.func15, Try.ntmps15
  go_wp2_with (first
    | (go_at_call 31; refine (rMax_e (by repeat (with_reducible first | exact HS.out | apply sl_drewN | apply sl_drew | apply sl_box | apply sl_alloc)) s M x.f2 x.f3 H_hE.out H_hS.out).mono ?_; rintro e w1 ⟨rfl, hs⟩; (try simp only [World.size_alloc] at hs); replace HS := Aside0.mk hs; clear hs)
    | (refine wpList_store_row rfl 39 _ _ rfl _ (rcs S M) rfl rfl 39 rcz (sl_blk (sl_box HS.out (rcs S M) 39) 2 rfl) (by kernel_rfl) rfl (by simp [Value.oneCell']) ?_; have hs := sl_row (sl_box HS.out (rcs S M) 39) 2 rfl (rcs S M); (try simp only [World.size_alloc] at hs); replace HS := Aside0.mk hs; clear hs)
    | (refine wpList_store_row rfl 42 _ _ rfl _ (#[.int .i64 0, .int .i64 0, .int .i64 0, .int .i64 E]) rfl rfl 42 #[.int .i64 0, .int .i64 0, .int .i64 0, .int .i64 0] (sl_blk HS.out 3 rfl) (by kernel_rfl) rfl (by simp [Value.oneCell']) ?_; have hs := sl_row HS.out 3 rfl (#[.int .i64 0, .int .i64 0, .int .i64 0, .int .i64 E]); (try simp only [World.size_alloc] at hs); replace HS := Aside0.mk hs; clear hs))
  try rw [Exit.noGoto_ret]
  refine bodyPost_ret (results_list (rs := [.cell 4 39, .cell 5 42]) rfl (by simp) (.cell _ 39 (rcs S M) (0, 0) _ rfl (sl_blk HS.out 2 rfl) Try.underlying39 rfl (by kernel_rfl) (.cell _ 42 #[.int .i64 0, .int .i64 0, .int .i64 0, .int .i64 E] (0, 0) _ rfl (sl_blk HS.out 3 rfl) Try.underlying42 rfl (by kernel_rfl) .nil))) rfl ?_
  exact ⟨rfl, sl_below HL.out (sl_below0 HS.out)⟩
set_option maxHeartbeats 2000000 in
theorem want_2 {w0 w : World} {L : List Res} (h : SL w0 w L) (s : WSt) {M : Int} (hM : mskI s.b = M) (x : S46) (h0 : x.f0 ≠ 0) (h1 : x.f0 ≠ 1) (h2 : x.f0 = 2) : Calls Try.prog 15 #[rvS s M, ag46 x] w fun e w' => e = .returned (.tuple #[rvS (rqS s x.f1 x.f4 x.f5.f0 x.f5.f1 x.f5.f2 x.f5.f3) (mskI (rqS s x.f1 x.f4 x.f5.f0 x.f5.f1 x.f5.f2 x.f5.f3).b), .agg #[.int .i64 (rqA s x.f1 x.f4 x.f5.f0 x.f5.f1 x.f5.f2 x.f5.f3), .int .i64 (rqB s x.f1 x.f4 x.f5.f0 x.f5.f1 x.f5.f2 x.f5.f3), .int .i64 (rqM s x.f1 x.f4 x.f5.f0 x.f5.f1 x.f5.f2 x.f5.f3), .int .i64 (rqE s x.f1 x.f4 (emptyB x.f5.f0 x.f5.f1 x.f5.f2 x.f5.f3))]]) ∧ SL w0 w' L := by
  have HL := Aside0.mk h
  have HS := Aside0.mk (sl_start w)
  have HM := Aside0.mk hM
  have d0 : (x.f0 == 0) = false := beq_eq_false_iff_ne.2 h0
  have d1 : (x.f0 == 1) = false := beq_eq_false_iff_ne.2 h1
  have d2 : (x.f0 == 2) = true := beq_iff_eq.2 h2
  obtain ⟨A, hA⟩ : ∃ z, rqA s x.f1 x.f4 x.f5.f0 x.f5.f1 x.f5.f2 x.f5.f3 = z := ⟨_, rfl⟩
  obtain ⟨B, hB⟩ : ∃ z, rqB s x.f1 x.f4 x.f5.f0 x.f5.f1 x.f5.f2 x.f5.f3 = z := ⟨_, rfl⟩
  obtain ⟨C, hC⟩ : ∃ z, rqM s x.f1 x.f4 x.f5.f0 x.f5.f1 x.f5.f2 x.f5.f3 = z := ⟨_, rfl⟩
  obtain ⟨E, hE⟩ : ∃ z, rqE s x.f1 x.f4 (emptyB x.f5.f0 x.f5.f1 x.f5.f2 x.f5.f3) = z := ⟨_, rfl⟩
  obtain ⟨S, hS⟩ : ∃ z, rqS s x.f1 x.f4 x.f5.f0 x.f5.f1 x.f5.f2 x.f5.f3 = z := ⟨_, rfl⟩
  rw [hA, hB, hC, hE, hS]
  obtain ⟨N, hN⟩ : ∃ z, mskI S.b = z := ⟨_, rfl⟩
  rw [hN]
  have H_hA := Aside0.mk hA
  have H_hB := Aside0.mk hB
  have H_hC := Aside0.mk hC
  have H_hE := Aside0.mk hE
  have H_hS := Aside0.mk hS
  have H_hN := Aside0.mk hN
  clear h hM h0 h1 h2 hA hB hC hE hS hN
  go_enter Try.func15, Try.ntmps15
  go_wp2_with (first
    | (go_at_call 32; refine (rReq_e' (by repeat (with_reducible first | exact HS.out | apply sl_drewN | apply sl_drew | apply sl_box | apply sl_alloc)) s HM.out x.f1 x.f4 x.f5.f0 x.f5.f1 x.f5.f2 x.f5.f3 H_hA.out H_hB.out H_hC.out H_hE.out H_hS.out H_hN.out).mono ?_; rintro e w1 ⟨rfl, hs⟩; (try simp only [World.size_alloc] at hs); replace HS := Aside0.mk hs; clear hs)
    | (refine wpList_store_row rfl 39 _ _ rfl _ (rcs S N) rfl rfl 39 rcz (sl_blk (sl_box HS.out (rcs S N) 39) 2 rfl) (by kernel_rfl) rfl (by simp [Value.oneCell']) ?_; have hs := sl_row (sl_box HS.out (rcs S N) 39) 2 rfl (rcs S N); (try simp only [World.size_alloc] at hs); replace HS := Aside0.mk hs; clear hs)
    | (refine wpList_store_row rfl 42 _ _ rfl _ (#[.int .i64 A, .int .i64 B, .int .i64 C, .int .i64 E]) rfl rfl 42 #[.int .i64 0, .int .i64 0, .int .i64 0, .int .i64 0] (sl_blk HS.out 3 rfl) (by kernel_rfl) rfl (by simp [Value.oneCell']) ?_; have hs := sl_row HS.out 3 rfl (#[.int .i64 A, .int .i64 B, .int .i64 C, .int .i64 E]); (try simp only [World.size_alloc] at hs); replace HS := Aside0.mk hs; clear hs))
  try rw [Exit.noGoto_ret]
  refine bodyPost_ret (results_list (rs := [.cell 4 39, .cell 5 42]) rfl (by simp) (.cell _ 39 (rcs S N) (0, 0) _ rfl (sl_blk HS.out 2 rfl) Try.underlying39 rfl (by kernel_rfl) (.cell _ 42 #[.int .i64 A, .int .i64 B, .int .i64 C, .int .i64 E] (0, 0) _ rfl (sl_blk HS.out 3 rfl) Try.underlying42 rfl (by kernel_rfl) .nil))) rfl ?_
  exact ⟨rfl, sl_below HL.out (sl_below0 HS.out)⟩
set_option maxHeartbeats 2000000 in
theorem want_3 {w0 w : World} {L : List Res} (h : SL w0 w L) (s : WSt) {M : Int} (hM : mskI s.b = M) (x : S46) (h0 : x.f0 ≠ 0) (h1 : x.f0 ≠ 1) (h2 : x.f0 ≠ 2) (h3 : x.f0 = 3) : Calls Try.prog 15 #[rvS s M, ag46 x] w fun e w' => e = .returned (.tuple #[rvS (rszS s x.f1 x.f2 x.f3) (M), .agg #[.int .i64 (rszA s x.f1 x.f2 x.f3), .int .i64 (rszB s x.f1 x.f2 x.f3), .int .i64 (0), .int .i64 (rszE s x.f1 x.f2 x.f3)]]) ∧ SL w0 w' L := by
  have HL := Aside0.mk h
  have HS := Aside0.mk (sl_start w)
  have HM := Aside0.mk hM
  have d0 : (x.f0 == 0) = false := beq_eq_false_iff_ne.2 h0
  have d1 : (x.f0 == 1) = false := beq_eq_false_iff_ne.2 h1
  have d2 : (x.f0 == 2) = false := beq_eq_false_iff_ne.2 h2
  have d3 : (x.f0 == 3) = true := beq_iff_eq.2 h3
  obtain ⟨A, hA⟩ : ∃ z, rszA s x.f1 x.f2 x.f3 = z := ⟨_, rfl⟩
  obtain ⟨B, hB⟩ : ∃ z, rszB s x.f1 x.f2 x.f3 = z := ⟨_, rfl⟩
  obtain ⟨E, hE⟩ : ∃ z, rszE s x.f1 x.f2 x.f3 = z := ⟨_, rfl⟩
  obtain ⟨S, hS⟩ : ∃ z, rszS s x.f1 x.f2 x.f3 = z := ⟨_, rfl⟩
  rw [hA, hB, hE, hS]
  have H_hA := Aside0.mk hA
  have H_hB := Aside0.mk hB
  have H_hE := Aside0.mk hE
  have H_hS := Aside0.mk hS
  clear h hM h0 h1 h2 h3 hA hB hE hS
  go_enter Try.func15, Try.ntmps15
  go_wp2_with (first
    | (go_at_call 33; refine (rRsz_e (by repeat (with_reducible first | exact HS.out | apply sl_drewN | apply sl_drew | apply sl_box | apply sl_alloc)) s HM.out x.f1 x.f2 x.f3 H_hA.out H_hB.out H_hE.out H_hS.out).mono ?_; rintro e w1 ⟨rfl, hs⟩; (try simp only [World.size_alloc] at hs); replace HS := Aside0.mk hs; clear hs)
    | (refine wpList_store_row rfl 39 _ _ rfl _ (rcs S M) rfl rfl 39 rcz (sl_blk (sl_box HS.out (rcs S M) 39) 2 rfl) (by kernel_rfl) rfl (by simp [Value.oneCell']) ?_; have hs := sl_row (sl_box HS.out (rcs S M) 39) 2 rfl (rcs S M); (try simp only [World.size_alloc] at hs); replace HS := Aside0.mk hs; clear hs)
    | (refine wpList_store_row rfl 42 _ _ rfl _ (#[.int .i64 A, .int .i64 B, .int .i64 0, .int .i64 E]) rfl rfl 42 #[.int .i64 0, .int .i64 0, .int .i64 0, .int .i64 0] (sl_blk HS.out 3 rfl) (by kernel_rfl) rfl (by simp [Value.oneCell']) ?_; have hs := sl_row HS.out 3 rfl (#[.int .i64 A, .int .i64 B, .int .i64 0, .int .i64 E]); (try simp only [World.size_alloc] at hs); replace HS := Aside0.mk hs; clear hs))
  try rw [Exit.noGoto_ret]
  refine bodyPost_ret (results_list (rs := [.cell 4 39, .cell 5 42]) rfl (by simp) (.cell _ 39 (rcs S M) (0, 0) _ rfl (sl_blk HS.out 2 rfl) Try.underlying39 rfl (by kernel_rfl) (.cell _ 42 #[.int .i64 A, .int .i64 B, .int .i64 0, .int .i64 E] (0, 0) _ rfl (sl_blk HS.out 3 rfl) Try.underlying42 rfl (by kernel_rfl) .nil))) rfl ?_
  exact ⟨rfl, sl_below HL.out (sl_below0 HS.out)⟩
set_option maxHeartbeats 2000000 in
theorem want_4 {w0 w : World} {L : List Res} (h : SL w0 w L) (s : WSt) {M : Int} (hM : mskI s.b = M) (x : S46) (h0 : x.f0 ≠ 0) (h1 : x.f0 ≠ 1) (h2 : x.f0 ≠ 2) (h3 : x.f0 ≠ 3) (h4 : x.f0 = 4) : Calls Try.prog 15 #[rvS s M, ag46 x] w fun e w' => e = .returned (.tuple #[rvS (s) (M), .agg #[.int .i64 (0), .int .i64 (0), .int .i64 (0), .int .i64 (titE x.f6)]]) ∧ SL w0 w' L := by
  have HL := Aside0.mk h
  have HS := Aside0.mk (sl_start w)
  have HM := Aside0.mk hM
  have d0 : (x.f0 == 0) = false := beq_eq_false_iff_ne.2 h0
  have d1 : (x.f0 == 1) = false := beq_eq_false_iff_ne.2 h1
  have d2 : (x.f0 == 2) = false := beq_eq_false_iff_ne.2 h2
  have d3 : (x.f0 == 3) = false := beq_eq_false_iff_ne.2 h3
  have d4 : (x.f0 == 4) = true := beq_iff_eq.2 h4
  obtain ⟨E, hE⟩ : ∃ z, titE x.f6 = z := ⟨_, rfl⟩
  rw [hE]
  have H_hE := Aside0.mk hE
  clear h hM h0 h1 h2 h3 h4 hE
  go_enter Try.func15, Try.ntmps15
  go_wp2_with (first
    | (go_at_call 34; refine (rTit_e (by repeat (with_reducible first | exact HS.out | apply sl_drewN | apply sl_drew | apply sl_box | apply sl_alloc)) s M x.f6 H_hE.out).mono ?_; rintro e w1 ⟨rfl, hs⟩; (try simp only [World.size_alloc] at hs); replace HS := Aside0.mk hs; clear hs)
    | (refine wpList_store_row rfl 39 _ _ rfl _ (rcs s M) rfl rfl 39 rcz (sl_blk (sl_box HS.out (rcs s M) 39) 2 rfl) (by kernel_rfl) rfl (by simp [Value.oneCell']) ?_; have hs := sl_row (sl_box HS.out (rcs s M) 39) 2 rfl (rcs s M); (try simp only [World.size_alloc] at hs); replace HS := Aside0.mk hs; clear hs)
    | (refine wpList_store_row rfl 42 _ _ rfl _ (#[.int .i64 0, .int .i64 0, .int .i64 0, .int .i64 E]) rfl rfl 42 #[.int .i64 0, .int .i64 0, .int .i64 0, .int .i64 0] (sl_blk HS.out 3 rfl) (by kernel_rfl) rfl (by simp [Value.oneCell']) ?_; have hs := sl_row HS.out 3 rfl (#[.int .i64 0, .int .i64 0, .int .i64 0, .int .i64 E]); (try simp only [World.size_alloc] at hs); replace HS := Aside0.mk hs; clear hs))
  try rw [Exit.noGoto_ret]
  refine bodyPost_ret (results_list (rs := [.cell 4 39, .cell 5 42]) rfl (by simp) (.cell _ 39 (rcs s M) (0, 0) _ rfl (sl_blk HS.out 2 rfl) Try.underlying39 rfl (by kernel_rfl) (.cell _ 42 #[.int .i64 0, .int .i64 0, .int .i64 0, .int .i64 E] (0, 0) _ rfl (sl_blk HS.out 3 rfl) Try.underlying42 rfl (by kernel_rfl) .nil))) rfl ?_
  exact ⟨rfl, sl_below HL.out (sl_below0 HS.out)⟩
set_option maxHeartbeats 2000000 in
theorem want_5 {w0 w : World} {L : List Res} (h : SL w0 w L) (s : WSt) {M : Int} (hM : mskI s.b = M) (x : S46) (h0 : x.f0 ≠ 0) (h1 : x.f0 ≠ 1) (h2 : x.f0 ≠ 2) (h3 : x.f0 ≠ 3) (h4 : x.f0 ≠ 4) : Calls Try.prog 15 #[rvS s M, ag46 x] w fun e w' => e = .returned (.tuple #[rvS (accS s x.f2 x.f3) (M), .agg #[.int .i64 (0), .int .i64 (0), .int .i64 (0), .int .i64 (accE s x.f2 x.f3)]]) ∧ SL w0 w' L := by
  have HL := Aside0.mk h
  have HS := Aside0.mk (sl_start w)
  have HM := Aside0.mk hM
  have d0 : (x.f0 == 0) = false := beq_eq_false_iff_ne.2 h0
  have d1 : (x.f0 == 1) = false := beq_eq_false_iff_ne.2 h1
  have d2 : (x.f0 == 2) = false := beq_eq_false_iff_ne.2 h2
  have d3 : (x.f0 == 3) = false := beq_eq_false_iff_ne.2 h3
  have d4 : (x.f0 == 4) = false := beq_eq_false_iff_ne.2 h4
  obtain ⟨E, hE⟩ : ∃ z, accE s x.f2 x.f3 = z := ⟨_, rfl⟩
  obtain ⟨S, hS⟩ : ∃ z, accS s x.f2 x.f3 = z := ⟨_, rfl⟩
  rw [hE, hS]
  have H_hE := Aside0.mk hE
  have H_hS := Aside0.mk hS
  clear h hM h0 h1 h2 h3 h4 hE hS
  go_enter Try.func15, Try.ntmps15
  go_wp2_with (first
    | (go_at_call 35; refine (rAcc_e (by repeat (with_reducible first | exact HS.out | apply sl_drewN | apply sl_drew | apply sl_box | apply sl_alloc)) s HM.out x.f2 x.f3 H_hE.out H_hS.out).mono ?_; rintro e w1 ⟨rfl, hs⟩; (try simp only [World.size_alloc] at hs); replace HS := Aside0.mk hs; clear hs)
    | (refine wpList_store_row rfl 39 _ _ rfl _ (rcs S M) rfl rfl 39 rcz (sl_blk (sl_box HS.out (rcs S M) 39) 2 rfl) (by kernel_rfl) rfl (by simp [Value.oneCell']) ?_; have hs := sl_row (sl_box HS.out (rcs S M) 39) 2 rfl (rcs S M); (try simp only [World.size_alloc] at hs); replace HS := Aside0.mk hs; clear hs)
    | (refine wpList_store_row rfl 42 _ _ rfl _ (#[.int .i64 0, .int .i64 0, .int .i64 0, .int .i64 E]) rfl rfl 42 #[.int .i64 0, .int .i64 0, .int .i64 0, .int .i64 0] (sl_blk HS.out 3 rfl) (by kernel_rfl) rfl (by simp [Value.oneCell']) ?_; have hs := sl_row HS.out 3 rfl (#[.int .i64 0, .int .i64 0, .int .i64 0, .int .i64 E]); (try simp only [World.size_alloc] at hs); replace HS := Aside0.mk hs; clear hs))
  try rw [Exit.noGoto_ret]
  refine bodyPost_ret (results_list (rs := [.cell 4 39, .cell 5 42]) rfl (by simp) (.cell _ 39 (rcs S M) (0, 0) _ rfl (sl_blk HS.out 2 rfl) Try.underlying39 rfl (by kernel_rfl) (.cell _ 42 #[.int .i64 0, .int .i64 0, .int .i64 0, .int .i64 E] (0, 0) _ rfl (sl_blk HS.out 3 rfl) Try.underlying42 rfl (by kernel_rfl) .nil))) rfl ?_
  exact ⟨rfl, sl_below HL.out (sl_below0 HS.out)⟩
theorem want_c {w0 w : World} {L : List Res} (h : SL w0 w L) (s : WSt) {M : Int} (hM : mskI s.b = M) (x : S46) {A B C E N : Int} {S : WSt} (hA : opA s x = A) (hB : opB s x = B) (hC : opC s x = C) (hE : opE s x = E) (hS : opS s x = S) (hN : mskI S.b = N) : Calls Try.prog 15 #[rvS s M, ag46 x] w fun e w' => e = .returned (.tuple #[rvS S N, .agg #[.int .i64 A, .int .i64 B, .int .i64 C, .int .i64 E]]) ∧ SL w0 w' L := by
  subst hN; subst hS; subst hA; subst hB; subst hC; subst hE
  unfold opA opB opC opE opS
  by_cases h0 : x.f0 = 0
  · simp only [if_pos h0, if_neg (show ¬ x.f0 = 1 by omega), if_neg (show ¬ x.f0 = 2 by omega), if_neg (show ¬ x.f0 = 3 by omega), if_neg (show ¬ x.f0 = 4 by omega)]
    rw [(minS_f s x.f2 x.f3).1, hM]
    exact want_0 h s hM x h0
  by_cases h1 : x.f0 = 1
  · simp only [if_pos h1, if_neg (show ¬ x.f0 = 0 by omega), if_neg (show ¬ x.f0 = 2 by omega), if_neg (show ¬ x.f0 = 3 by omega), if_neg (show ¬ x.f0 = 4 by omega)]
    rw [(maxS_f s x.f2 x.f3).1, hM]
    exact want_1 h s hM x h0 h1
  by_cases h2 : x.f0 = 2
  · simp only [if_pos h2, if_neg (show ¬ x.f0 = 0 by omega), if_neg (show ¬ x.f0 = 1 by omega), if_neg (show ¬ x.f0 = 3 by omega), if_neg (show ¬ x.f0 = 4 by omega)]
    exact want_2 h s hM x h0 h1 h2
  by_cases h3 : x.f0 = 3
  · simp only [if_pos h3, if_neg (show ¬ x.f0 = 0 by omega), if_neg (show ¬ x.f0 = 1 by omega), if_neg (show ¬ x.f0 = 2 by omega), if_neg (show ¬ x.f0 = 4 by omega)]
    rw [(rszS_f s x.f1 x.f2 x.f3).1, hM]
    exact want_3 h s hM x h0 h1 h2 h3
  by_cases h4 : x.f0 = 4
  · simp only [if_pos h4, if_neg (show ¬ x.f0 = 0 by omega), if_neg (show ¬ x.f0 = 1 by omega), if_neg (show ¬ x.f0 = 2 by omega), if_neg (show ¬ x.f0 = 3 by omega)]
    rw [hM]
    exact want_4 h s hM x h0 h1 h2 h3 h4
  simp only [if_neg h0, if_neg h1, if_neg h2, if_neg h3, if_neg h4]
  rw [accS_b, hM]
  exact want_5 h s hM x h0 h1 h2 h3 h4

end Go.Proofs.Ytckpgccbhaejgaa.Q

namespace Go.Proofs.Ytckpgccbhaejgaa.Q
open Go.RowKit Go.Proofs.YtckpgccbhaejgaaW.PrintWords Go.Proofs.YtckpgccbhaejgaaW.PrintLast Go.Proofs.YtckpgccbhaejgaaW.PrintMore Go.Proofs.Ytckpgccbhaejgaa.Sl Go.Proofs.Ytckpgccbhaejgaa.Hand 
attribute [local go_sem] max2_int min2_int max_two min_two max_three min_three max_four min_four 
set_option linter.unusedVariables false
set_option linter.unusedSimpArgs false

theorem newr_c {w0 w : World} {L : List Res} (h : SL w0 w L) : Calls Try.prog 14 #[] w fun e w' => e = .returned (rvS wz 0) ∧ SL w0 w' L := by
  refine (compositorref22_New.calls _ _ _ _ _ _ _ _ _ _ _ w rfl).mono ?_
  rintro e w' ⟨rfl, hb⟩
  exact ⟨rfl, sl_below h hb⟩
theorem eqA42 (d : Nat) (w : World) (x0 y0 x1 y1 x2 y2 x3 y3 : Int) : (Op.equalIn (d + 2) 42 (.agg #[.int .i64 x0, .int .i64 x1, .int .i64 x2, .int .i64 x3]) (.agg #[.int .i64 y0, .int .i64 y1, .int .i64 y2, .int .i64 y3])).run Try.prog w = .ok (x0 == y0 && (x1 == y1 && (x2 == y2 && (x3 == y3)))) w := by
  refine eqA_of Try.underlying42 (by kernel_rfl) ?_
  refine eqf_cons (by rfl) (by go_simp; rfl) (by go_simp; rfl) (by go_simp) ?_
  refine eqf_cons (by rfl) (by go_simp; rfl) (by go_simp; rfl) (by go_simp) ?_
  refine eqf_cons (by rfl) (by go_simp; rfl) (by go_simp; rfl) (by go_simp) ?_
  exact eqf_last (by rfl) (by go_simp; rfl) (by go_simp; rfl) (by go_simp)
theorem eqS42 (d : Nat) (w : World) (a b c e : Int) : (Op.equalIn (d + 2) 42 (.agg #[.int .i64 a, .int .i64 b, .int .i64 c, .int .i64 e]) (.agg #[.int .i64 a, .int .i64 b, .int .i64 c, .int .i64 e])).run Try.prog w = .ok true w := by
  rw [eqA42]
  simp
set_option maxHeartbeats 8000000 in
set_option maxRecDepth 100000 in
theorem Runs_law (A : Option Addr) (c : Nat) (l : List S46) (w : World) (hr : Kd.C k46 w A l.length l) (hc : l.length ≤ c) :
    Calls Try.prog 4 #[.slice A l.length c] w fun e w' => e = .returned (.bool true) ∧ Below w.heap.size w w' := by
  have HS := Aside0.mk (sl_start w)
  have HR := Aside0.mk hr
  have hm := hr.2.1
  have HLc := Aside0.mk hc
  obtain ⟨lb, hlb⟩ : ∃ lb, lightB l = lb := ⟨_, rfl⟩
  have HLi := Aside0.mk hlb
  clear hr hc
  cases lb
  · clear hlb
    go_enter Try.func4, Try.ntmps4
    go_wp2_with (first
    | (go_at_call 13; refine (light_c (by repeat (with_reducible first | exact HS.out | apply sl_drewN | apply sl_drew | apply sl_alloc)) HR.out HLc.out HLi.out).mono ?_; rintro e w1 ⟨rfl, hs⟩; (try simp only [World.size_alloc] at hs); replace HS := Aside0.mk hs; clear hs)
    | (go_at_call 8; refine (ex_c (by repeat (with_reducible first | exact HS.out | apply sl_drewN | apply sl_drew | apply sl_alloc))).mono ?_; rintro e w1 ⟨rfl, hs⟩; (try simp only [World.size_alloc] at hs); replace HS := Aside0.mk hs; clear hs))
    go_ret
    exact ⟨rfl, sl_below0 HS.out⟩
  have hl : l.length ≤ 40 := by
    unfold lightB at hlb
    rw [Bool.and_eq_true, decide_eq_true_eq] at hlb
    exact hlb.1
  clear hlb
  have HW := Aside0.mk (show ∀ {w' : World} {L : List Res}, SL w w' L → Calls Try.prog 9 #[] w' fun e w'' => ∃ g : Nat, e = .returned (.pointer (some ⟨g, 0, none⟩)) ∧ SL w w'' (L ++ [winR g wz]) from fun h => New_c h)
  go_enter Try.func4, Try.ntmps4
  go_wp2_with (first
    | (go_at_call 13; refine (light_c (by repeat (with_reducible first | exact HS.out | apply sl_drewN | apply sl_drew | apply sl_box | apply sl_alloc)) HR.out HLc.out HLi.out).mono ?_; rintro e w1 ⟨rfl, hs⟩; (try simp only [World.size_alloc] at hs); replace HS := Aside0.mk hs; clear hs)
    | (go_at_call 9; refine (HW.out (by repeat (with_reducible first | exact HS.out | apply sl_drewN | apply sl_drew | apply sl_box | apply sl_alloc))).mono ?_; rintro e w1 ⟨g, rfl, hs⟩; (try simp only [World.size_alloc] at hs); replace HS := Aside0.mk hs; clear hs)
    | (go_at_call 14; refine (newr_c (by repeat (with_reducible first | exact HS.out | apply sl_drewN | apply sl_drew | apply sl_box | apply sl_alloc))).mono ?_; rintro e w2 ⟨rfl, hs⟩; (try simp only [World.size_alloc] at hs); replace HS := Aside0.mk hs; clear hs))
  obtain ⟨gm, hgm⟩ : ∃ q, w2.heap.size = q := ⟨_, rfl⟩
  have HSS : Aside0 (SL w _ [winR g wz, cellsR gm 39 (rcs wz (mskI wz.b))]) := ⟨by
    have h1 := sl_box HS.out (rcs wz 0) 39
    simp only [hgm] at h1
    exact h1⟩
  try simp only [hgm]
  go_loopg [5] l.length (fun kq v5 wr => ∃ (i : Nat) (s : WSt), v5 = .int .i64 (i : Int) ∧ Aside0 (i + kq = l.length) ∧ Aside0 (SL w wr [winR g s, cellsR gm 39 (rcs s (mskI s.b))]))
  case atStart => exact ⟨0, wz, rfl, ⟨by omega⟩, HSS⟩
  case round =>
    clear HSS HS hgm
    obtain ⟨i, s, rfl, HI, HS⟩ := hrel
    have hi := HI.out
    by_cases hlt : i < l.length
    · have b1 : decide (i < l.length) = true := decide_eq_true hlt
      obtain ⟨kq, rfl⟩ : ∃ m, gk = m + 1 := ⟨gk - 1, by omega⟩
      obtain ⟨ad, rfl, hx⟩ := atO HR.out i hlt
      generalize l[i] = x at hx
      obtain ⟨CA, hA⟩ : ∃ z, opA s x = z := ⟨_, rfl⟩
      obtain ⟨CB, hB⟩ : ∃ z, opB s x = z := ⟨_, rfl⟩
      obtain ⟨CC, hC⟩ : ∃ z, opC s x = z := ⟨_, rfl⟩
      obtain ⟨E, hE⟩ : ∃ z, opE s x = z := ⟨_, rfl⟩
      obtain ⟨S, hS⟩ : ∃ z, opS s x = z := ⟨_, rfl⟩
      have HD := Aside0.mk (And.intro hA (And.intro hB (And.intro hC (And.intro hE hS))))
      obtain ⟨M, hM⟩ : ∃ M, mskI s.b = M := ⟨_, rfl⟩
      obtain ⟨N, hN⟩ : ∃ M, mskI S.b = M := ⟨_, rfl⟩
      have HM := Aside0.mk hM
      have HN := Aside0.mk hN
      rw [hM] at HS
      have HX := Aside0.mk hx
      have p1 : (0 : Int) ≤ (i : Int) := by omega
      have p2 : (i : Int) < (l.length : Int) := by omega
      clear hx hA hB hC hE hS hM hN hlt hi
      go_wp2_with (fail)
      refine start_ (n := 13) (S := fun w' => w'.cell? ⟨gm, 0, none⟩ = some (.int .i64 s.lx) ∧ w'.cell? ⟨gm, 1, none⟩ = some (.int .i64 s.ly) ∧ w'.cell? ⟨gm, 2, none⟩ = some (.int .i64 s.mx) ∧ w'.cell? ⟨gm, 3, none⟩ = some (.int .i64 s.my) ∧ w'.cell? ⟨gm, 4, none⟩ = some (.int .i64 s.gx) ∧ w'.cell? ⟨gm, 5, none⟩ = some (.int .i64 s.gy) ∧ w'.cell? ⟨gm, 6, none⟩ = some (.int .i64 s.fx) ∧ w'.cell? ⟨gm, 7, none⟩ = some (.int .i64 s.fy) ∧ w'.cell? ⟨gm, 8, none⟩ = some (.int .i64 s.sx) ∧ w'.cell? ⟨gm, 9, none⟩ = some (.int .i64 s.sy) ∧ w'.cell? ⟨gm, 10, none⟩ = some (.int .i64 M) ∧ w'.cell? (ad.add (i * 10)) = some (.int .i64 x.f0) ∧ w'.cell? ⟨(ad.add (i * 10)).block, (ad.add (i * 10)).off + 1, none⟩ = some (.int .i64 x.f1) ∧ w'.cell? ⟨(ad.add (i * 10)).block, (ad.add (i * 10)).off + 2, none⟩ = some (.int .i64 x.f2) ∧ w'.cell? ⟨(ad.add (i * 10)).block, (ad.add (i * 10)).off + 3, none⟩ = some (.int .i64 x.f3) ∧ w'.cell? ⟨(ad.add (i * 10)).block, (ad.add (i * 10)).off + 4, none⟩ = some (.bool x.f4) ∧ w'.cell? ⟨(ad.add (i * 10)).block, (ad.add (i * 10)).off + 5, none⟩ = some (.int .i64 x.f5.f0) ∧ w'.cell? ⟨(ad.add (i * 10)).block, (ad.add (i * 10)).off + 6, none⟩ = some (.int .i64 x.f5.f1) ∧ w'.cell? ⟨(ad.add (i * 10)).block, (ad.add (i * 10)).off + 7, none⟩ = some (.int .i64 x.f5.f2) ∧ w'.cell? ⟨(ad.add (i * 10)).block, (ad.add (i * 10)).off + 8, none⟩ = some (.int .i64 x.f5.f3) ∧ w'.cell? ⟨(ad.add (i * 10)).block, (ad.add (i * 10)).off + 9, none⟩ = some (.string x.f6)) (ds := [11, 12]) #[false, false, false, false, false, false, false, false, false, false, false, false, false] (by kernel_rfl) rfl rfl ⟨(c_at (sl_drew HS.out) 1 rfl 0 rfl), (c_at (sl_drew HS.out) 1 rfl 1 rfl), (c_at (sl_drew HS.out) 1 rfl 2 rfl), (c_at (sl_drew HS.out) 1 rfl 3 rfl), (c_at (sl_drew HS.out) 1 rfl 4 rfl), (c_at (sl_drew HS.out) 1 rfl 5 rfl), (c_at (sl_drew HS.out) 1 rfl 6 rfl), (c_at (sl_drew HS.out) 1 rfl 7 rfl), (c_at (sl_drew HS.out) 1 rfl 8 rfl), (c_at (sl_drew HS.out) 1 rfl 9 rfl), (c_at (sl_drew HS.out) 1 rfl 10 rfl), (HX.out _ (sl_below0 (sl_drew HS.out))).1, (HX.out _ (sl_below0 (sl_drew HS.out))).2.1, (HX.out _ (sl_below0 (sl_drew HS.out))).2.2.1, (HX.out _ (sl_below0 (sl_drew HS.out))).2.2.2.1, (HX.out _ (sl_below0 (sl_drew HS.out))).2.2.2.2.1, (HX.out _ (sl_below0 (sl_drew HS.out))).2.2.2.2.2.1, (HX.out _ (sl_below0 (sl_drew HS.out))).2.2.2.2.2.2.1, (HX.out _ (sl_below0 (sl_drew HS.out))).2.2.2.2.2.2.2.1, (HX.out _ (sl_below0 (sl_drew HS.out))).2.2.2.2.2.2.2.2.1, (HX.out _ (sl_below0 (sl_drew HS.out))).2.2.2.2.2.2.2.2.2⟩ (fun hHeld => ?_)
      refine pure_ (i := 1) (N := some 22) (v := ?_) (a' := ?_) #[false, true, false, false, false, false, false, false, false, false, false, false, false] rfl rfl (by kernel_rfl) (fun _ _ _ h => h) (Or.inl ⟨by rfl, ?_⟩) ?_ ?_
      rotate_left
      · intro w'
        go_simp
        with_reducible rfl
      rotate_left
      · simp only [Act.put, List.setIfInBounds_toArray, List.set_cons_zero, List.set_cons_succ, i64_w, i32_w, IntKind.wrap_u32, IntKind.wrap_u8, IntKind.wrap_u16]
        rfl
      refine pure_ (i := 2) (N := some 23) (v := ?_) (a' := ?_) #[false, true, true, false, false, false, false, false, false, false, false, false, false] rfl rfl (by kernel_rfl) (fun _ _ _ h => h) (Or.inl ⟨by rfl, ?_⟩) ?_ ?_
      rotate_left
      · intro w'
        go_simp
        with_reducible rfl
      rotate_left
      · simp only [Act.put, List.setIfInBounds_toArray, List.set_cons_zero, List.set_cons_succ, i64_w, i32_w, IntKind.wrap_u32, IntKind.wrap_u8, IntKind.wrap_u16]
        rfl
      refine pure_ (i := 3) (N := some 24) (v := ?_) (a' := ?_) #[false, true, true, true, false, false, false, false, false, false, false, false, false] rfl rfl (by kernel_rfl) (fun _ _ _ h => h) (Or.inl ⟨by rfl, ?_⟩) ?_ ?_
      rotate_left
      · intro w'
        go_simp
        with_reducible rfl
      rotate_left
      · simp only [Act.put, List.setIfInBounds_toArray, List.set_cons_zero, List.set_cons_succ, i64_w, i32_w, IntKind.wrap_u32, IntKind.wrap_u8, IntKind.wrap_u16]
        rfl
      refine take_ (i := 0) (N := some 21) (v := ?_) (a' := ?_) #[true, true, true, true, false, false, false, false, false, false, false, false, false] rfl rfl (by kernel_rfl) (fun _ _ _ h => h) (Or.inl ⟨by rfl, ?_⟩) hHeld ?_ ?_
      rotate_left
      · rintro w' ⟨s0, s1, s2, s3, s4, s5, s6, s7, s8, s9, s10, s11, s12, s13, s14, s15, s16, s17, s18, s19, s20⟩
        go_simp
        with_reducible rfl
      rotate_left
      · simp only [Act.put, List.setIfInBounds_toArray, List.set_cons_zero, List.set_cons_succ, i64_w, i32_w, IntKind.wrap_u32, IntKind.wrap_u8, IntKind.wrap_u16]
        rfl
      refine take_ (i := 4) (N := some 25) (v := ?_) (a' := ?_) #[true, true, true, true, true, false, false, false, false, false, false, false, false] rfl rfl (by kernel_rfl) (fun _ _ _ h => h) (Or.inl ⟨by rfl, ?_⟩) hHeld ?_ ?_
      rotate_left
      · rintro w' ⟨s0, s1, s2, s3, s4, s5, s6, s7, s8, s9, s10, s11, s12, s13, s14, s15, s16, s17, s18, s19, s20⟩
        go_simp
        with_reducible rfl
      rotate_left
      · simp only [Act.put, List.setIfInBounds_toArray, List.set_cons_zero, List.set_cons_succ, i64_w, i32_w, IntKind.wrap_u32, IntKind.wrap_u8, IntKind.wrap_u16]
        rfl
      refine join_ (σ := Nat × Nat) 2 #[true, true, true, true, true, true, true, true, true, true, true, false, false] (fun s_ => [(26, (Value.tuple #[rvS S N, .agg #[.int .i64 CA, .int .i64 CB, .int .i64 CC, .int .i64 E]])), (20, (Value.tuple #[rvS S N, .agg #[.int .i64 CA, .int .i64 CB, .int .i64 CC, .int .i64 E]])), (27, (rvS S N)), (28, (Value.agg #[.int .i64 CA, .int .i64 CB, .int .i64 CC, .int .i64 E])), (6, (Value.pointer (some ⟨s_.1, 0, none⟩))), (7, (Value.pointer (some ⟨s_.2, 0, none⟩)))]) (fun s_ w' => SL w w' [winR g s, cellsR gm 39 (rcs s M), cellsR s_.1 39 rcz, cellsR s_.2 42 #[.int .i64 0, .int .i64 0, .int .i64 0, .int .i64 0]]) ?_ ?_
      rotate_left
      · intro hCont
        refine three_ (i := 5) (j := 9) (k := 10) (Ni := some 26) (Nj := some 6) (Nk := some 7) #[true, true, true, true, true, true, false, false, false, false, false, false, false] #[true, true, true, true, true, false, false, false, false, true, false, false, false] #[true, true, true, true, true, false, false, false, false, false, true, false, false] rfl rfl rfl rfl rfl rfl (by kernel_rfl) (by decide) (by decide) (by decide) (fun K hK => ?_) (fun K hK => ?_) (fun K hK => ?_)
        · skip
          refine goes_ Try.func15 (by kernel_rfl) rfl #[rvS s M, ag46 x] (by rfl) rfl rfl (by (try simp only [List.map_toArray, List.map_cons, List.map_nil]); first | done | rfl) ?_
          with_reducible refine (want_c (sl_drew HS.out) s HM.out x HD.out.1 HD.out.2.1 HD.out.2.2.1 HD.out.2.2.2.1 HD.out.2.2.2.2 HN.out).mono ?_
          rintro e wd1 ⟨rfl, hsd1⟩
          refine ⟨_, rfl, ?_⟩
          refine hK.out _ _ ⟨(c_at hsd1 1 rfl 0 rfl), (c_at hsd1 1 rfl 1 rfl), (c_at hsd1 1 rfl 2 rfl), (c_at hsd1 1 rfl 3 rfl), (c_at hsd1 1 rfl 4 rfl), (c_at hsd1 1 rfl 5 rfl), (c_at hsd1 1 rfl 6 rfl), (c_at hsd1 1 rfl 7 rfl), (c_at hsd1 1 rfl 8 rfl), (c_at hsd1 1 rfl 9 rfl), (c_at hsd1 1 rfl 10 rfl), (HX.out _ (sl_below0 hsd1)).1, (HX.out _ (sl_below0 hsd1)).2.1, (HX.out _ (sl_below0 hsd1)).2.2.1, (HX.out _ (sl_below0 hsd1)).2.2.2.1, (HX.out _ (sl_below0 hsd1)).2.2.2.2.1, (HX.out _ (sl_below0 hsd1)).2.2.2.2.2.1, (HX.out _ (sl_below0 hsd1)).2.2.2.2.2.2.1, (HX.out _ (sl_below0 hsd1)).2.2.2.2.2.2.2.1, (HX.out _ (sl_below0 hsd1)).2.2.2.2.2.2.2.2.1, (HX.out _ (sl_below0 hsd1)).2.2.2.2.2.2.2.2.2⟩ (fun hHeld => ?_)
          clear hK K
          refine norm_ (a' := ?_) ?_ ?_
          rotate_left
          · show Act.put _ (some 26) _ = _
            simp only [Act.put, List.setIfInBounds_toArray, List.set_cons_zero, List.set_cons_succ, i64_w, i32_w, IntKind.wrap_u32, IntKind.wrap_u8, IntKind.wrap_u16]
            rfl
          refine pure_ (i := 6) (N := some 20) (v := ?_) (a' := ?_) #[true, true, true, true, true, true, true, false, false, false, false, false, false] rfl rfl (by kernel_rfl) (fun _ _ _ h => h) (Or.inl ⟨by rfl, ?_⟩) ?_ ?_
          rotate_left
          · intro w'
            go_simp
            with_reducible rfl
          rotate_left
          · simp only [Act.put, List.setIfInBounds_toArray, List.set_cons_zero, List.set_cons_succ, i64_w, i32_w, IntKind.wrap_u32, IntKind.wrap_u8, IntKind.wrap_u16]
            rfl
          refine pure_ (i := 7) (N := some 27) (v := ?_) (a' := ?_) #[true, true, true, true, true, true, true, true, false, false, false, false, false] rfl rfl (by kernel_rfl) (fun _ _ _ h => h) (Or.inl ⟨by rfl, ?_⟩) ?_ ?_
          rotate_left
          · intro w'
            go_simp
            with_reducible rfl
          rotate_left
          · simp only [Act.put, List.setIfInBounds_toArray, List.set_cons_zero, List.set_cons_succ, i64_w, i32_w, IntKind.wrap_u32, IntKind.wrap_u8, IntKind.wrap_u16]
            rfl
          refine pure_ (i := 8) (N := some 28) (v := ?_) (a' := ?_) #[true, true, true, true, true, true, true, true, true, false, false, false, false] rfl rfl (by kernel_rfl) (fun _ _ _ h => h) (Or.inl ⟨by rfl, ?_⟩) ?_ ?_
          rotate_left
          · intro w'
            go_simp
            with_reducible rfl
          rotate_left
          · simp only [Act.put, List.setIfInBounds_toArray, List.set_cons_zero, List.set_cons_succ, i64_w, i32_w, IntKind.wrap_u32, IntKind.wrap_u8, IntKind.wrap_u16]
            rfl
          refine two_ (i := 9) (j := 10) (Ni := some 6) (Nj := some 7) #[true, true, true, true, true, true, true, true, true, true, false, false, false] #[true, true, true, true, true, true, true, true, true, false, true, false, false] rfl rfl rfl rfl (by kernel_rfl) (by decide) (by decide) (fun K hK => ?_) (fun K hK => ?_)
          · skip
            refine box_step ?hg (N := 6) ?hd (cs := rcz) (t := 39) ?hr ?_; (case hd => rfl); (case hg => rfl); (case hr => first | (go_simp; done) | (go_simp; rfl))
            intro g9 hgg9 wd2 hbox hb
            have hsd2 := sl_box' hsd1 hb (Nat.le_of_eq hgg9.symm) hbox
            clear hbox hb hgg9
            refine hK.out _ _ ⟨(c_at hsd2 1 rfl 0 rfl), (c_at hsd2 1 rfl 1 rfl), (c_at hsd2 1 rfl 2 rfl), (c_at hsd2 1 rfl 3 rfl), (c_at hsd2 1 rfl 4 rfl), (c_at hsd2 1 rfl 5 rfl), (c_at hsd2 1 rfl 6 rfl), (c_at hsd2 1 rfl 7 rfl), (c_at hsd2 1 rfl 8 rfl), (c_at hsd2 1 rfl 9 rfl), (c_at hsd2 1 rfl 10 rfl), (HX.out _ (sl_below0 hsd2)).1, (HX.out _ (sl_below0 hsd2)).2.1, (HX.out _ (sl_below0 hsd2)).2.2.1, (HX.out _ (sl_below0 hsd2)).2.2.2.1, (HX.out _ (sl_below0 hsd2)).2.2.2.2.1, (HX.out _ (sl_below0 hsd2)).2.2.2.2.2.1, (HX.out _ (sl_below0 hsd2)).2.2.2.2.2.2.1, (HX.out _ (sl_below0 hsd2)).2.2.2.2.2.2.2.1, (HX.out _ (sl_below0 hsd2)).2.2.2.2.2.2.2.2.1, (HX.out _ (sl_below0 hsd2)).2.2.2.2.2.2.2.2.2⟩ (fun hHeld => ?_)
            clear hK K
            refine norm_ (a' := ?_) ?_ ?_
            rotate_left
            · show Act.put _ (some 6) _ = _
              simp only [Act.put, List.setIfInBounds_toArray, List.set_cons_zero, List.set_cons_succ, i64_w, i32_w, IntKind.wrap_u32, IntKind.wrap_u8, IntKind.wrap_u16]
              rfl
            refine one_ (i := 10) (N := some 7) #[true, true, true, true, true, true, true, true, true, true, true, false, false] rfl rfl (by kernel_rfl) (by decide) (fun K hK => ?_)
            refine box_step ?hg (N := 7) ?hd (cs := #[.int .i64 0, .int .i64 0, .int .i64 0, .int .i64 0]) (t := 42) ?hr ?_; (case hd => rfl); (case hg => rfl); (case hr => first | (go_simp; done) | (go_simp; rfl))
            intro g10 hgg10 wd3 hbox hb
            have hsd3 := sl_box' hsd2 hb (Nat.le_of_eq hgg10.symm) hbox
            clear hbox hb hgg10
            refine hK.out _ _ ⟨(c_at hsd3 1 rfl 0 rfl), (c_at hsd3 1 rfl 1 rfl), (c_at hsd3 1 rfl 2 rfl), (c_at hsd3 1 rfl 3 rfl), (c_at hsd3 1 rfl 4 rfl), (c_at hsd3 1 rfl 5 rfl), (c_at hsd3 1 rfl 6 rfl), (c_at hsd3 1 rfl 7 rfl), (c_at hsd3 1 rfl 8 rfl), (c_at hsd3 1 rfl 9 rfl), (c_at hsd3 1 rfl 10 rfl), (HX.out _ (sl_below0 hsd3)).1, (HX.out _ (sl_below0 hsd3)).2.1, (HX.out _ (sl_below0 hsd3)).2.2.1, (HX.out _ (sl_below0 hsd3)).2.2.2.1, (HX.out _ (sl_below0 hsd3)).2.2.2.2.1, (HX.out _ (sl_below0 hsd3)).2.2.2.2.2.1, (HX.out _ (sl_below0 hsd3)).2.2.2.2.2.2.1, (HX.out _ (sl_below0 hsd3)).2.2.2.2.2.2.2.1, (HX.out _ (sl_below0 hsd3)).2.2.2.2.2.2.2.2.1, (HX.out _ (sl_below0 hsd3)).2.2.2.2.2.2.2.2.2⟩ (fun hHeld => ?_)
            clear hK K
            refine norm_ (a' := ?_) ?_ ?_
            rotate_left
            · show Act.put _ (some 7) _ = _
              simp only [Act.put, List.setIfInBounds_toArray, List.set_cons_zero, List.set_cons_succ, i64_w, i32_w, IntKind.wrap_u32, IntKind.wrap_u8, IntKind.wrap_u16]
              rfl
            exact norm_ (by simp only [putAll, Act.put, List.setIfInBounds_toArray, List.set_cons_zero, List.set_cons_succ]) (hCont (g9, g10) _ (sl_pick hsd3 [0, 1, 2, 3] (by decide) rfl))
          · skip
            refine box_step ?hg (N := 7) ?hd (cs := #[.int .i64 0, .int .i64 0, .int .i64 0, .int .i64 0]) (t := 42) ?hr ?_; (case hd => rfl); (case hg => rfl); (case hr => first | (go_simp; done) | (go_simp; rfl))
            intro g10 hgg10 wd2 hbox hb
            have hsd2 := sl_box' hsd1 hb (Nat.le_of_eq hgg10.symm) hbox
            clear hbox hb hgg10
            refine hK.out _ _ ⟨(c_at hsd2 1 rfl 0 rfl), (c_at hsd2 1 rfl 1 rfl), (c_at hsd2 1 rfl 2 rfl), (c_at hsd2 1 rfl 3 rfl), (c_at hsd2 1 rfl 4 rfl), (c_at hsd2 1 rfl 5 rfl), (c_at hsd2 1 rfl 6 rfl), (c_at hsd2 1 rfl 7 rfl), (c_at hsd2 1 rfl 8 rfl), (c_at hsd2 1 rfl 9 rfl), (c_at hsd2 1 rfl 10 rfl), (HX.out _ (sl_below0 hsd2)).1, (HX.out _ (sl_below0 hsd2)).2.1, (HX.out _ (sl_below0 hsd2)).2.2.1, (HX.out _ (sl_below0 hsd2)).2.2.2.1, (HX.out _ (sl_below0 hsd2)).2.2.2.2.1, (HX.out _ (sl_below0 hsd2)).2.2.2.2.2.1, (HX.out _ (sl_below0 hsd2)).2.2.2.2.2.2.1, (HX.out _ (sl_below0 hsd2)).2.2.2.2.2.2.2.1, (HX.out _ (sl_below0 hsd2)).2.2.2.2.2.2.2.2.1, (HX.out _ (sl_below0 hsd2)).2.2.2.2.2.2.2.2.2⟩ (fun hHeld => ?_)
            clear hK K
            refine norm_ (a' := ?_) ?_ ?_
            rotate_left
            · show Act.put _ (some 7) _ = _
              simp only [Act.put, List.setIfInBounds_toArray, List.set_cons_zero, List.set_cons_succ, i64_w, i32_w, IntKind.wrap_u32, IntKind.wrap_u8, IntKind.wrap_u16]
              rfl
            refine one_ (i := 9) (N := some 6) #[true, true, true, true, true, true, true, true, true, true, true, false, false] rfl rfl (by kernel_rfl) (by decide) (fun K hK => ?_)
            refine box_step ?hg (N := 6) ?hd (cs := rcz) (t := 39) ?hr ?_; (case hd => rfl); (case hg => rfl); (case hr => first | (go_simp; done) | (go_simp; rfl))
            intro g9 hgg9 wd3 hbox hb
            have hsd3 := sl_box' hsd2 hb (Nat.le_of_eq hgg9.symm) hbox
            clear hbox hb hgg9
            refine hK.out _ _ ⟨(c_at hsd3 1 rfl 0 rfl), (c_at hsd3 1 rfl 1 rfl), (c_at hsd3 1 rfl 2 rfl), (c_at hsd3 1 rfl 3 rfl), (c_at hsd3 1 rfl 4 rfl), (c_at hsd3 1 rfl 5 rfl), (c_at hsd3 1 rfl 6 rfl), (c_at hsd3 1 rfl 7 rfl), (c_at hsd3 1 rfl 8 rfl), (c_at hsd3 1 rfl 9 rfl), (c_at hsd3 1 rfl 10 rfl), (HX.out _ (sl_below0 hsd3)).1, (HX.out _ (sl_below0 hsd3)).2.1, (HX.out _ (sl_below0 hsd3)).2.2.1, (HX.out _ (sl_below0 hsd3)).2.2.2.1, (HX.out _ (sl_below0 hsd3)).2.2.2.2.1, (HX.out _ (sl_below0 hsd3)).2.2.2.2.2.1, (HX.out _ (sl_below0 hsd3)).2.2.2.2.2.2.1, (HX.out _ (sl_below0 hsd3)).2.2.2.2.2.2.2.1, (HX.out _ (sl_below0 hsd3)).2.2.2.2.2.2.2.2.1, (HX.out _ (sl_below0 hsd3)).2.2.2.2.2.2.2.2.2⟩ (fun hHeld => ?_)
            clear hK K
            refine norm_ (a' := ?_) ?_ ?_
            rotate_left
            · show Act.put _ (some 6) _ = _
              simp only [Act.put, List.setIfInBounds_toArray, List.set_cons_zero, List.set_cons_succ, i64_w, i32_w, IntKind.wrap_u32, IntKind.wrap_u8, IntKind.wrap_u16]
              rfl
            exact norm_ (by simp only [putAll, Act.put, List.setIfInBounds_toArray, List.set_cons_zero, List.set_cons_succ]) (hCont (g9, g10) _ (sl_pick hsd3 [0, 1, 3, 2] (by decide) rfl))
        · skip
          refine box_step ?hg (N := 6) ?hd (cs := rcz) (t := 39) ?hr ?_; (case hd => rfl); (case hg => rfl); (case hr => first | (go_simp; done) | (go_simp; rfl))
          intro g9 hgg9 wd1 hbox hb
          have hsd1 := sl_box' (sl_drew HS.out) hb (Nat.le_of_eq hgg9.symm) hbox
          clear hbox hb hgg9
          refine hK.out _ _ ⟨(c_at hsd1 1 rfl 0 rfl), (c_at hsd1 1 rfl 1 rfl), (c_at hsd1 1 rfl 2 rfl), (c_at hsd1 1 rfl 3 rfl), (c_at hsd1 1 rfl 4 rfl), (c_at hsd1 1 rfl 5 rfl), (c_at hsd1 1 rfl 6 rfl), (c_at hsd1 1 rfl 7 rfl), (c_at hsd1 1 rfl 8 rfl), (c_at hsd1 1 rfl 9 rfl), (c_at hsd1 1 rfl 10 rfl), (HX.out _ (sl_below0 hsd1)).1, (HX.out _ (sl_below0 hsd1)).2.1, (HX.out _ (sl_below0 hsd1)).2.2.1, (HX.out _ (sl_below0 hsd1)).2.2.2.1, (HX.out _ (sl_below0 hsd1)).2.2.2.2.1, (HX.out _ (sl_below0 hsd1)).2.2.2.2.2.1, (HX.out _ (sl_below0 hsd1)).2.2.2.2.2.2.1, (HX.out _ (sl_below0 hsd1)).2.2.2.2.2.2.2.1, (HX.out _ (sl_below0 hsd1)).2.2.2.2.2.2.2.2.1, (HX.out _ (sl_below0 hsd1)).2.2.2.2.2.2.2.2.2⟩ (fun hHeld => ?_)
          clear hK K
          refine norm_ (a' := ?_) ?_ ?_
          rotate_left
          · show Act.put _ (some 6) _ = _
            simp only [Act.put, List.setIfInBounds_toArray, List.set_cons_zero, List.set_cons_succ, i64_w, i32_w, IntKind.wrap_u32, IntKind.wrap_u8, IntKind.wrap_u16]
            rfl
          refine two_ (i := 5) (j := 10) (Ni := some 26) (Nj := some 7) #[true, true, true, true, true, true, false, false, false, true, false, false, false] #[true, true, true, true, true, false, false, false, false, true, true, false, false] rfl rfl rfl rfl (by kernel_rfl) (by decide) (by decide) (fun K hK => ?_) (fun K hK => ?_)
          · skip
            refine goes_ Try.func15 (by kernel_rfl) rfl #[rvS s M, ag46 x] (by rfl) rfl rfl (by (try simp only [List.map_toArray, List.map_cons, List.map_nil]); first | done | rfl) ?_
            with_reducible refine (want_c hsd1 s HM.out x HD.out.1 HD.out.2.1 HD.out.2.2.1 HD.out.2.2.2.1 HD.out.2.2.2.2 HN.out).mono ?_
            rintro e wd2 ⟨rfl, hsd2⟩
            refine ⟨_, rfl, ?_⟩
            refine hK.out _ _ ⟨(c_at hsd2 1 rfl 0 rfl), (c_at hsd2 1 rfl 1 rfl), (c_at hsd2 1 rfl 2 rfl), (c_at hsd2 1 rfl 3 rfl), (c_at hsd2 1 rfl 4 rfl), (c_at hsd2 1 rfl 5 rfl), (c_at hsd2 1 rfl 6 rfl), (c_at hsd2 1 rfl 7 rfl), (c_at hsd2 1 rfl 8 rfl), (c_at hsd2 1 rfl 9 rfl), (c_at hsd2 1 rfl 10 rfl), (HX.out _ (sl_below0 hsd2)).1, (HX.out _ (sl_below0 hsd2)).2.1, (HX.out _ (sl_below0 hsd2)).2.2.1, (HX.out _ (sl_below0 hsd2)).2.2.2.1, (HX.out _ (sl_below0 hsd2)).2.2.2.2.1, (HX.out _ (sl_below0 hsd2)).2.2.2.2.2.1, (HX.out _ (sl_below0 hsd2)).2.2.2.2.2.2.1, (HX.out _ (sl_below0 hsd2)).2.2.2.2.2.2.2.1, (HX.out _ (sl_below0 hsd2)).2.2.2.2.2.2.2.2.1, (HX.out _ (sl_below0 hsd2)).2.2.2.2.2.2.2.2.2⟩ (fun hHeld => ?_)
            clear hK K
            refine norm_ (a' := ?_) ?_ ?_
            rotate_left
            · show Act.put _ (some 26) _ = _
              simp only [Act.put, List.setIfInBounds_toArray, List.set_cons_zero, List.set_cons_succ, i64_w, i32_w, IntKind.wrap_u32, IntKind.wrap_u8, IntKind.wrap_u16]
              rfl
            refine pure_ (i := 6) (N := some 20) (v := ?_) (a' := ?_) #[true, true, true, true, true, true, true, false, false, true, false, false, false] rfl rfl (by kernel_rfl) (fun _ _ _ h => h) (Or.inl ⟨by rfl, ?_⟩) ?_ ?_
            rotate_left
            · intro w'
              go_simp
              with_reducible rfl
            rotate_left
            · simp only [Act.put, List.setIfInBounds_toArray, List.set_cons_zero, List.set_cons_succ, i64_w, i32_w, IntKind.wrap_u32, IntKind.wrap_u8, IntKind.wrap_u16]
              rfl
            refine pure_ (i := 7) (N := some 27) (v := ?_) (a' := ?_) #[true, true, true, true, true, true, true, true, false, true, false, false, false] rfl rfl (by kernel_rfl) (fun _ _ _ h => h) (Or.inl ⟨by rfl, ?_⟩) ?_ ?_
            rotate_left
            · intro w'
              go_simp
              with_reducible rfl
            rotate_left
            · simp only [Act.put, List.setIfInBounds_toArray, List.set_cons_zero, List.set_cons_succ, i64_w, i32_w, IntKind.wrap_u32, IntKind.wrap_u8, IntKind.wrap_u16]
              rfl
            refine pure_ (i := 8) (N := some 28) (v := ?_) (a' := ?_) #[true, true, true, true, true, true, true, true, true, true, false, false, false] rfl rfl (by kernel_rfl) (fun _ _ _ h => h) (Or.inl ⟨by rfl, ?_⟩) ?_ ?_
            rotate_left
            · intro w'
              go_simp
              with_reducible rfl
            rotate_left
            · simp only [Act.put, List.setIfInBounds_toArray, List.set_cons_zero, List.set_cons_succ, i64_w, i32_w, IntKind.wrap_u32, IntKind.wrap_u8, IntKind.wrap_u16]
              rfl
            refine one_ (i := 10) (N := some 7) #[true, true, true, true, true, true, true, true, true, true, true, false, false] rfl rfl (by kernel_rfl) (by decide) (fun K hK => ?_)
            refine box_step ?hg (N := 7) ?hd (cs := #[.int .i64 0, .int .i64 0, .int .i64 0, .int .i64 0]) (t := 42) ?hr ?_; (case hd => rfl); (case hg => rfl); (case hr => first | (go_simp; done) | (go_simp; rfl))
            intro g10 hgg10 wd3 hbox hb
            have hsd3 := sl_box' hsd2 hb (Nat.le_of_eq hgg10.symm) hbox
            clear hbox hb hgg10
            refine hK.out _ _ ⟨(c_at hsd3 1 rfl 0 rfl), (c_at hsd3 1 rfl 1 rfl), (c_at hsd3 1 rfl 2 rfl), (c_at hsd3 1 rfl 3 rfl), (c_at hsd3 1 rfl 4 rfl), (c_at hsd3 1 rfl 5 rfl), (c_at hsd3 1 rfl 6 rfl), (c_at hsd3 1 rfl 7 rfl), (c_at hsd3 1 rfl 8 rfl), (c_at hsd3 1 rfl 9 rfl), (c_at hsd3 1 rfl 10 rfl), (HX.out _ (sl_below0 hsd3)).1, (HX.out _ (sl_below0 hsd3)).2.1, (HX.out _ (sl_below0 hsd3)).2.2.1, (HX.out _ (sl_below0 hsd3)).2.2.2.1, (HX.out _ (sl_below0 hsd3)).2.2.2.2.1, (HX.out _ (sl_below0 hsd3)).2.2.2.2.2.1, (HX.out _ (sl_below0 hsd3)).2.2.2.2.2.2.1, (HX.out _ (sl_below0 hsd3)).2.2.2.2.2.2.2.1, (HX.out _ (sl_below0 hsd3)).2.2.2.2.2.2.2.2.1, (HX.out _ (sl_below0 hsd3)).2.2.2.2.2.2.2.2.2⟩ (fun hHeld => ?_)
            clear hK K
            refine norm_ (a' := ?_) ?_ ?_
            rotate_left
            · show Act.put _ (some 7) _ = _
              simp only [Act.put, List.setIfInBounds_toArray, List.set_cons_zero, List.set_cons_succ, i64_w, i32_w, IntKind.wrap_u32, IntKind.wrap_u8, IntKind.wrap_u16]
              rfl
            exact norm_ (by simp only [putAll, Act.put, List.setIfInBounds_toArray, List.set_cons_zero, List.set_cons_succ]) (hCont (g9, g10) _ (sl_pick hsd3 [0, 1, 2, 3] (by decide) rfl))
          · skip
            refine box_step ?hg (N := 7) ?hd (cs := #[.int .i64 0, .int .i64 0, .int .i64 0, .int .i64 0]) (t := 42) ?hr ?_; (case hd => rfl); (case hg => rfl); (case hr => first | (go_simp; done) | (go_simp; rfl))
            intro g10 hgg10 wd2 hbox hb
            have hsd2 := sl_box' hsd1 hb (Nat.le_of_eq hgg10.symm) hbox
            clear hbox hb hgg10
            refine hK.out _ _ ⟨(c_at hsd2 1 rfl 0 rfl), (c_at hsd2 1 rfl 1 rfl), (c_at hsd2 1 rfl 2 rfl), (c_at hsd2 1 rfl 3 rfl), (c_at hsd2 1 rfl 4 rfl), (c_at hsd2 1 rfl 5 rfl), (c_at hsd2 1 rfl 6 rfl), (c_at hsd2 1 rfl 7 rfl), (c_at hsd2 1 rfl 8 rfl), (c_at hsd2 1 rfl 9 rfl), (c_at hsd2 1 rfl 10 rfl), (HX.out _ (sl_below0 hsd2)).1, (HX.out _ (sl_below0 hsd2)).2.1, (HX.out _ (sl_below0 hsd2)).2.2.1, (HX.out _ (sl_below0 hsd2)).2.2.2.1, (HX.out _ (sl_below0 hsd2)).2.2.2.2.1, (HX.out _ (sl_below0 hsd2)).2.2.2.2.2.1, (HX.out _ (sl_below0 hsd2)).2.2.2.2.2.2.1, (HX.out _ (sl_below0 hsd2)).2.2.2.2.2.2.2.1, (HX.out _ (sl_below0 hsd2)).2.2.2.2.2.2.2.2.1, (HX.out _ (sl_below0 hsd2)).2.2.2.2.2.2.2.2.2⟩ (fun hHeld => ?_)
            clear hK K
            refine norm_ (a' := ?_) ?_ ?_
            rotate_left
            · show Act.put _ (some 7) _ = _
              simp only [Act.put, List.setIfInBounds_toArray, List.set_cons_zero, List.set_cons_succ, i64_w, i32_w, IntKind.wrap_u32, IntKind.wrap_u8, IntKind.wrap_u16]
              rfl
            refine one_ (i := 5) (N := some 26) #[true, true, true, true, true, true, false, false, false, true, true, false, false] rfl rfl (by kernel_rfl) (by decide) (fun K hK => ?_)
            refine goes_ Try.func15 (by kernel_rfl) rfl #[rvS s M, ag46 x] (by rfl) rfl rfl (by (try simp only [List.map_toArray, List.map_cons, List.map_nil]); first | done | rfl) ?_
            with_reducible refine (want_c hsd2 s HM.out x HD.out.1 HD.out.2.1 HD.out.2.2.1 HD.out.2.2.2.1 HD.out.2.2.2.2 HN.out).mono ?_
            rintro e wd3 ⟨rfl, hsd3⟩
            refine ⟨_, rfl, ?_⟩
            refine hK.out _ _ ⟨(c_at hsd3 1 rfl 0 rfl), (c_at hsd3 1 rfl 1 rfl), (c_at hsd3 1 rfl 2 rfl), (c_at hsd3 1 rfl 3 rfl), (c_at hsd3 1 rfl 4 rfl), (c_at hsd3 1 rfl 5 rfl), (c_at hsd3 1 rfl 6 rfl), (c_at hsd3 1 rfl 7 rfl), (c_at hsd3 1 rfl 8 rfl), (c_at hsd3 1 rfl 9 rfl), (c_at hsd3 1 rfl 10 rfl), (HX.out _ (sl_below0 hsd3)).1, (HX.out _ (sl_below0 hsd3)).2.1, (HX.out _ (sl_below0 hsd3)).2.2.1, (HX.out _ (sl_below0 hsd3)).2.2.2.1, (HX.out _ (sl_below0 hsd3)).2.2.2.2.1, (HX.out _ (sl_below0 hsd3)).2.2.2.2.2.1, (HX.out _ (sl_below0 hsd3)).2.2.2.2.2.2.1, (HX.out _ (sl_below0 hsd3)).2.2.2.2.2.2.2.1, (HX.out _ (sl_below0 hsd3)).2.2.2.2.2.2.2.2.1, (HX.out _ (sl_below0 hsd3)).2.2.2.2.2.2.2.2.2⟩ (fun hHeld => ?_)
            clear hK K
            refine norm_ (a' := ?_) ?_ ?_
            rotate_left
            · show Act.put _ (some 26) _ = _
              simp only [Act.put, List.setIfInBounds_toArray, List.set_cons_zero, List.set_cons_succ, i64_w, i32_w, IntKind.wrap_u32, IntKind.wrap_u8, IntKind.wrap_u16]
              rfl
            refine pure_ (i := 6) (N := some 20) (v := ?_) (a' := ?_) #[true, true, true, true, true, true, true, false, false, true, true, false, false] rfl rfl (by kernel_rfl) (fun _ _ _ h => h) (Or.inl ⟨by rfl, ?_⟩) ?_ ?_
            rotate_left
            · intro w'
              go_simp
              with_reducible rfl
            rotate_left
            · simp only [Act.put, List.setIfInBounds_toArray, List.set_cons_zero, List.set_cons_succ, i64_w, i32_w, IntKind.wrap_u32, IntKind.wrap_u8, IntKind.wrap_u16]
              rfl
            refine pure_ (i := 7) (N := some 27) (v := ?_) (a' := ?_) #[true, true, true, true, true, true, true, true, false, true, true, false, false] rfl rfl (by kernel_rfl) (fun _ _ _ h => h) (Or.inl ⟨by rfl, ?_⟩) ?_ ?_
            rotate_left
            · intro w'
              go_simp
              with_reducible rfl
            rotate_left
            · simp only [Act.put, List.setIfInBounds_toArray, List.set_cons_zero, List.set_cons_succ, i64_w, i32_w, IntKind.wrap_u32, IntKind.wrap_u8, IntKind.wrap_u16]
              rfl
            refine pure_ (i := 8) (N := some 28) (v := ?_) (a' := ?_) #[true, true, true, true, true, true, true, true, true, true, true, false, false] rfl rfl (by kernel_rfl) (fun _ _ _ h => h) (Or.inl ⟨by rfl, ?_⟩) ?_ ?_
            rotate_left
            · intro w'
              go_simp
              with_reducible rfl
            rotate_left
            · simp only [Act.put, List.setIfInBounds_toArray, List.set_cons_zero, List.set_cons_succ, i64_w, i32_w, IntKind.wrap_u32, IntKind.wrap_u8, IntKind.wrap_u16]
              rfl
            exact norm_ (by simp only [putAll, Act.put, List.setIfInBounds_toArray, List.set_cons_zero, List.set_cons_succ]) (hCont (g9, g10) _ (sl_pick hsd3 [0, 1, 2, 3] (by decide) rfl))
        · skip
          refine box_step ?hg (N := 7) ?hd (cs := #[.int .i64 0, .int .i64 0, .int .i64 0, .int .i64 0]) (t := 42) ?hr ?_; (case hd => rfl); (case hg => rfl); (case hr => first | (go_simp; done) | (go_simp; rfl))
          intro g10 hgg10 wd1 hbox hb
          have hsd1 := sl_box' (sl_drew HS.out) hb (Nat.le_of_eq hgg10.symm) hbox
          clear hbox hb hgg10
          refine hK.out _ _ ⟨(c_at hsd1 1 rfl 0 rfl), (c_at hsd1 1 rfl 1 rfl), (c_at hsd1 1 rfl 2 rfl), (c_at hsd1 1 rfl 3 rfl), (c_at hsd1 1 rfl 4 rfl), (c_at hsd1 1 rfl 5 rfl), (c_at hsd1 1 rfl 6 rfl), (c_at hsd1 1 rfl 7 rfl), (c_at hsd1 1 rfl 8 rfl), (c_at hsd1 1 rfl 9 rfl), (c_at hsd1 1 rfl 10 rfl), (HX.out _ (sl_below0 hsd1)).1, (HX.out _ (sl_below0 hsd1)).2.1, (HX.out _ (sl_below0 hsd1)).2.2.1, (HX.out _ (sl_below0 hsd1)).2.2.2.1, (HX.out _ (sl_below0 hsd1)).2.2.2.2.1, (HX.out _ (sl_below0 hsd1)).2.2.2.2.2.1, (HX.out _ (sl_below0 hsd1)).2.2.2.2.2.2.1, (HX.out _ (sl_below0 hsd1)).2.2.2.2.2.2.2.1, (HX.out _ (sl_below0 hsd1)).2.2.2.2.2.2.2.2.1, (HX.out _ (sl_below0 hsd1)).2.2.2.2.2.2.2.2.2⟩ (fun hHeld => ?_)
          clear hK K
          refine norm_ (a' := ?_) ?_ ?_
          rotate_left
          · show Act.put _ (some 7) _ = _
            simp only [Act.put, List.setIfInBounds_toArray, List.set_cons_zero, List.set_cons_succ, i64_w, i32_w, IntKind.wrap_u32, IntKind.wrap_u8, IntKind.wrap_u16]
            rfl
          refine two_ (i := 5) (j := 9) (Ni := some 26) (Nj := some 6) #[true, true, true, true, true, true, false, false, false, false, true, false, false] #[true, true, true, true, true, false, false, false, false, true, true, false, false] rfl rfl rfl rfl (by kernel_rfl) (by decide) (by decide) (fun K hK => ?_) (fun K hK => ?_)
          · skip
            refine goes_ Try.func15 (by kernel_rfl) rfl #[rvS s M, ag46 x] (by rfl) rfl rfl (by (try simp only [List.map_toArray, List.map_cons, List.map_nil]); first | done | rfl) ?_
            with_reducible refine (want_c hsd1 s HM.out x HD.out.1 HD.out.2.1 HD.out.2.2.1 HD.out.2.2.2.1 HD.out.2.2.2.2 HN.out).mono ?_
            rintro e wd2 ⟨rfl, hsd2⟩
            refine ⟨_, rfl, ?_⟩
            refine hK.out _ _ ⟨(c_at hsd2 1 rfl 0 rfl), (c_at hsd2 1 rfl 1 rfl), (c_at hsd2 1 rfl 2 rfl), (c_at hsd2 1 rfl 3 rfl), (c_at hsd2 1 rfl 4 rfl), (c_at hsd2 1 rfl 5 rfl), (c_at hsd2 1 rfl 6 rfl), (c_at hsd2 1 rfl 7 rfl), (c_at hsd2 1 rfl 8 rfl), (c_at hsd2 1 rfl 9 rfl), (c_at hsd2 1 rfl 10 rfl), (HX.out _ (sl_below0 hsd2)).1, (HX.out _ (sl_below0 hsd2)).2.1, (HX.out _ (sl_below0 hsd2)).2.2.1, (HX.out _ (sl_below0 hsd2)).2.2.2.1, (HX.out _ (sl_below0 hsd2)).2.2.2.2.1, (HX.out _ (sl_below0 hsd2)).2.2.2.2.2.1, (HX.out _ (sl_below0 hsd2)).2.2.2.2.2.2.1, (HX.out _ (sl_below0 hsd2)).2.2.2.2.2.2.2.1, (HX.out _ (sl_below0 hsd2)).2.2.2.2.2.2.2.2.1, (HX.out _ (sl_below0 hsd2)).2.2.2.2.2.2.2.2.2⟩ (fun hHeld => ?_)
            clear hK K
            refine norm_ (a' := ?_) ?_ ?_
            rotate_left
            · show Act.put _ (some 26) _ = _
              simp only [Act.put, List.setIfInBounds_toArray, List.set_cons_zero, List.set_cons_succ, i64_w, i32_w, IntKind.wrap_u32, IntKind.wrap_u8, IntKind.wrap_u16]
              rfl
            refine pure_ (i := 6) (N := some 20) (v := ?_) (a' := ?_) #[true, true, true, true, true, true, true, false, false, false, true, false, false] rfl rfl (by kernel_rfl) (fun _ _ _ h => h) (Or.inl ⟨by rfl, ?_⟩) ?_ ?_
            rotate_left
            · intro w'
              go_simp
              with_reducible rfl
            rotate_left
            · simp only [Act.put, List.setIfInBounds_toArray, List.set_cons_zero, List.set_cons_succ, i64_w, i32_w, IntKind.wrap_u32, IntKind.wrap_u8, IntKind.wrap_u16]
              rfl
            refine pure_ (i := 7) (N := some 27) (v := ?_) (a' := ?_) #[true, true, true, true, true, true, true, true, false, false, true, false, false] rfl rfl (by kernel_rfl) (fun _ _ _ h => h) (Or.inl ⟨by rfl, ?_⟩) ?_ ?_
            rotate_left
            · intro w'
              go_simp
              with_reducible rfl
            rotate_left
            · simp only [Act.put, List.setIfInBounds_toArray, List.set_cons_zero, List.set_cons_succ, i64_w, i32_w, IntKind.wrap_u32, IntKind.wrap_u8, IntKind.wrap_u16]
              rfl
            refine pure_ (i := 8) (N := some 28) (v := ?_) (a' := ?_) #[true, true, true, true, true, true, true, true, true, false, true, false, false] rfl rfl (by kernel_rfl) (fun _ _ _ h => h) (Or.inl ⟨by rfl, ?_⟩) ?_ ?_
            rotate_left
            · intro w'
              go_simp
              with_reducible rfl
            rotate_left
            · simp only [Act.put, List.setIfInBounds_toArray, List.set_cons_zero, List.set_cons_succ, i64_w, i32_w, IntKind.wrap_u32, IntKind.wrap_u8, IntKind.wrap_u16]
              rfl
            refine one_ (i := 9) (N := some 6) #[true, true, true, true, true, true, true, true, true, true, true, false, false] rfl rfl (by kernel_rfl) (by decide) (fun K hK => ?_)
            refine box_step ?hg (N := 6) ?hd (cs := rcz) (t := 39) ?hr ?_; (case hd => rfl); (case hg => rfl); (case hr => first | (go_simp; done) | (go_simp; rfl))
            intro g9 hgg9 wd3 hbox hb
            have hsd3 := sl_box' hsd2 hb (Nat.le_of_eq hgg9.symm) hbox
            clear hbox hb hgg9
            refine hK.out _ _ ⟨(c_at hsd3 1 rfl 0 rfl), (c_at hsd3 1 rfl 1 rfl), (c_at hsd3 1 rfl 2 rfl), (c_at hsd3 1 rfl 3 rfl), (c_at hsd3 1 rfl 4 rfl), (c_at hsd3 1 rfl 5 rfl), (c_at hsd3 1 rfl 6 rfl), (c_at hsd3 1 rfl 7 rfl), (c_at hsd3 1 rfl 8 rfl), (c_at hsd3 1 rfl 9 rfl), (c_at hsd3 1 rfl 10 rfl), (HX.out _ (sl_below0 hsd3)).1, (HX.out _ (sl_below0 hsd3)).2.1, (HX.out _ (sl_below0 hsd3)).2.2.1, (HX.out _ (sl_below0 hsd3)).2.2.2.1, (HX.out _ (sl_below0 hsd3)).2.2.2.2.1, (HX.out _ (sl_below0 hsd3)).2.2.2.2.2.1, (HX.out _ (sl_below0 hsd3)).2.2.2.2.2.2.1, (HX.out _ (sl_below0 hsd3)).2.2.2.2.2.2.2.1, (HX.out _ (sl_below0 hsd3)).2.2.2.2.2.2.2.2.1, (HX.out _ (sl_below0 hsd3)).2.2.2.2.2.2.2.2.2⟩ (fun hHeld => ?_)
            clear hK K
            refine norm_ (a' := ?_) ?_ ?_
            rotate_left
            · show Act.put _ (some 6) _ = _
              simp only [Act.put, List.setIfInBounds_toArray, List.set_cons_zero, List.set_cons_succ, i64_w, i32_w, IntKind.wrap_u32, IntKind.wrap_u8, IntKind.wrap_u16]
              rfl
            exact norm_ (by simp only [putAll, Act.put, List.setIfInBounds_toArray, List.set_cons_zero, List.set_cons_succ]) (hCont (g9, g10) _ (sl_pick hsd3 [0, 1, 3, 2] (by decide) rfl))
          · skip
            refine box_step ?hg (N := 6) ?hd (cs := rcz) (t := 39) ?hr ?_; (case hd => rfl); (case hg => rfl); (case hr => first | (go_simp; done) | (go_simp; rfl))
            intro g9 hgg9 wd2 hbox hb
            have hsd2 := sl_box' hsd1 hb (Nat.le_of_eq hgg9.symm) hbox
            clear hbox hb hgg9
            refine hK.out _ _ ⟨(c_at hsd2 1 rfl 0 rfl), (c_at hsd2 1 rfl 1 rfl), (c_at hsd2 1 rfl 2 rfl), (c_at hsd2 1 rfl 3 rfl), (c_at hsd2 1 rfl 4 rfl), (c_at hsd2 1 rfl 5 rfl), (c_at hsd2 1 rfl 6 rfl), (c_at hsd2 1 rfl 7 rfl), (c_at hsd2 1 rfl 8 rfl), (c_at hsd2 1 rfl 9 rfl), (c_at hsd2 1 rfl 10 rfl), (HX.out _ (sl_below0 hsd2)).1, (HX.out _ (sl_below0 hsd2)).2.1, (HX.out _ (sl_below0 hsd2)).2.2.1, (HX.out _ (sl_below0 hsd2)).2.2.2.1, (HX.out _ (sl_below0 hsd2)).2.2.2.2.1, (HX.out _ (sl_below0 hsd2)).2.2.2.2.2.1, (HX.out _ (sl_below0 hsd2)).2.2.2.2.2.2.1, (HX.out _ (sl_below0 hsd2)).2.2.2.2.2.2.2.1, (HX.out _ (sl_below0 hsd2)).2.2.2.2.2.2.2.2.1, (HX.out _ (sl_below0 hsd2)).2.2.2.2.2.2.2.2.2⟩ (fun hHeld => ?_)
            clear hK K
            refine norm_ (a' := ?_) ?_ ?_
            rotate_left
            · show Act.put _ (some 6) _ = _
              simp only [Act.put, List.setIfInBounds_toArray, List.set_cons_zero, List.set_cons_succ, i64_w, i32_w, IntKind.wrap_u32, IntKind.wrap_u8, IntKind.wrap_u16]
              rfl
            refine one_ (i := 5) (N := some 26) #[true, true, true, true, true, true, false, false, false, true, true, false, false] rfl rfl (by kernel_rfl) (by decide) (fun K hK => ?_)
            refine goes_ Try.func15 (by kernel_rfl) rfl #[rvS s M, ag46 x] (by rfl) rfl rfl (by (try simp only [List.map_toArray, List.map_cons, List.map_nil]); first | done | rfl) ?_
            with_reducible refine (want_c hsd2 s HM.out x HD.out.1 HD.out.2.1 HD.out.2.2.1 HD.out.2.2.2.1 HD.out.2.2.2.2 HN.out).mono ?_
            rintro e wd3 ⟨rfl, hsd3⟩
            refine ⟨_, rfl, ?_⟩
            refine hK.out _ _ ⟨(c_at hsd3 1 rfl 0 rfl), (c_at hsd3 1 rfl 1 rfl), (c_at hsd3 1 rfl 2 rfl), (c_at hsd3 1 rfl 3 rfl), (c_at hsd3 1 rfl 4 rfl), (c_at hsd3 1 rfl 5 rfl), (c_at hsd3 1 rfl 6 rfl), (c_at hsd3 1 rfl 7 rfl), (c_at hsd3 1 rfl 8 rfl), (c_at hsd3 1 rfl 9 rfl), (c_at hsd3 1 rfl 10 rfl), (HX.out _ (sl_below0 hsd3)).1, (HX.out _ (sl_below0 hsd3)).2.1, (HX.out _ (sl_below0 hsd3)).2.2.1, (HX.out _ (sl_below0 hsd3)).2.2.2.1, (HX.out _ (sl_below0 hsd3)).2.2.2.2.1, (HX.out _ (sl_below0 hsd3)).2.2.2.2.2.1, (HX.out _ (sl_below0 hsd3)).2.2.2.2.2.2.1, (HX.out _ (sl_below0 hsd3)).2.2.2.2.2.2.2.1, (HX.out _ (sl_below0 hsd3)).2.2.2.2.2.2.2.2.1, (HX.out _ (sl_below0 hsd3)).2.2.2.2.2.2.2.2.2⟩ (fun hHeld => ?_)
            clear hK K
            refine norm_ (a' := ?_) ?_ ?_
            rotate_left
            · show Act.put _ (some 26) _ = _
              simp only [Act.put, List.setIfInBounds_toArray, List.set_cons_zero, List.set_cons_succ, i64_w, i32_w, IntKind.wrap_u32, IntKind.wrap_u8, IntKind.wrap_u16]
              rfl
            refine pure_ (i := 6) (N := some 20) (v := ?_) (a' := ?_) #[true, true, true, true, true, true, true, false, false, true, true, false, false] rfl rfl (by kernel_rfl) (fun _ _ _ h => h) (Or.inl ⟨by rfl, ?_⟩) ?_ ?_
            rotate_left
            · intro w'
              go_simp
              with_reducible rfl
            rotate_left
            · simp only [Act.put, List.setIfInBounds_toArray, List.set_cons_zero, List.set_cons_succ, i64_w, i32_w, IntKind.wrap_u32, IntKind.wrap_u8, IntKind.wrap_u16]
              rfl
            refine pure_ (i := 7) (N := some 27) (v := ?_) (a' := ?_) #[true, true, true, true, true, true, true, true, false, true, true, false, false] rfl rfl (by kernel_rfl) (fun _ _ _ h => h) (Or.inl ⟨by rfl, ?_⟩) ?_ ?_
            rotate_left
            · intro w'
              go_simp
              with_reducible rfl
            rotate_left
            · simp only [Act.put, List.setIfInBounds_toArray, List.set_cons_zero, List.set_cons_succ, i64_w, i32_w, IntKind.wrap_u32, IntKind.wrap_u8, IntKind.wrap_u16]
              rfl
            refine pure_ (i := 8) (N := some 28) (v := ?_) (a' := ?_) #[true, true, true, true, true, true, true, true, true, true, true, false, false] rfl rfl (by kernel_rfl) (fun _ _ _ h => h) (Or.inl ⟨by rfl, ?_⟩) ?_ ?_
            rotate_left
            · intro w'
              go_simp
              with_reducible rfl
            rotate_left
            · simp only [Act.put, List.setIfInBounds_toArray, List.set_cons_zero, List.set_cons_succ, i64_w, i32_w, IntKind.wrap_u32, IntKind.wrap_u8, IntKind.wrap_u16]
              rfl
            exact norm_ (by simp only [putAll, Act.put, List.setIfInBounds_toArray, List.set_cons_zero, List.set_cons_succ]) (hCont (g9, g10) _ (sl_pick hsd3 [0, 1, 3, 2] (by decide) rfl))
      rintro ⟨gn, gr⟩ w7 hs7
      have hs7 : SL w w7 [winR g s, cellsR gm 39 (rcs s M), cellsR gn 39 rcz, cellsR gr 42 #[.int .i64 0, .int .i64 0, .int .i64 0, .int .i64 0]] := hs7
      have hHeld : w7.cell? ⟨gm, 0, none⟩ = some (.int .i64 s.lx) ∧ w7.cell? ⟨gm, 1, none⟩ = some (.int .i64 s.ly) ∧ w7.cell? ⟨gm, 2, none⟩ = some (.int .i64 s.mx) ∧ w7.cell? ⟨gm, 3, none⟩ = some (.int .i64 s.my) ∧ w7.cell? ⟨gm, 4, none⟩ = some (.int .i64 s.gx) ∧ w7.cell? ⟨gm, 5, none⟩ = some (.int .i64 s.gy) ∧ w7.cell? ⟨gm, 6, none⟩ = some (.int .i64 s.fx) ∧ w7.cell? ⟨gm, 7, none⟩ = some (.int .i64 s.fy) ∧ w7.cell? ⟨gm, 8, none⟩ = some (.int .i64 s.sx) ∧ w7.cell? ⟨gm, 9, none⟩ = some (.int .i64 s.sy) ∧ w7.cell? ⟨gm, 10, none⟩ = some (.int .i64 M) ∧ w7.cell? (ad.add (i * 10)) = some (.int .i64 x.f0) ∧ w7.cell? ⟨(ad.add (i * 10)).block, (ad.add (i * 10)).off + 1, none⟩ = some (.int .i64 x.f1) ∧ w7.cell? ⟨(ad.add (i * 10)).block, (ad.add (i * 10)).off + 2, none⟩ = some (.int .i64 x.f2) ∧ w7.cell? ⟨(ad.add (i * 10)).block, (ad.add (i * 10)).off + 3, none⟩ = some (.int .i64 x.f3) ∧ w7.cell? ⟨(ad.add (i * 10)).block, (ad.add (i * 10)).off + 4, none⟩ = some (.bool x.f4) ∧ w7.cell? ⟨(ad.add (i * 10)).block, (ad.add (i * 10)).off + 5, none⟩ = some (.int .i64 x.f5.f0) ∧ w7.cell? ⟨(ad.add (i * 10)).block, (ad.add (i * 10)).off + 6, none⟩ = some (.int .i64 x.f5.f1) ∧ w7.cell? ⟨(ad.add (i * 10)).block, (ad.add (i * 10)).off + 7, none⟩ = some (.int .i64 x.f5.f2) ∧ w7.cell? ⟨(ad.add (i * 10)).block, (ad.add (i * 10)).off + 8, none⟩ = some (.int .i64 x.f5.f3) ∧ w7.cell? ⟨(ad.add (i * 10)).block, (ad.add (i * 10)).off + 9, none⟩ = some (.string x.f6) := ⟨(c_at hs7 1 rfl 0 rfl), (c_at hs7 1 rfl 1 rfl), (c_at hs7 1 rfl 2 rfl), (c_at hs7 1 rfl 3 rfl), (c_at hs7 1 rfl 4 rfl), (c_at hs7 1 rfl 5 rfl), (c_at hs7 1 rfl 6 rfl), (c_at hs7 1 rfl 7 rfl), (c_at hs7 1 rfl 8 rfl), (c_at hs7 1 rfl 9 rfl), (c_at hs7 1 rfl 10 rfl), (HX.out _ (sl_below0 hs7)).1, (HX.out _ (sl_below0 hs7)).2.1, (HX.out _ (sl_below0 hs7)).2.2.1, (HX.out _ (sl_below0 hs7)).2.2.2.1, (HX.out _ (sl_below0 hs7)).2.2.2.2.1, (HX.out _ (sl_below0 hs7)).2.2.2.2.2.1, (HX.out _ (sl_below0 hs7)).2.2.2.2.2.2.1, (HX.out _ (sl_below0 hs7)).2.2.2.2.2.2.2.1, (HX.out _ (sl_below0 hs7)).2.2.2.2.2.2.2.2.1, (HX.out _ (sl_below0 hs7)).2.2.2.2.2.2.2.2.2⟩
      refine norm_ (a' := ?_) ?_ ?_
      rotate_left
      · simp only [putAll, Act.put, List.setIfInBounds_toArray, List.set_cons_zero, List.set_cons_succ]
        rfl
      refine last_ (i := 11) (N := none) #[true, true, true, true, true, true, true, true, true, true, true, true, false] rfl rfl (by kernel_rfl) (by decide) (fun K hK => ?_)
      rw [if_pos (by rfl)]
      refine wp_store_row 39 _ _ rfl gn (rcs S N) rfl rfl 39 rcz (sl_blk hs7 2 rfl) (by kernel_rfl) rfl (by simp [Value.oneCell']) ?_
      refine hK.out _ _ ?_
      clear hK K
      refine last_ (i := 12) (N := none) #[true, true, true, true, true, true, true, true, true, true, true, true, true] rfl rfl (by kernel_rfl) (by decide) (fun K hK => ?_)
      rw [if_pos (by rfl)]
      refine wp_store_row 42 _ _ rfl gr (#[.int .i64 CA, .int .i64 CB, .int .i64 CC, .int .i64 E]) rfl rfl 42 #[.int .i64 0, .int .i64 0, .int .i64 0, .int .i64 0] (sl_blk (sl_row hs7 2 rfl (rcs S N)) 3 rfl) (by kernel_rfl) rfl (by simp [Value.oneCell']) ?_
      refine hK.out _ _ ?_
      clear hK K
      refine done_ (by kernel_rfl) ?_
      have HS2 := Aside0.mk (sl_row (sl_row hs7 2 rfl (rcs S N)) 3 rfl #[.int .i64 CA, .int .i64 CB, .int .i64 CC, .int .i64 E])
      clear hs7 hHeld HS
      have HS := HS2
      clear HS2
      have hq : ∀ d (W : World), (Op.equalIn (d + 2) 42 (.agg #[.int .i64 CA, .int .i64 CB, .int .i64 CC, .int .i64 E]) (.agg #[.int .i64 CA, .int .i64 CB, .int .i64 CC, .int .i64 E])).run Try.prog W = .ok true W := fun d W => eqS42 d W CA CB CC E
      go_wp2_with (fail)
      refine start_ (n := 8) (S := fun w' => w'.cell? (ad.add (i * 10)) = some (.int .i64 x.f0) ∧ w'.cell? ⟨(ad.add (i * 10)).block, (ad.add (i * 10)).off + 1, none⟩ = some (.int .i64 x.f1) ∧ w'.cell? ⟨(ad.add (i * 10)).block, (ad.add (i * 10)).off + 2, none⟩ = some (.int .i64 x.f2) ∧ w'.cell? ⟨(ad.add (i * 10)).block, (ad.add (i * 10)).off + 3, none⟩ = some (.int .i64 x.f3) ∧ w'.cell? ⟨(ad.add (i * 10)).block, (ad.add (i * 10)).off + 4, none⟩ = some (.bool x.f4) ∧ w'.cell? ⟨(ad.add (i * 10)).block, (ad.add (i * 10)).off + 5, none⟩ = some (.int .i64 x.f5.f0) ∧ w'.cell? ⟨(ad.add (i * 10)).block, (ad.add (i * 10)).off + 6, none⟩ = some (.int .i64 x.f5.f1) ∧ w'.cell? ⟨(ad.add (i * 10)).block, (ad.add (i * 10)).off + 7, none⟩ = some (.int .i64 x.f5.f2) ∧ w'.cell? ⟨(ad.add (i * 10)).block, (ad.add (i * 10)).off + 8, none⟩ = some (.int .i64 x.f5.f3) ∧ w'.cell? ⟨(ad.add (i * 10)).block, (ad.add (i * 10)).off + 9, none⟩ = some (.string x.f6) ∧ w'.cell? ⟨gr, 0, none⟩ = some (.int .i64 CA) ∧ w'.cell? ⟨gr, 1, none⟩ = some (.int .i64 CB) ∧ w'.cell? ⟨gr, 2, none⟩ = some (.int .i64 CC) ∧ w'.cell? ⟨gr, 3, none⟩ = some (.int .i64 E)) (ds := []) #[false, false, false, false, false, false, false, false] (by kernel_rfl) rfl rfl ⟨(HX.out _ (sl_below0 (sl_drew HS.out))).1, (HX.out _ (sl_below0 (sl_drew HS.out))).2.1, (HX.out _ (sl_below0 (sl_drew HS.out))).2.2.1, (HX.out _ (sl_below0 (sl_drew HS.out))).2.2.2.1, (HX.out _ (sl_below0 (sl_drew HS.out))).2.2.2.2.1, (HX.out _ (sl_below0 (sl_drew HS.out))).2.2.2.2.2.1, (HX.out _ (sl_below0 (sl_drew HS.out))).2.2.2.2.2.2.1, (HX.out _ (sl_below0 (sl_drew HS.out))).2.2.2.2.2.2.2.1, (HX.out _ (sl_below0 (sl_drew HS.out))).2.2.2.2.2.2.2.2.1, (HX.out _ (sl_below0 (sl_drew HS.out))).2.2.2.2.2.2.2.2.2, (c_at (sl_drew HS.out) 3 rfl 0 rfl), (c_at (sl_drew HS.out) 3 rfl 1 rfl), (c_at (sl_drew HS.out) 3 rfl 2 rfl), (c_at (sl_drew HS.out) 3 rfl 3 rfl)⟩ (fun hHeld => ?_)
      refine pure_ (i := 0) (N := some 29) (v := ?_) (a' := ?_) #[true, false, false, false, false, false, false, false] rfl rfl (by kernel_rfl) (fun _ _ _ h => h) (Or.inl ⟨by rfl, ?_⟩) ?_ ?_
      rotate_left
      · intro w'
        go_simp
        with_reducible rfl
      rotate_left
      · simp only [Act.put, List.setIfInBounds_toArray, List.set_cons_zero, List.set_cons_succ, i64_w, i32_w, IntKind.wrap_u32, IntKind.wrap_u8, IntKind.wrap_u16]
        rfl
      refine pure_ (i := 1) (N := some 30) (v := ?_) (a' := ?_) #[true, true, false, false, false, false, false, false] rfl rfl (by kernel_rfl) (fun _ _ _ h => h) (Or.inl ⟨by rfl, ?_⟩) ?_ ?_
      rotate_left
      · intro w'
        go_simp
        with_reducible rfl
      rotate_left
      · simp only [Act.put, List.setIfInBounds_toArray, List.set_cons_zero, List.set_cons_succ, i64_w, i32_w, IntKind.wrap_u32, IntKind.wrap_u8, IntKind.wrap_u16]
        rfl
      refine pure_ (i := 2) (N := some 31) (v := ?_) (a' := ?_) #[true, true, true, false, false, false, false, false] rfl rfl (by kernel_rfl) (fun _ _ _ h => h) (Or.inl ⟨by rfl, ?_⟩) ?_ ?_
      rotate_left
      · intro w'
        go_simp
        with_reducible rfl
      rotate_left
      · simp only [Act.put, List.setIfInBounds_toArray, List.set_cons_zero, List.set_cons_succ, i64_w, i32_w, IntKind.wrap_u32, IntKind.wrap_u8, IntKind.wrap_u16]
        rfl
      refine pure_ (i := 3) (N := some 32) (v := ?_) (a' := ?_) #[true, true, true, true, false, false, false, false] rfl rfl (by kernel_rfl) (fun _ _ _ h => h) (Or.inl ⟨by rfl, ?_⟩) ?_ ?_
      rotate_left
      · intro w'
        go_simp
        with_reducible rfl
      rotate_left
      · simp only [Act.put, List.setIfInBounds_toArray, List.set_cons_zero, List.set_cons_succ, i64_w, i32_w, IntKind.wrap_u32, IntKind.wrap_u8, IntKind.wrap_u16]
        rfl
      refine take_ (i := 4) (N := some 33) (v := ?_) (a' := ?_) #[true, true, true, true, true, false, false, false] rfl rfl (by kernel_rfl) (fun _ _ _ h => h) (Or.inl ⟨by rfl, ?_⟩) hHeld ?_ ?_
      rotate_left
      · rintro w' ⟨s0, s1, s2, s3, s4, s5, s6, s7, s8, s9, s10, s11, s12, s13⟩
        go_simp
        with_reducible rfl
      rotate_left
      · simp only [Act.put, List.setIfInBounds_toArray, List.set_cons_zero, List.set_cons_succ, i64_w, i32_w, IntKind.wrap_u32, IntKind.wrap_u8, IntKind.wrap_u16]
        rfl
      refine take_ (i := 6) (N := some 35) (v := ?_) (a' := ?_) #[true, true, true, true, true, false, true, false] rfl rfl (by kernel_rfl) (fun _ _ _ h => h) (Or.inl ⟨by rfl, ?_⟩) hHeld ?_ ?_
      rotate_left
      · rintro w' ⟨s0, s1, s2, s3, s4, s5, s6, s7, s8, s9, s10, s11, s12, s13⟩
        go_simp
        with_reducible rfl
      rotate_left
      · simp only [Act.put, List.setIfInBounds_toArray, List.set_cons_zero, List.set_cons_succ, i64_w, i32_w, IntKind.wrap_u32, IntKind.wrap_u8, IntKind.wrap_u16]
        rfl
      refine one_ (i := 5) (N := some 34) #[true, true, true, true, true, true, true, false] rfl rfl (by kernel_rfl) (by decide) (fun K hK => ?_)
      refine goes_ Try.func16 (by kernel_rfl) rfl #[.pointer (some ⟨g, 0, none⟩), ag46 x] (by rfl) rfl rfl (by (try simp only [List.map_toArray, List.map_cons, List.map_nil]); first | done | rfl) ?_
      with_reducible refine (call_eq (sl_drew HS.out) 0 x HD.out.1 HD.out.2.1 HD.out.2.2.1 HD.out.2.2.2.1 HD.out.2.2.2.2 rfl).mono ?_
      rintro e w8 ⟨rfl, hs8⟩
      refine ⟨_, rfl, ?_⟩
      refine hK.out _ _ ⟨(HX.out _ (sl_below0 hs8)).1, (HX.out _ (sl_below0 hs8)).2.1, (HX.out _ (sl_below0 hs8)).2.2.1, (HX.out _ (sl_below0 hs8)).2.2.2.1, (HX.out _ (sl_below0 hs8)).2.2.2.2.1, (HX.out _ (sl_below0 hs8)).2.2.2.2.2.1, (HX.out _ (sl_below0 hs8)).2.2.2.2.2.2.1, (HX.out _ (sl_below0 hs8)).2.2.2.2.2.2.2.1, (HX.out _ (sl_below0 hs8)).2.2.2.2.2.2.2.2.1, (HX.out _ (sl_below0 hs8)).2.2.2.2.2.2.2.2.2, (c_at hs8 3 rfl 0 rfl), (c_at hs8 3 rfl 1 rfl), (c_at hs8 3 rfl 2 rfl), (c_at hs8 3 rfl 3 rfl)⟩ (fun hHeld => ?_)
      clear hK K
      refine norm_ (a' := ?_) ?_ ?_
      rotate_left
      · show Act.put _ (some 34) _ = _
        simp only [Act.put, List.setIfInBounds_toArray, List.set_cons_zero, List.set_cons_succ, i64_w, i32_w, IntKind.wrap_u32, IntKind.wrap_u8, IntKind.wrap_u16]
        rfl
      refine pure_ (i := 7) (N := some 36) (v := ?_) (a' := ?_) #[true, true, true, true, true, true, true, true] rfl rfl (by kernel_rfl) (fun _ _ _ h => h) (Or.inl ⟨by rfl, ?_⟩) ?_ ?_
      rotate_left
      · intro w'
        go_simp
        with_reducible rfl
      rotate_left
      · simp only [Act.put, List.setIfInBounds_toArray, List.set_cons_zero, List.set_cons_succ, i64_w, i32_w, IntKind.wrap_u32, IntKind.wrap_u8, IntKind.wrap_u16]
        rfl
      refine done_ (by kernel_rfl) ?_
      clear HS
      have HS := Aside0.mk hs8
      clear hs8 hq
      have n0 := c_at HS.out 2 rfl 0 rfl
      have n1 := c_at HS.out 2 rfl 1 rfl
      have n2 := c_at HS.out 2 rfl 2 rfl
      have n3 := c_at HS.out 2 rfl 3 rfl
      have n4 := c_at HS.out 2 rfl 4 rfl
      have n5 := c_at HS.out 2 rfl 5 rfl
      have n6 := c_at HS.out 2 rfl 6 rfl
      have n7 := c_at HS.out 2 rfl 7 rfl
      have n8 := c_at HS.out 2 rfl 8 rfl
      have n9 := c_at HS.out 2 rfl 9 rfl
      have n10 := c_at HS.out 2 rfl 10 rfl
      go_wp2_with (first
        | (refine wpList_store_row rfl 39 _ _ rfl _ (rcs S N) rfl rfl 39 (rcs s M) (sl_blk HS.out 1 rfl) (by kernel_rfl) rfl (by simp [Value.oneCell']) ?_; have hs := sl_row HS.out 1 rfl (rcs S N); (try simp only [World.size_alloc] at hs); replace HS := Aside0.mk hs; clear hs; (try clear m0 m1 m2 m3 m4 m5 m6 m7 m8 m9 m10 lm); (try (have m0 := c_at HS.out 1 rfl 0 rfl; have m1 := c_at HS.out 1 rfl 1 rfl; have m2 := c_at HS.out 1 rfl 2 rfl; have m3 := c_at HS.out 1 rfl 3 rfl; have m4 := c_at HS.out 1 rfl 4 rfl; have m5 := c_at HS.out 1 rfl 5 rfl; have m6 := c_at HS.out 1 rfl 6 rfl; have m7 := c_at HS.out 1 rfl 7 rfl; have m8 := c_at HS.out 1 rfl 8 rfl; have m9 := c_at HS.out 1 rfl 9 rfl; have m10 := c_at HS.out 1 rfl 10 rfl; have lm := blk_lt (sl_blk HS.out 1 rfl))))
        | (go_at_call 17; refine (agrees_w (by repeat (with_reducible first | exact HS.out | apply sl_drewN | apply sl_drew | apply sl_box | apply sl_alloc)) 0 (by rfl) S.lx S.ly S.mx S.my S.sx S.sy ⟨rfl, rfl, rfl, rfl, HN.out⟩).mono ?_; rintro e w9 ⟨rfl, hs⟩; (try simp only [World.size_alloc] at hs); replace HS := Aside0.mk hs; clear hs))
      go_roundg kq
      case measure => omega
      case rel =>
        refine ⟨i + 1, S, rfl, ⟨by have := HI.out; omega⟩, ⟨?_⟩⟩
        rw [HN.out]
        exact sl_take HS.out 2
    · have b1 : decide (i < l.length) = false := decide_eq_false hlt
      clear hlt hi
      go_wp2_with (first
        | (go_at_call 8; refine (ex_c (by repeat (with_reducible first | exact HS.out | apply sl_drewN | apply sl_drew | apply sl_box | apply sl_alloc))).mono ?_; rintro e w1 ⟨rfl, hs⟩; (try simp only [World.size_alloc] at hs); replace HS := Aside0.mk hs; clear hs))
      try rw [Exit.noGoto_ret]
      go_ret
      exact ⟨rfl, sl_below0 HS.out⟩
end Go.Proofs.Ytckpgccbhaejgaa.Q

