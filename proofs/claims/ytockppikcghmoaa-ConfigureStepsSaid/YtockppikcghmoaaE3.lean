import Derived.Test.YtockppikcghmoaaRq2
namespace Go.Proofs.Ytockppikcghmoaa.Q
open Go.RowKit Go.Proofs.YtockppikcghmoaaW.PrintWords Go.Proofs.YtockppikcghmoaaW.PrintLast Go.Proofs.YtockppikcghmoaaW.PrintMore Go.Proofs.Ytockppikcghmoaa.Sl Go.Proofs.Ytockppikcghmoaa.Hand 
attribute [local go_sem] max2_int min2_int max_two min_two max_three min_three max_four min_four 
set_option linter.unusedVariables false
set_option linter.unusedSimpArgs false

theorem sl_callB {w0 w : World} {L : List Res} {A : Res} {P : Program} {f : FuncId} {args : Array Value} {X : Type} {ret : X → Ending} {B : X → Res} (h : SL w0 w L) (i : Nat) (hi : L[i]? = some A)
    (hc : ∀ F : Nat → Prop, A.P w F → Calls P f args w fun e w' => ∃ x, e = ret x ∧ (B x).P w' (fun k => F k ∨ w.heap.size ≤ k) ∧ Below w.heap.size w w')
    (hb : ∀ x w F, (B x).P w F → (B x).P w (fun k => F k ∧ k < w.heap.size)) : Calls P f args w fun e w' => ∃ x, e = ret x ∧ SL w0 w' (L.set i (B x)) := by
  obtain ⟨F, h1, h2, h3⟩ := sl_upd h hi
  refine (hc F h1).mono ?_
  rintro e w' ⟨x, he, h4, h5⟩
  exact ⟨x, he, h3 _ _ _ (hb x _ _ h4) (fun k hk => hk) (Chg.of_below h5)⟩
theorem rSend_sl {w0 w : World} {L : List Res} (i : Nat) {s1 s2 : Value} {q : QSt} (s a b st : Int) (hi : L[i]? = some (refR s1 s2 q)) (h : SL w0 w L) :
    Calls Try.prog 13 #[.agg #[s1, s2, .bool q.conf], .int .u32 s, .int .i64 a, .int .i64 b, .int .i64 st] w fun e w' => ∃ x : Value × Value, e = .returned (.tuple #[.agg #[x.1, x.2, .bool (sendS q s a b st).conf], .int .i64 (sendE q s a b)]) ∧ SL w0 w' (L.set i (refR x.1 x.2 (sendS q s a b st))) :=
  sl_callB h i hi (fun F hP => rSend_calls s a b st hP) (fun x w F h => refR_bound h)
theorem rAck_sl {w0 w : World} {L : List Res} (i : Nat) {s1 s2 : Value} {q : QSt} (s : Int) (hi : L[i]? = some (refR s1 s2 q)) (h : SL w0 w L) :
    Calls Try.prog 15 #[.agg #[s1, s2, .bool q.conf], .int .u32 s] w fun e w' => ∃ x : Value × Value, e = .returned (.tuple #[.agg #[x.1, x.2, .bool (ackS q s).conf], .int .i64 (ackE q s)]) ∧ SL w0 w' (L.set i (refR x.1 x.2 (ackS q s))) :=
  sl_callB h i hi (fun F hP => rAck_calls s hP) (fun x w F h => refR_bound h)
theorem rApply_sl {w0 w : World} {L : List Res} (i : Nat) {s1 s2 : Value} {q : QSt} (hz : q.acked = false → q.next = z40) (hi : L[i]? = some (refR s1 s2 q)) (h : SL w0 w L) :
    Calls Try.prog 17 #[.agg #[s1, s2, .bool q.conf]] w fun e w' => e = .returned (.tuple #[.agg #[s1, .slice none 0 0, .bool (apS q).conf], .agg #[.int .u32 q.next.f0, .int .i64 q.next.f1, .int .i64 q.next.f2, .int .i64 q.next.f3], .bool q.acked]) ∧ SL w0 w' (L.set i (refR s1 (.slice none 0 0) (apS q))) := by
  refine (sl_callB (X := Unit) (ret := fun _ => .returned (.tuple #[.agg #[s1, .slice none 0 0, .bool (apS q).conf], .agg #[.int .u32 q.next.f0, .int .i64 q.next.f1, .int .i64 q.next.f2, .int .i64 q.next.f3], .bool q.acked])) (B := fun _ => refR s1 (.slice none 0 0) (apS q)) h i hi (fun F hP => (rApply_calls hP hz).mono ?_) (fun x w F h => refR_bound h)).mono ?_
  · rintro e w' ⟨he, h1, h2⟩
    exact ⟨(), he, h1, h2⟩
  · rintro e w' ⟨_, he, h1⟩
    exact ⟨he, h1⟩
theorem rAcked_sl {w0 w : World} {L : List Res} (i : Nat) {s1 s2 : Value} {q : QSt} (hz : q.acked = false → q.next = z40) (hi : L[i]? = some (refR s1 s2 q)) (h : SL w0 w L) :
    Calls Try.prog 19 #[.agg #[s1, s2, .bool q.conf]] w fun e w' => e = .returned (rcfg q.next q.acked) ∧ SL w0 w' L :=
  sl_read h i hi fun F hP _ => rAcked_calls hP hz
theorem rWaiting_sl {w0 w : World} {L : List Res} (i : Nat) {s1 s2 : Value} {q : QSt} (hi : L[i]? = some (refR s1 s2 q)) (h : SL w0 w L) :
    Calls Try.prog 21 #[.agg #[s1, s2, .bool q.conf]] w fun e w' => e = .returned (.int .i64 q.wait.length) ∧ SL w0 w' L :=
  sl_read h i hi fun F hP _ => rWaiting_calls hP
theorem rConfigured_sl {w0 w : World} {L : List Res} (i : Nat) {s1 s2 : Value} {q : QSt} (hi : L[i]? = some (refR s1 s2 q)) (h : SL w0 w L) :
    Calls Try.prog 23 #[.agg #[s1, s2, .bool q.conf]] w fun e w' => e = .returned (.bool q.conf) ∧ SL w0 w' L :=
  sl_read h i hi fun F hP _ => rConfigured_calls hP
theorem ref_slices {w0 w : World} {L : List Res} {t1 t2 : Value} {q : QSt} (h : SL w0 w L) (i : Nat) (hi : L[i]? = some (refR t1 t2 q)) : ∃ B1 n1 d1 B2 n2 d2, t1 = .slice B1 n1 d1 ∧ t2 = .slice B2 n2 d2 := by
  obtain ⟨F, h1, _, _⟩ := sl_upd h hi
  obtain ⟨A, c, e1, _⟩ := h1.1.reads
  obtain ⟨A', c', e2, _⟩ := h1.2.reads
  exact ⟨_, _, _, _, _, _, e1, e2⟩
def QZ (q : QSt) : Prop := q.acked = false → q.next = z40
theorem QZ.send {q : QSt} (h : QZ q) (s a b st : Int) : QZ (sendS q s a b st) := by unfold sendS; split <;> exact h
theorem QZ.ack {q : QSt} (h : QZ q) (s : Int) : QZ (ackS q s) := by
  unfold ackS
  split
  · exact h
  · intro h2; cases h2
theorem QZ.app {q : QSt} (h : QZ q) : QZ (apS q) := by
  unfold apS
  cases ha : q.acked
  · simp only [Bool.false_eq_true, if_false]; exact h
  · simp only [if_true]; intro _; rfl
theorem sl_three {w0 w : World} {A B C : Res} {L : List Res} (h : SL w0 w (A :: B :: C :: L)) : SL w0 w [A, B, C] := sl_take h 3
set_option maxHeartbeats 16000000 in
set_option maxRecDepth 100000 in
theorem Steps_calls (A0 : Option Addr) (c0 : Nat) (l : List S32) (w : World) (hr : Kd.C k32 w A0 l.length l) (hc : l.length ≤ c0) :
    Calls Try.prog 3 #[.slice A0 l.length c0] w fun e w' => e = .returned (.bool true) ∧ Below w.heap.size w w' := by
  have HS := Aside0.mk (sl_start w)
  have HR := Aside0.mk hr
  have hmax := hr.2.1
  clear hr
  by_cases h300 : 300 < l.length
  · have b1 : decide ((300 : Int) < (l.length : Int)) = true := decide_eq_true (by omega)
    go_enter Try.func3, Try.ntmps3
    go_wp2_with (first
    | (go_at_call 10; refine (New_calls w _ _ (by repeat (with_reducible first | exact HS.out | apply sl_drewN | apply sl_drew | apply sl_box | apply sl_alloc))).mono ?_; rintro e w1 ⟨g, rfl, hs⟩; (try simp only [World.size_alloc] at hs); replace HS := Aside0.mk hs; clear hs)
    | (go_at_call 12; refine (Send_sl 0 _ _ _ _ rfl (by repeat (with_reducible first | exact HS.out | apply sl_drewN | apply sl_drew | apply sl_box | apply sl_alloc))).mono ?_; rintro e w1 ⟨rfl, hs⟩; (try simp only [World.size_alloc] at hs); replace HS := Aside0.mk hs; clear hs)
    | (go_at_call 14; refine (Ack_sl 0 _ rfl (by repeat (with_reducible first | exact HS.out | apply sl_drewN | apply sl_drew | apply sl_box | apply sl_alloc))).mono ?_; rintro e w1 ⟨rfl, hs⟩; (try simp only [World.size_alloc] at hs); replace HS := Aside0.mk hs; clear hs)
    | (go_at_call 16; refine (Apply_sl 0 rfl (by repeat (with_reducible first | exact HS.out | apply sl_drewN | apply sl_drew | apply sl_box | apply sl_alloc))).mono ?_; rintro e w1 ⟨rfl, hs⟩; unfold rcfg; (try simp only [World.size_alloc] at hs); replace HS := Aside0.mk hs; clear hs)
    | (go_at_call 18; refine (Acked_sl 0 rfl (by repeat (with_reducible first | exact HS.out | apply sl_drewN | apply sl_drew | apply sl_box | apply sl_alloc))).mono ?_; rintro e w1 ⟨rfl, hs⟩; unfold rcfg; (try simp only [World.size_alloc] at hs); replace HS := Aside0.mk hs; clear hs)
    | (go_at_call 20; refine (Waiting_sl 0 rfl (by repeat (with_reducible first | exact HS.out | apply sl_drewN | apply sl_drew | apply sl_box | apply sl_alloc))).mono ?_; rintro e w1 ⟨rfl, rfl⟩)
    | (go_at_call 22; refine (Configured_sl 0 rfl (by repeat (with_reducible first | exact HS.out | apply sl_drewN | apply sl_drew | apply sl_box | apply sl_alloc))).mono ?_; rintro e w1 ⟨rfl, rfl⟩)
    | (go_at_call 11; refine (rNew_calls w _ _ (by repeat (with_reducible first | exact HS.out | apply sl_drewN | apply sl_drew | apply sl_box | apply sl_alloc))).mono ?_; rintro e w2 ⟨rfl, hs⟩; unfold rv; (try simp only [World.size_alloc] at hs); replace HS := Aside0.mk hs; clear hs)
    | (go_at_call 13; refine (rSend_sl 1 _ _ _ _ rfl (by repeat (with_reducible first | exact HS.out | apply sl_drewN | apply sl_drew | apply sl_box | apply sl_alloc))).mono ?_; rintro e w2 ⟨⟨t1, t2⟩, rfl, hs⟩; obtain ⟨B1, n1, d1, B2, n2, d2, hb1_, hb2_⟩ := ref_slices hs 1 (by rfl); dsimp only at hb1_ hb2_; subst hb1_ hb2_; (try simp only [World.size_alloc] at hs); replace HS := Aside0.mk hs; clear hs)
    | (go_at_call 15; refine (rAck_sl 1 _ rfl (by repeat (with_reducible first | exact HS.out | apply sl_drewN | apply sl_drew | apply sl_box | apply sl_alloc))).mono ?_; rintro e w2 ⟨⟨t1, t2⟩, rfl, hs⟩; obtain ⟨B1, n1, d1, B2, n2, d2, hb1_, hb2_⟩ := ref_slices hs 1 (by rfl); dsimp only at hb1_ hb2_; subst hb1_ hb2_; (try simp only [World.size_alloc] at hs); replace HS := Aside0.mk hs; clear hs)
    | (go_at_call 17; refine (rApply_sl 1 HV.out rfl (by repeat (with_reducible first | exact HS.out | apply sl_drewN | apply sl_drew | apply sl_box | apply sl_alloc))).mono ?_; rintro e w2 ⟨rfl, hs⟩; (try simp only [World.size_alloc] at hs); replace HS := Aside0.mk hs; clear hs)
    | (go_at_call 19; refine (rAcked_sl 1 HV.out rfl (by repeat (with_reducible first | exact HS.out | apply sl_drewN | apply sl_drew | apply sl_box | apply sl_alloc))).mono ?_; rintro e w2 ⟨rfl, hs⟩; unfold rcfg; (try simp only [World.size_alloc] at hs); replace HS := Aside0.mk hs; clear hs)
    | (go_at_call 21; refine (rWaiting_sl 1 rfl (by repeat (with_reducible first | exact HS.out | apply sl_drewN | apply sl_drew | apply sl_box | apply sl_alloc))).mono ?_; rintro e w2 ⟨rfl, hs⟩; (try simp only [World.size_alloc] at hs); replace HS := Aside0.mk hs; clear hs)
    | (go_at_call 23; refine (rConfigured_sl 1 rfl (by repeat (with_reducible first | exact HS.out | apply sl_drewN | apply sl_drew | apply sl_box | apply sl_alloc))).mono ?_; rintro e w2 ⟨rfl, hs⟩; (try simp only [World.size_alloc] at hs); replace HS := Aside0.mk hs; clear hs)
    | (go_at_call 9; refine (ex_calls w _ _ (by repeat (with_reducible first | exact HS.out | apply sl_drewN | apply sl_drew | apply sl_box | apply sl_alloc))).mono ?_; rintro e w1 ⟨rfl, hs⟩; (try simp only [World.size_alloc] at hs); replace HS := Aside0.mk hs; clear hs))
    go_ret
    exact ⟨rfl, sl_below0 (by repeat (with_reducible first | exact HS.out | apply sl_drewN | apply sl_drew | apply sl_box | apply sl_alloc))⟩
  have b1 : decide ((300 : Int) < (l.length : Int)) = false := decide_eq_false (by omega)
  go_enter Try.func3, Try.ntmps3
  go_wp2_with (first
    | (go_at_call 10; refine (New_calls w _ _ (by repeat (with_reducible first | exact HS.out | apply sl_drewN | apply sl_drew | apply sl_box | apply sl_alloc))).mono ?_; rintro e w1 ⟨g, rfl, hs⟩; (try simp only [World.size_alloc] at hs); replace HS := Aside0.mk hs; clear hs)
    | (go_at_call 12; refine (Send_sl 0 _ _ _ _ rfl (by repeat (with_reducible first | exact HS.out | apply sl_drewN | apply sl_drew | apply sl_box | apply sl_alloc))).mono ?_; rintro e w1 ⟨rfl, hs⟩; (try simp only [World.size_alloc] at hs); replace HS := Aside0.mk hs; clear hs)
    | (go_at_call 14; refine (Ack_sl 0 _ rfl (by repeat (with_reducible first | exact HS.out | apply sl_drewN | apply sl_drew | apply sl_box | apply sl_alloc))).mono ?_; rintro e w1 ⟨rfl, hs⟩; (try simp only [World.size_alloc] at hs); replace HS := Aside0.mk hs; clear hs)
    | (go_at_call 16; refine (Apply_sl 0 rfl (by repeat (with_reducible first | exact HS.out | apply sl_drewN | apply sl_drew | apply sl_box | apply sl_alloc))).mono ?_; rintro e w1 ⟨rfl, hs⟩; unfold rcfg; (try simp only [World.size_alloc] at hs); replace HS := Aside0.mk hs; clear hs)
    | (go_at_call 18; refine (Acked_sl 0 rfl (by repeat (with_reducible first | exact HS.out | apply sl_drewN | apply sl_drew | apply sl_box | apply sl_alloc))).mono ?_; rintro e w1 ⟨rfl, hs⟩; unfold rcfg; (try simp only [World.size_alloc] at hs); replace HS := Aside0.mk hs; clear hs)
    | (go_at_call 20; refine (Waiting_sl 0 rfl (by repeat (with_reducible first | exact HS.out | apply sl_drewN | apply sl_drew | apply sl_box | apply sl_alloc))).mono ?_; rintro e w1 ⟨rfl, rfl⟩)
    | (go_at_call 22; refine (Configured_sl 0 rfl (by repeat (with_reducible first | exact HS.out | apply sl_drewN | apply sl_drew | apply sl_box | apply sl_alloc))).mono ?_; rintro e w1 ⟨rfl, rfl⟩)
    | (go_at_call 11; refine (rNew_calls w _ _ (by repeat (with_reducible first | exact HS.out | apply sl_drewN | apply sl_drew | apply sl_box | apply sl_alloc))).mono ?_; rintro e w2 ⟨rfl, hs⟩; unfold rv; (try simp only [World.size_alloc] at hs); replace HS := Aside0.mk hs; clear hs)
    | (go_at_call 13; refine (rSend_sl 1 _ _ _ _ rfl (by repeat (with_reducible first | exact HS.out | apply sl_drewN | apply sl_drew | apply sl_box | apply sl_alloc))).mono ?_; rintro e w2 ⟨⟨t1, t2⟩, rfl, hs⟩; obtain ⟨B1, n1, d1, B2, n2, d2, hb1_, hb2_⟩ := ref_slices hs 1 (by rfl); dsimp only at hb1_ hb2_; subst hb1_ hb2_; (try simp only [World.size_alloc] at hs); replace HS := Aside0.mk hs; clear hs)
    | (go_at_call 15; refine (rAck_sl 1 _ rfl (by repeat (with_reducible first | exact HS.out | apply sl_drewN | apply sl_drew | apply sl_box | apply sl_alloc))).mono ?_; rintro e w2 ⟨⟨t1, t2⟩, rfl, hs⟩; obtain ⟨B1, n1, d1, B2, n2, d2, hb1_, hb2_⟩ := ref_slices hs 1 (by rfl); dsimp only at hb1_ hb2_; subst hb1_ hb2_; (try simp only [World.size_alloc] at hs); replace HS := Aside0.mk hs; clear hs)
    | (go_at_call 17; refine (rApply_sl 1 HV.out rfl (by repeat (with_reducible first | exact HS.out | apply sl_drewN | apply sl_drew | apply sl_box | apply sl_alloc))).mono ?_; rintro e w2 ⟨rfl, hs⟩; (try simp only [World.size_alloc] at hs); replace HS := Aside0.mk hs; clear hs)
    | (go_at_call 19; refine (rAcked_sl 1 HV.out rfl (by repeat (with_reducible first | exact HS.out | apply sl_drewN | apply sl_drew | apply sl_box | apply sl_alloc))).mono ?_; rintro e w2 ⟨rfl, hs⟩; unfold rcfg; (try simp only [World.size_alloc] at hs); replace HS := Aside0.mk hs; clear hs)
    | (go_at_call 21; refine (rWaiting_sl 1 rfl (by repeat (with_reducible first | exact HS.out | apply sl_drewN | apply sl_drew | apply sl_box | apply sl_alloc))).mono ?_; rintro e w2 ⟨rfl, hs⟩; (try simp only [World.size_alloc] at hs); replace HS := Aside0.mk hs; clear hs)
    | (go_at_call 23; refine (rConfigured_sl 1 rfl (by repeat (with_reducible first | exact HS.out | apply sl_drewN | apply sl_drew | apply sl_box | apply sl_alloc))).mono ?_; rintro e w2 ⟨rfl, hs⟩; (try simp only [World.size_alloc] at hs); replace HS := Aside0.mk hs; clear hs)
    | (go_at_call 9; refine (ex_calls w _ _ (by repeat (with_reducible first | exact HS.out | apply sl_drewN | apply sl_drew | apply sl_box | apply sl_alloc))).mono ?_; rintro e w1 ⟨rfl, hs⟩; (try simp only [World.size_alloc] at hs); replace HS := Aside0.mk hs; clear hs))
  have HS0 := Aside0.mk (show SL w _ [queueR g q0, refR (.slice none 0 0) (.slice none 0 0) q0, cellsR w2.heap.size 28 #[.slice none 0 0, .slice none 0 0, .bool false]] from sl_box HS.out #[.slice none 0 0, .slice none 0 0, .bool false] 28)
  obtain ⟨gb, hgb⟩ : ∃ gb, gb = w2.heap.size := ⟨_, rfl⟩
  rw [← hgb] at HS0
  rw [← hgb]
  clear hgb HS
  go_loopg [26] l.length (fun kq v26 wr => ∃ (i : Nat) (q : QSt) (s1 s2 : Value), v26 = .int .i64 (i : Int) ∧ Aside0 (i + kq = l.length) ∧ Aside0 (QZ q) ∧ Aside0 (SL w wr [queueR g q, refR s1 s2 q, cellsR gb 28 #[s1, s2, .bool q.conf]]))
  case atStart => exact ⟨0, q0, .slice none 0 0, .slice none 0 0, rfl, ⟨by omega⟩, ⟨fun _ => rfl⟩, HS0⟩
  case round =>
    clear HS0
    obtain ⟨i, q, s1, s2, rfl, HI, HV, HS⟩ := hrel
    obtain ⟨Z1, z1, y1, Z2, z2, y2, rfl, rfl⟩ := ref_slices HS.out 1 rfl
    have hi := HI.out
    by_cases hlt : i < l.length
    · have b2 : decide (i < l.length) = true := decide_eq_true hlt
      obtain ⟨kq, rfl⟩ : ∃ m, gk = m + 1 := ⟨gk - 1, by omega⟩
      obtain ⟨ad, rfl, x0, x1, x2, x3, x4⟩ := at_T32 (Kd.C_below HR.out (sl_below0 HS.out)) (i : Int) (by omega) (by omega)
      rw [Int.toNat_natCast] at x0 x1 x2 x3 x4
      have p1 : (0 : Int) ≤ (i : Int) := by omega
      have p2 : (i : Int) < (l.length : Int) := by omega
      have gbl := blk_lt (sl_blk HS.out 2 rfl)
      have g0_ := (blk_cell (sl_blk HS.out 2 rfl) 0).trans (show _ = some (Value.slice Z1 z1 y1) from rfl)
      generalize rd_T32 l (i : Int) = x at x0 x1 x2 x3 x4
      by_cases k0 : x.f0 = 0
      · have bk0 : (x.f0 == 0) = true := beq_iff_eq.2 k0
        clear k0
        go_upto_region 21 with (first
          | (go_at_call 10; refine (New_calls w _ _ (by repeat (with_reducible first | exact HS.out | apply sl_drewN | apply sl_drew | apply sl_box | apply sl_alloc))).mono ?_; rintro e w1 ⟨g, rfl, hs⟩; (try simp only [World.size_alloc] at hs); replace HS := Aside0.mk hs; clear hs; (try (have hb2 := sl_blk HS.out 2 (by rfl); (try simp only [World.size_alloc] at hb2); have lt2 := blk_lt hb2; have c2_0 := (blk_cell hb2 0).trans (show _ = some _ from rfl); have c2_1 := (blk_cell hb2 1).trans (show _ = some _ from rfl); have c2_2 := (blk_cell hb2 2).trans (show _ = some _ from rfl); clear hb2)); (try (have hb3 := sl_blk HS.out 3 (by rfl); (try simp only [World.size_alloc] at hb3); have lt3 := blk_lt hb3; have c3_0 := (blk_cell hb3 0).trans (show _ = some _ from rfl); have c3_1 := (blk_cell hb3 1).trans (show _ = some _ from rfl); have c3_2 := (blk_cell hb3 2).trans (show _ = some _ from rfl); have c3_3 := (blk_cell hb3 3).trans (show _ = some _ from rfl); have c3_4 := (blk_cell hb3 4).trans (show _ = some _ from rfl); clear hb3)); (try (have hb4 := sl_blk HS.out 4 (by rfl); (try simp only [World.size_alloc] at hb4); have lt4 := blk_lt hb4; have c4_0 := (blk_cell hb4 0).trans (show _ = some _ from rfl); have c4_1 := (blk_cell hb4 1).trans (show _ = some _ from rfl); have c4_2 := (blk_cell hb4 2).trans (show _ = some _ from rfl); have c4_3 := (blk_cell hb4 3).trans (show _ = some _ from rfl); clear hb4)); (try (have fz2_0 := blk_frozen (sl_blk HS.out 2 (by rfl)) 0; have fz2_1 := blk_frozen (sl_blk HS.out 2 (by rfl)) 1; have fz2_2 := blk_frozen (sl_blk HS.out 2 (by rfl)) 2)))
          | (go_at_call 12; refine (Send_sl 0 _ _ _ _ rfl (by repeat (with_reducible first | exact HS.out | apply sl_drewN | apply sl_drew | apply sl_box | apply sl_alloc))).mono ?_; rintro e w1 ⟨rfl, hs⟩; (try simp only [World.size_alloc] at hs); replace HS := Aside0.mk hs; clear hs; (try (have hb2 := sl_blk HS.out 2 (by rfl); (try simp only [World.size_alloc] at hb2); have lt2 := blk_lt hb2; have c2_0 := (blk_cell hb2 0).trans (show _ = some _ from rfl); have c2_1 := (blk_cell hb2 1).trans (show _ = some _ from rfl); have c2_2 := (blk_cell hb2 2).trans (show _ = some _ from rfl); clear hb2)); (try (have hb3 := sl_blk HS.out 3 (by rfl); (try simp only [World.size_alloc] at hb3); have lt3 := blk_lt hb3; have c3_0 := (blk_cell hb3 0).trans (show _ = some _ from rfl); have c3_1 := (blk_cell hb3 1).trans (show _ = some _ from rfl); have c3_2 := (blk_cell hb3 2).trans (show _ = some _ from rfl); have c3_3 := (blk_cell hb3 3).trans (show _ = some _ from rfl); have c3_4 := (blk_cell hb3 4).trans (show _ = some _ from rfl); clear hb3)); (try (have hb4 := sl_blk HS.out 4 (by rfl); (try simp only [World.size_alloc] at hb4); have lt4 := blk_lt hb4; have c4_0 := (blk_cell hb4 0).trans (show _ = some _ from rfl); have c4_1 := (blk_cell hb4 1).trans (show _ = some _ from rfl); have c4_2 := (blk_cell hb4 2).trans (show _ = some _ from rfl); have c4_3 := (blk_cell hb4 3).trans (show _ = some _ from rfl); clear hb4)); (try (have fz2_0 := blk_frozen (sl_blk HS.out 2 (by rfl)) 0; have fz2_1 := blk_frozen (sl_blk HS.out 2 (by rfl)) 1; have fz2_2 := blk_frozen (sl_blk HS.out 2 (by rfl)) 2)))
          | (go_at_call 14; refine (Ack_sl 0 _ rfl (by repeat (with_reducible first | exact HS.out | apply sl_drewN | apply sl_drew | apply sl_box | apply sl_alloc))).mono ?_; rintro e w1 ⟨rfl, hs⟩; (try simp only [World.size_alloc] at hs); replace HS := Aside0.mk hs; clear hs; (try (have hb2 := sl_blk HS.out 2 (by rfl); (try simp only [World.size_alloc] at hb2); have lt2 := blk_lt hb2; have c2_0 := (blk_cell hb2 0).trans (show _ = some _ from rfl); have c2_1 := (blk_cell hb2 1).trans (show _ = some _ from rfl); have c2_2 := (blk_cell hb2 2).trans (show _ = some _ from rfl); clear hb2)); (try (have hb3 := sl_blk HS.out 3 (by rfl); (try simp only [World.size_alloc] at hb3); have lt3 := blk_lt hb3; have c3_0 := (blk_cell hb3 0).trans (show _ = some _ from rfl); have c3_1 := (blk_cell hb3 1).trans (show _ = some _ from rfl); have c3_2 := (blk_cell hb3 2).trans (show _ = some _ from rfl); have c3_3 := (blk_cell hb3 3).trans (show _ = some _ from rfl); have c3_4 := (blk_cell hb3 4).trans (show _ = some _ from rfl); clear hb3)); (try (have hb4 := sl_blk HS.out 4 (by rfl); (try simp only [World.size_alloc] at hb4); have lt4 := blk_lt hb4; have c4_0 := (blk_cell hb4 0).trans (show _ = some _ from rfl); have c4_1 := (blk_cell hb4 1).trans (show _ = some _ from rfl); have c4_2 := (blk_cell hb4 2).trans (show _ = some _ from rfl); have c4_3 := (blk_cell hb4 3).trans (show _ = some _ from rfl); clear hb4)); (try (have fz2_0 := blk_frozen (sl_blk HS.out 2 (by rfl)) 0; have fz2_1 := blk_frozen (sl_blk HS.out 2 (by rfl)) 1; have fz2_2 := blk_frozen (sl_blk HS.out 2 (by rfl)) 2)))
          | (go_at_call 16; refine (Apply_sl 0 rfl (by repeat (with_reducible first | exact HS.out | apply sl_drewN | apply sl_drew | apply sl_box | apply sl_alloc))).mono ?_; rintro e w1 ⟨rfl, hs⟩; unfold rcfg; (try simp only [World.size_alloc] at hs); replace HS := Aside0.mk hs; clear hs; (try (have hb2 := sl_blk HS.out 2 (by rfl); (try simp only [World.size_alloc] at hb2); have lt2 := blk_lt hb2; have c2_0 := (blk_cell hb2 0).trans (show _ = some _ from rfl); have c2_1 := (blk_cell hb2 1).trans (show _ = some _ from rfl); have c2_2 := (blk_cell hb2 2).trans (show _ = some _ from rfl); clear hb2)); (try (have hb3 := sl_blk HS.out 3 (by rfl); (try simp only [World.size_alloc] at hb3); have lt3 := blk_lt hb3; have c3_0 := (blk_cell hb3 0).trans (show _ = some _ from rfl); have c3_1 := (blk_cell hb3 1).trans (show _ = some _ from rfl); have c3_2 := (blk_cell hb3 2).trans (show _ = some _ from rfl); have c3_3 := (blk_cell hb3 3).trans (show _ = some _ from rfl); have c3_4 := (blk_cell hb3 4).trans (show _ = some _ from rfl); clear hb3)); (try (have hb4 := sl_blk HS.out 4 (by rfl); (try simp only [World.size_alloc] at hb4); have lt4 := blk_lt hb4; have c4_0 := (blk_cell hb4 0).trans (show _ = some _ from rfl); have c4_1 := (blk_cell hb4 1).trans (show _ = some _ from rfl); have c4_2 := (blk_cell hb4 2).trans (show _ = some _ from rfl); have c4_3 := (blk_cell hb4 3).trans (show _ = some _ from rfl); clear hb4)); (try (have fz2_0 := blk_frozen (sl_blk HS.out 2 (by rfl)) 0; have fz2_1 := blk_frozen (sl_blk HS.out 2 (by rfl)) 1; have fz2_2 := blk_frozen (sl_blk HS.out 2 (by rfl)) 2)))
          | (go_at_call 18; refine (Acked_sl 0 rfl (by repeat (with_reducible first | exact HS.out | apply sl_drewN | apply sl_drew | apply sl_box | apply sl_alloc))).mono ?_; rintro e w1 ⟨rfl, hs⟩; unfold rcfg; (try simp only [World.size_alloc] at hs); replace HS := Aside0.mk hs; clear hs; (try (have hb2 := sl_blk HS.out 2 (by rfl); (try simp only [World.size_alloc] at hb2); have lt2 := blk_lt hb2; have c2_0 := (blk_cell hb2 0).trans (show _ = some _ from rfl); have c2_1 := (blk_cell hb2 1).trans (show _ = some _ from rfl); have c2_2 := (blk_cell hb2 2).trans (show _ = some _ from rfl); clear hb2)); (try (have hb3 := sl_blk HS.out 3 (by rfl); (try simp only [World.size_alloc] at hb3); have lt3 := blk_lt hb3; have c3_0 := (blk_cell hb3 0).trans (show _ = some _ from rfl); have c3_1 := (blk_cell hb3 1).trans (show _ = some _ from rfl); have c3_2 := (blk_cell hb3 2).trans (show _ = some _ from rfl); have c3_3 := (blk_cell hb3 3).trans (show _ = some _ from rfl); have c3_4 := (blk_cell hb3 4).trans (show _ = some _ from rfl); clear hb3)); (try (have hb4 := sl_blk HS.out 4 (by rfl); (try simp only [World.size_alloc] at hb4); have lt4 := blk_lt hb4; have c4_0 := (blk_cell hb4 0).trans (show _ = some _ from rfl); have c4_1 := (blk_cell hb4 1).trans (show _ = some _ from rfl); have c4_2 := (blk_cell hb4 2).trans (show _ = some _ from rfl); have c4_3 := (blk_cell hb4 3).trans (show _ = some _ from rfl); clear hb4)); (try (have fz2_0 := blk_frozen (sl_blk HS.out 2 (by rfl)) 0; have fz2_1 := blk_frozen (sl_blk HS.out 2 (by rfl)) 1; have fz2_2 := blk_frozen (sl_blk HS.out 2 (by rfl)) 2)))
          | (go_at_call 20; refine (Waiting_sl 0 rfl (by repeat (with_reducible first | exact HS.out | apply sl_drewN | apply sl_drew | apply sl_box | apply sl_alloc))).mono ?_; rintro e w1 ⟨rfl, rfl⟩)
          | (go_at_call 22; refine (Configured_sl 0 rfl (by repeat (with_reducible first | exact HS.out | apply sl_drewN | apply sl_drew | apply sl_box | apply sl_alloc))).mono ?_; rintro e w1 ⟨rfl, rfl⟩)
          | (go_at_call 11; refine (rNew_calls w _ _ (by repeat (with_reducible first | exact HS.out | apply sl_drewN | apply sl_drew | apply sl_box | apply sl_alloc))).mono ?_; rintro e w2 ⟨rfl, hs⟩; unfold rv; (try simp only [World.size_alloc] at hs); replace HS := Aside0.mk hs; clear hs; (try (have hb2 := sl_blk HS.out 2 (by rfl); (try simp only [World.size_alloc] at hb2); have lt2 := blk_lt hb2; have c2_0 := (blk_cell hb2 0).trans (show _ = some _ from rfl); have c2_1 := (blk_cell hb2 1).trans (show _ = some _ from rfl); have c2_2 := (blk_cell hb2 2).trans (show _ = some _ from rfl); clear hb2)); (try (have hb3 := sl_blk HS.out 3 (by rfl); (try simp only [World.size_alloc] at hb3); have lt3 := blk_lt hb3; have c3_0 := (blk_cell hb3 0).trans (show _ = some _ from rfl); have c3_1 := (blk_cell hb3 1).trans (show _ = some _ from rfl); have c3_2 := (blk_cell hb3 2).trans (show _ = some _ from rfl); have c3_3 := (blk_cell hb3 3).trans (show _ = some _ from rfl); have c3_4 := (blk_cell hb3 4).trans (show _ = some _ from rfl); clear hb3)); (try (have hb4 := sl_blk HS.out 4 (by rfl); (try simp only [World.size_alloc] at hb4); have lt4 := blk_lt hb4; have c4_0 := (blk_cell hb4 0).trans (show _ = some _ from rfl); have c4_1 := (blk_cell hb4 1).trans (show _ = some _ from rfl); have c4_2 := (blk_cell hb4 2).trans (show _ = some _ from rfl); have c4_3 := (blk_cell hb4 3).trans (show _ = some _ from rfl); clear hb4)); (try (have fz2_0 := blk_frozen (sl_blk HS.out 2 (by rfl)) 0; have fz2_1 := blk_frozen (sl_blk HS.out 2 (by rfl)) 1; have fz2_2 := blk_frozen (sl_blk HS.out 2 (by rfl)) 2)))
          | (go_at_call 13; refine (rSend_sl 1 _ _ _ _ rfl (by repeat (with_reducible first | exact HS.out | apply sl_drewN | apply sl_drew | apply sl_box | apply sl_alloc))).mono ?_; rintro e w2 ⟨⟨t1, t2⟩, rfl, hs⟩; obtain ⟨B1, n1, d1, B2, n2, d2, hb1_, hb2_⟩ := ref_slices hs 1 (by rfl); dsimp only at hb1_ hb2_; subst hb1_ hb2_; (try simp only [World.size_alloc] at hs); replace HS := Aside0.mk hs; clear hs; (try (have hb2 := sl_blk HS.out 2 (by rfl); (try simp only [World.size_alloc] at hb2); have lt2 := blk_lt hb2; have c2_0 := (blk_cell hb2 0).trans (show _ = some _ from rfl); have c2_1 := (blk_cell hb2 1).trans (show _ = some _ from rfl); have c2_2 := (blk_cell hb2 2).trans (show _ = some _ from rfl); clear hb2)); (try (have hb3 := sl_blk HS.out 3 (by rfl); (try simp only [World.size_alloc] at hb3); have lt3 := blk_lt hb3; have c3_0 := (blk_cell hb3 0).trans (show _ = some _ from rfl); have c3_1 := (blk_cell hb3 1).trans (show _ = some _ from rfl); have c3_2 := (blk_cell hb3 2).trans (show _ = some _ from rfl); have c3_3 := (blk_cell hb3 3).trans (show _ = some _ from rfl); have c3_4 := (blk_cell hb3 4).trans (show _ = some _ from rfl); clear hb3)); (try (have hb4 := sl_blk HS.out 4 (by rfl); (try simp only [World.size_alloc] at hb4); have lt4 := blk_lt hb4; have c4_0 := (blk_cell hb4 0).trans (show _ = some _ from rfl); have c4_1 := (blk_cell hb4 1).trans (show _ = some _ from rfl); have c4_2 := (blk_cell hb4 2).trans (show _ = some _ from rfl); have c4_3 := (blk_cell hb4 3).trans (show _ = some _ from rfl); clear hb4)); (try (have fz2_0 := blk_frozen (sl_blk HS.out 2 (by rfl)) 0; have fz2_1 := blk_frozen (sl_blk HS.out 2 (by rfl)) 1; have fz2_2 := blk_frozen (sl_blk HS.out 2 (by rfl)) 2)))
          | (go_at_call 15; refine (rAck_sl 1 _ rfl (by repeat (with_reducible first | exact HS.out | apply sl_drewN | apply sl_drew | apply sl_box | apply sl_alloc))).mono ?_; rintro e w2 ⟨⟨t1, t2⟩, rfl, hs⟩; obtain ⟨B1, n1, d1, B2, n2, d2, hb1_, hb2_⟩ := ref_slices hs 1 (by rfl); dsimp only at hb1_ hb2_; subst hb1_ hb2_; (try simp only [World.size_alloc] at hs); replace HS := Aside0.mk hs; clear hs; (try (have hb2 := sl_blk HS.out 2 (by rfl); (try simp only [World.size_alloc] at hb2); have lt2 := blk_lt hb2; have c2_0 := (blk_cell hb2 0).trans (show _ = some _ from rfl); have c2_1 := (blk_cell hb2 1).trans (show _ = some _ from rfl); have c2_2 := (blk_cell hb2 2).trans (show _ = some _ from rfl); clear hb2)); (try (have hb3 := sl_blk HS.out 3 (by rfl); (try simp only [World.size_alloc] at hb3); have lt3 := blk_lt hb3; have c3_0 := (blk_cell hb3 0).trans (show _ = some _ from rfl); have c3_1 := (blk_cell hb3 1).trans (show _ = some _ from rfl); have c3_2 := (blk_cell hb3 2).trans (show _ = some _ from rfl); have c3_3 := (blk_cell hb3 3).trans (show _ = some _ from rfl); have c3_4 := (blk_cell hb3 4).trans (show _ = some _ from rfl); clear hb3)); (try (have hb4 := sl_blk HS.out 4 (by rfl); (try simp only [World.size_alloc] at hb4); have lt4 := blk_lt hb4; have c4_0 := (blk_cell hb4 0).trans (show _ = some _ from rfl); have c4_1 := (blk_cell hb4 1).trans (show _ = some _ from rfl); have c4_2 := (blk_cell hb4 2).trans (show _ = some _ from rfl); have c4_3 := (blk_cell hb4 3).trans (show _ = some _ from rfl); clear hb4)); (try (have fz2_0 := blk_frozen (sl_blk HS.out 2 (by rfl)) 0; have fz2_1 := blk_frozen (sl_blk HS.out 2 (by rfl)) 1; have fz2_2 := blk_frozen (sl_blk HS.out 2 (by rfl)) 2)))
          | (go_at_call 17; refine (rApply_sl 1 HV.out rfl (by repeat (with_reducible first | exact HS.out | apply sl_drewN | apply sl_drew | apply sl_box | apply sl_alloc))).mono ?_; rintro e w2 ⟨rfl, hs⟩; (try simp only [World.size_alloc] at hs); replace HS := Aside0.mk hs; clear hs; (try (have hb2 := sl_blk HS.out 2 (by rfl); (try simp only [World.size_alloc] at hb2); have lt2 := blk_lt hb2; have c2_0 := (blk_cell hb2 0).trans (show _ = some _ from rfl); have c2_1 := (blk_cell hb2 1).trans (show _ = some _ from rfl); have c2_2 := (blk_cell hb2 2).trans (show _ = some _ from rfl); clear hb2)); (try (have hb3 := sl_blk HS.out 3 (by rfl); (try simp only [World.size_alloc] at hb3); have lt3 := blk_lt hb3; have c3_0 := (blk_cell hb3 0).trans (show _ = some _ from rfl); have c3_1 := (blk_cell hb3 1).trans (show _ = some _ from rfl); have c3_2 := (blk_cell hb3 2).trans (show _ = some _ from rfl); have c3_3 := (blk_cell hb3 3).trans (show _ = some _ from rfl); have c3_4 := (blk_cell hb3 4).trans (show _ = some _ from rfl); clear hb3)); (try (have hb4 := sl_blk HS.out 4 (by rfl); (try simp only [World.size_alloc] at hb4); have lt4 := blk_lt hb4; have c4_0 := (blk_cell hb4 0).trans (show _ = some _ from rfl); have c4_1 := (blk_cell hb4 1).trans (show _ = some _ from rfl); have c4_2 := (blk_cell hb4 2).trans (show _ = some _ from rfl); have c4_3 := (blk_cell hb4 3).trans (show _ = some _ from rfl); clear hb4)); (try (have fz2_0 := blk_frozen (sl_blk HS.out 2 (by rfl)) 0; have fz2_1 := blk_frozen (sl_blk HS.out 2 (by rfl)) 1; have fz2_2 := blk_frozen (sl_blk HS.out 2 (by rfl)) 2)))
          | (go_at_call 19; refine (rAcked_sl 1 HV.out rfl (by repeat (with_reducible first | exact HS.out | apply sl_drewN | apply sl_drew | apply sl_box | apply sl_alloc))).mono ?_; rintro e w2 ⟨rfl, hs⟩; unfold rcfg; (try simp only [World.size_alloc] at hs); replace HS := Aside0.mk hs; clear hs; (try (have hb2 := sl_blk HS.out 2 (by rfl); (try simp only [World.size_alloc] at hb2); have lt2 := blk_lt hb2; have c2_0 := (blk_cell hb2 0).trans (show _ = some _ from rfl); have c2_1 := (blk_cell hb2 1).trans (show _ = some _ from rfl); have c2_2 := (blk_cell hb2 2).trans (show _ = some _ from rfl); clear hb2)); (try (have hb3 := sl_blk HS.out 3 (by rfl); (try simp only [World.size_alloc] at hb3); have lt3 := blk_lt hb3; have c3_0 := (blk_cell hb3 0).trans (show _ = some _ from rfl); have c3_1 := (blk_cell hb3 1).trans (show _ = some _ from rfl); have c3_2 := (blk_cell hb3 2).trans (show _ = some _ from rfl); have c3_3 := (blk_cell hb3 3).trans (show _ = some _ from rfl); have c3_4 := (blk_cell hb3 4).trans (show _ = some _ from rfl); clear hb3)); (try (have hb4 := sl_blk HS.out 4 (by rfl); (try simp only [World.size_alloc] at hb4); have lt4 := blk_lt hb4; have c4_0 := (blk_cell hb4 0).trans (show _ = some _ from rfl); have c4_1 := (blk_cell hb4 1).trans (show _ = some _ from rfl); have c4_2 := (blk_cell hb4 2).trans (show _ = some _ from rfl); have c4_3 := (blk_cell hb4 3).trans (show _ = some _ from rfl); clear hb4)); (try (have fz2_0 := blk_frozen (sl_blk HS.out 2 (by rfl)) 0; have fz2_1 := blk_frozen (sl_blk HS.out 2 (by rfl)) 1; have fz2_2 := blk_frozen (sl_blk HS.out 2 (by rfl)) 2)))
          | (go_at_call 21; refine (rWaiting_sl 1 rfl (by repeat (with_reducible first | exact HS.out | apply sl_drewN | apply sl_drew | apply sl_box | apply sl_alloc))).mono ?_; rintro e w2 ⟨rfl, hs⟩; (try simp only [World.size_alloc] at hs); replace HS := Aside0.mk hs; clear hs; (try (have hb2 := sl_blk HS.out 2 (by rfl); (try simp only [World.size_alloc] at hb2); have lt2 := blk_lt hb2; have c2_0 := (blk_cell hb2 0).trans (show _ = some _ from rfl); have c2_1 := (blk_cell hb2 1).trans (show _ = some _ from rfl); have c2_2 := (blk_cell hb2 2).trans (show _ = some _ from rfl); clear hb2)); (try (have hb3 := sl_blk HS.out 3 (by rfl); (try simp only [World.size_alloc] at hb3); have lt3 := blk_lt hb3; have c3_0 := (blk_cell hb3 0).trans (show _ = some _ from rfl); have c3_1 := (blk_cell hb3 1).trans (show _ = some _ from rfl); have c3_2 := (blk_cell hb3 2).trans (show _ = some _ from rfl); have c3_3 := (blk_cell hb3 3).trans (show _ = some _ from rfl); have c3_4 := (blk_cell hb3 4).trans (show _ = some _ from rfl); clear hb3)); (try (have hb4 := sl_blk HS.out 4 (by rfl); (try simp only [World.size_alloc] at hb4); have lt4 := blk_lt hb4; have c4_0 := (blk_cell hb4 0).trans (show _ = some _ from rfl); have c4_1 := (blk_cell hb4 1).trans (show _ = some _ from rfl); have c4_2 := (blk_cell hb4 2).trans (show _ = some _ from rfl); have c4_3 := (blk_cell hb4 3).trans (show _ = some _ from rfl); clear hb4)); (try (have fz2_0 := blk_frozen (sl_blk HS.out 2 (by rfl)) 0; have fz2_1 := blk_frozen (sl_blk HS.out 2 (by rfl)) 1; have fz2_2 := blk_frozen (sl_blk HS.out 2 (by rfl)) 2)))
          | (go_at_call 23; refine (rConfigured_sl 1 rfl (by repeat (with_reducible first | exact HS.out | apply sl_drewN | apply sl_drew | apply sl_box | apply sl_alloc))).mono ?_; rintro e w2 ⟨rfl, hs⟩; (try simp only [World.size_alloc] at hs); replace HS := Aside0.mk hs; clear hs; (try (have hb2 := sl_blk HS.out 2 (by rfl); (try simp only [World.size_alloc] at hb2); have lt2 := blk_lt hb2; have c2_0 := (blk_cell hb2 0).trans (show _ = some _ from rfl); have c2_1 := (blk_cell hb2 1).trans (show _ = some _ from rfl); have c2_2 := (blk_cell hb2 2).trans (show _ = some _ from rfl); clear hb2)); (try (have hb3 := sl_blk HS.out 3 (by rfl); (try simp only [World.size_alloc] at hb3); have lt3 := blk_lt hb3; have c3_0 := (blk_cell hb3 0).trans (show _ = some _ from rfl); have c3_1 := (blk_cell hb3 1).trans (show _ = some _ from rfl); have c3_2 := (blk_cell hb3 2).trans (show _ = some _ from rfl); have c3_3 := (blk_cell hb3 3).trans (show _ = some _ from rfl); have c3_4 := (blk_cell hb3 4).trans (show _ = some _ from rfl); clear hb3)); (try (have hb4 := sl_blk HS.out 4 (by rfl); (try simp only [World.size_alloc] at hb4); have lt4 := blk_lt hb4; have c4_0 := (blk_cell hb4 0).trans (show _ = some _ from rfl); have c4_1 := (blk_cell hb4 1).trans (show _ = some _ from rfl); have c4_2 := (blk_cell hb4 2).trans (show _ = some _ from rfl); have c4_3 := (blk_cell hb4 3).trans (show _ = some _ from rfl); clear hb4)); (try (have fz2_0 := blk_frozen (sl_blk HS.out 2 (by rfl)) 0; have fz2_1 := blk_frozen (sl_blk HS.out 2 (by rfl)) 1; have fz2_2 := blk_frozen (sl_blk HS.out 2 (by rfl)) 2))))
        refine world_gen (F := fun w_ => Code.wp Try.prog _ _ _ w_) (fun w_ => SL w w_ [queueR g (sendS q x.f1 x.f2 x.f3 x.f4), refR (.slice B1 n1 d1) (.slice B2 n2 d2) (sendS q x.f1 x.f2 x.f3 x.f4), cellsR gb 28 #[.slice B1 n1 d1, .slice B2 n2 d2, .bool (sendS q x.f1 x.f2 x.f3 x.f4).conf]]) (sl_three (sl_put (sl_put (sl_put HS.out 2 rfl 0 _) 2 rfl 1 _) 2 rfl 2 _)) ?_
        have HV2 := Aside0.mk (HV.out.send x.f1 x.f2 x.f3 x.f4)
        (try clear gbl); (try clear g0_)
        intro w5 hs
        generalize (sendS q x.f1 x.f2 x.f3 x.f4) = q2 at hs HV2 ⊢
        generalize sendE q x.f1 x.f2 x.f3 = er
        have ber : (er != er) = false := by simp
        have bl : ((q2.wait.length : Int) != (q2.wait.length : Int)) = false := by simp
        have bl2 : (q2.wait.length != q2.wait.length) = false := by simp
        replace HS := Aside0.mk hs
        clear hs HV
        have HV := HV2
        clear HV2
        have gbl := blk_lt (sl_blk HS.out 2 rfl)
        have g0_ := (blk_cell (sl_blk HS.out 2 rfl) 0).trans (show _ = some (Value.slice B1 n1 d1) from rfl)
        have g1_ := (blk_cell (sl_blk HS.out 2 rfl) 1).trans (show _ = some (Value.slice B2 n2 d2) from rfl)
        have g2_ := (blk_cell (sl_blk HS.out 2 rfl) 2).trans (show _ = some (Value.bool q2.conf) from rfl)
        go_upto_region 23 with (first
          | (go_at_call 10; refine (New_calls w _ _ (by repeat (with_reducible first | exact HS.out | apply sl_drewN | apply sl_drew | apply sl_box | apply sl_alloc))).mono ?_; rintro e w1 ⟨g, rfl, hs⟩; (try simp only [World.size_alloc] at hs); replace HS := Aside0.mk hs; clear hs; (try (have hb2 := sl_blk HS.out 2 (by rfl); (try simp only [World.size_alloc] at hb2); have lt2 := blk_lt hb2; have c2_0 := (blk_cell hb2 0).trans (show _ = some _ from rfl); have c2_1 := (blk_cell hb2 1).trans (show _ = some _ from rfl); have c2_2 := (blk_cell hb2 2).trans (show _ = some _ from rfl); clear hb2)); (try (have hb3 := sl_blk HS.out 3 (by rfl); (try simp only [World.size_alloc] at hb3); have lt3 := blk_lt hb3; have c3_0 := (blk_cell hb3 0).trans (show _ = some _ from rfl); have c3_1 := (blk_cell hb3 1).trans (show _ = some _ from rfl); have c3_2 := (blk_cell hb3 2).trans (show _ = some _ from rfl); have c3_3 := (blk_cell hb3 3).trans (show _ = some _ from rfl); clear hb3)))
          | (go_at_call 12; refine (Send_sl 0 _ _ _ _ rfl (by repeat (with_reducible first | exact HS.out | apply sl_drewN | apply sl_drew | apply sl_box | apply sl_alloc))).mono ?_; rintro e w1 ⟨rfl, hs⟩; (try simp only [World.size_alloc] at hs); replace HS := Aside0.mk hs; clear hs; (try (have hb2 := sl_blk HS.out 2 (by rfl); (try simp only [World.size_alloc] at hb2); have lt2 := blk_lt hb2; have c2_0 := (blk_cell hb2 0).trans (show _ = some _ from rfl); have c2_1 := (blk_cell hb2 1).trans (show _ = some _ from rfl); have c2_2 := (blk_cell hb2 2).trans (show _ = some _ from rfl); clear hb2)); (try (have hb3 := sl_blk HS.out 3 (by rfl); (try simp only [World.size_alloc] at hb3); have lt3 := blk_lt hb3; have c3_0 := (blk_cell hb3 0).trans (show _ = some _ from rfl); have c3_1 := (blk_cell hb3 1).trans (show _ = some _ from rfl); have c3_2 := (blk_cell hb3 2).trans (show _ = some _ from rfl); have c3_3 := (blk_cell hb3 3).trans (show _ = some _ from rfl); clear hb3)))
          | (go_at_call 14; refine (Ack_sl 0 _ rfl (by repeat (with_reducible first | exact HS.out | apply sl_drewN | apply sl_drew | apply sl_box | apply sl_alloc))).mono ?_; rintro e w1 ⟨rfl, hs⟩; (try simp only [World.size_alloc] at hs); replace HS := Aside0.mk hs; clear hs; (try (have hb2 := sl_blk HS.out 2 (by rfl); (try simp only [World.size_alloc] at hb2); have lt2 := blk_lt hb2; have c2_0 := (blk_cell hb2 0).trans (show _ = some _ from rfl); have c2_1 := (blk_cell hb2 1).trans (show _ = some _ from rfl); have c2_2 := (blk_cell hb2 2).trans (show _ = some _ from rfl); clear hb2)); (try (have hb3 := sl_blk HS.out 3 (by rfl); (try simp only [World.size_alloc] at hb3); have lt3 := blk_lt hb3; have c3_0 := (blk_cell hb3 0).trans (show _ = some _ from rfl); have c3_1 := (blk_cell hb3 1).trans (show _ = some _ from rfl); have c3_2 := (blk_cell hb3 2).trans (show _ = some _ from rfl); have c3_3 := (blk_cell hb3 3).trans (show _ = some _ from rfl); clear hb3)))
          | (go_at_call 16; refine (Apply_sl 0 rfl (by repeat (with_reducible first | exact HS.out | apply sl_drewN | apply sl_drew | apply sl_box | apply sl_alloc))).mono ?_; rintro e w1 ⟨rfl, hs⟩; unfold rcfg; (try simp only [World.size_alloc] at hs); replace HS := Aside0.mk hs; clear hs; (try (have hb2 := sl_blk HS.out 2 (by rfl); (try simp only [World.size_alloc] at hb2); have lt2 := blk_lt hb2; have c2_0 := (blk_cell hb2 0).trans (show _ = some _ from rfl); have c2_1 := (blk_cell hb2 1).trans (show _ = some _ from rfl); have c2_2 := (blk_cell hb2 2).trans (show _ = some _ from rfl); clear hb2)); (try (have hb3 := sl_blk HS.out 3 (by rfl); (try simp only [World.size_alloc] at hb3); have lt3 := blk_lt hb3; have c3_0 := (blk_cell hb3 0).trans (show _ = some _ from rfl); have c3_1 := (blk_cell hb3 1).trans (show _ = some _ from rfl); have c3_2 := (blk_cell hb3 2).trans (show _ = some _ from rfl); have c3_3 := (blk_cell hb3 3).trans (show _ = some _ from rfl); clear hb3)))
          | (go_at_call 18; refine (Acked_sl 0 rfl (by repeat (with_reducible first | exact HS.out | apply sl_drewN | apply sl_drew | apply sl_box | apply sl_alloc))).mono ?_; rintro e w1 ⟨rfl, hs⟩; unfold rcfg; (try simp only [World.size_alloc] at hs); replace HS := Aside0.mk hs; clear hs; (try (have hb2 := sl_blk HS.out 2 (by rfl); (try simp only [World.size_alloc] at hb2); have lt2 := blk_lt hb2; have c2_0 := (blk_cell hb2 0).trans (show _ = some _ from rfl); have c2_1 := (blk_cell hb2 1).trans (show _ = some _ from rfl); have c2_2 := (blk_cell hb2 2).trans (show _ = some _ from rfl); clear hb2)); (try (have hb3 := sl_blk HS.out 3 (by rfl); (try simp only [World.size_alloc] at hb3); have lt3 := blk_lt hb3; have c3_0 := (blk_cell hb3 0).trans (show _ = some _ from rfl); have c3_1 := (blk_cell hb3 1).trans (show _ = some _ from rfl); have c3_2 := (blk_cell hb3 2).trans (show _ = some _ from rfl); have c3_3 := (blk_cell hb3 3).trans (show _ = some _ from rfl); clear hb3)))
          | (go_at_call 20; refine (Waiting_sl 0 rfl (by repeat (with_reducible first | exact HS.out | apply sl_drewN | apply sl_drew | apply sl_box | apply sl_alloc))).mono ?_; rintro e w1 ⟨rfl, rfl⟩)
          | (go_at_call 22; refine (Configured_sl 0 rfl (by repeat (with_reducible first | exact HS.out | apply sl_drewN | apply sl_drew | apply sl_box | apply sl_alloc))).mono ?_; rintro e w1 ⟨rfl, rfl⟩)
          | (go_at_call 11; refine (rNew_calls w _ _ (by repeat (with_reducible first | exact HS.out | apply sl_drewN | apply sl_drew | apply sl_box | apply sl_alloc))).mono ?_; rintro e w2 ⟨rfl, hs⟩; unfold rv; (try simp only [World.size_alloc] at hs); replace HS := Aside0.mk hs; clear hs; (try (have hb2 := sl_blk HS.out 2 (by rfl); (try simp only [World.size_alloc] at hb2); have lt2 := blk_lt hb2; have c2_0 := (blk_cell hb2 0).trans (show _ = some _ from rfl); have c2_1 := (blk_cell hb2 1).trans (show _ = some _ from rfl); have c2_2 := (blk_cell hb2 2).trans (show _ = some _ from rfl); clear hb2)); (try (have hb3 := sl_blk HS.out 3 (by rfl); (try simp only [World.size_alloc] at hb3); have lt3 := blk_lt hb3; have c3_0 := (blk_cell hb3 0).trans (show _ = some _ from rfl); have c3_1 := (blk_cell hb3 1).trans (show _ = some _ from rfl); have c3_2 := (blk_cell hb3 2).trans (show _ = some _ from rfl); have c3_3 := (blk_cell hb3 3).trans (show _ = some _ from rfl); clear hb3)))
          | (go_at_call 13; refine (rSend_sl 1 _ _ _ _ rfl (by repeat (with_reducible first | exact HS.out | apply sl_drewN | apply sl_drew | apply sl_box | apply sl_alloc))).mono ?_; rintro e w2 ⟨⟨t1, t2⟩, rfl, hs⟩; obtain ⟨B1, n1, d1, B2, n2, d2, hb1_, hb2_⟩ := ref_slices hs 1 (by rfl); dsimp only at hb1_ hb2_; subst hb1_ hb2_; (try simp only [World.size_alloc] at hs); replace HS := Aside0.mk hs; clear hs; (try (have hb2 := sl_blk HS.out 2 (by rfl); (try simp only [World.size_alloc] at hb2); have lt2 := blk_lt hb2; have c2_0 := (blk_cell hb2 0).trans (show _ = some _ from rfl); have c2_1 := (blk_cell hb2 1).trans (show _ = some _ from rfl); have c2_2 := (blk_cell hb2 2).trans (show _ = some _ from rfl); clear hb2)); (try (have hb3 := sl_blk HS.out 3 (by rfl); (try simp only [World.size_alloc] at hb3); have lt3 := blk_lt hb3; have c3_0 := (blk_cell hb3 0).trans (show _ = some _ from rfl); have c3_1 := (blk_cell hb3 1).trans (show _ = some _ from rfl); have c3_2 := (blk_cell hb3 2).trans (show _ = some _ from rfl); have c3_3 := (blk_cell hb3 3).trans (show _ = some _ from rfl); clear hb3)))
          | (go_at_call 15; refine (rAck_sl 1 _ rfl (by repeat (with_reducible first | exact HS.out | apply sl_drewN | apply sl_drew | apply sl_box | apply sl_alloc))).mono ?_; rintro e w2 ⟨⟨t1, t2⟩, rfl, hs⟩; obtain ⟨B1, n1, d1, B2, n2, d2, hb1_, hb2_⟩ := ref_slices hs 1 (by rfl); dsimp only at hb1_ hb2_; subst hb1_ hb2_; (try simp only [World.size_alloc] at hs); replace HS := Aside0.mk hs; clear hs; (try (have hb2 := sl_blk HS.out 2 (by rfl); (try simp only [World.size_alloc] at hb2); have lt2 := blk_lt hb2; have c2_0 := (blk_cell hb2 0).trans (show _ = some _ from rfl); have c2_1 := (blk_cell hb2 1).trans (show _ = some _ from rfl); have c2_2 := (blk_cell hb2 2).trans (show _ = some _ from rfl); clear hb2)); (try (have hb3 := sl_blk HS.out 3 (by rfl); (try simp only [World.size_alloc] at hb3); have lt3 := blk_lt hb3; have c3_0 := (blk_cell hb3 0).trans (show _ = some _ from rfl); have c3_1 := (blk_cell hb3 1).trans (show _ = some _ from rfl); have c3_2 := (blk_cell hb3 2).trans (show _ = some _ from rfl); have c3_3 := (blk_cell hb3 3).trans (show _ = some _ from rfl); clear hb3)))
          | (go_at_call 17; refine (rApply_sl 1 HV.out rfl (by repeat (with_reducible first | exact HS.out | apply sl_drewN | apply sl_drew | apply sl_box | apply sl_alloc))).mono ?_; rintro e w2 ⟨rfl, hs⟩; (try simp only [World.size_alloc] at hs); replace HS := Aside0.mk hs; clear hs; (try (have hb2 := sl_blk HS.out 2 (by rfl); (try simp only [World.size_alloc] at hb2); have lt2 := blk_lt hb2; have c2_0 := (blk_cell hb2 0).trans (show _ = some _ from rfl); have c2_1 := (blk_cell hb2 1).trans (show _ = some _ from rfl); have c2_2 := (blk_cell hb2 2).trans (show _ = some _ from rfl); clear hb2)); (try (have hb3 := sl_blk HS.out 3 (by rfl); (try simp only [World.size_alloc] at hb3); have lt3 := blk_lt hb3; have c3_0 := (blk_cell hb3 0).trans (show _ = some _ from rfl); have c3_1 := (blk_cell hb3 1).trans (show _ = some _ from rfl); have c3_2 := (blk_cell hb3 2).trans (show _ = some _ from rfl); have c3_3 := (blk_cell hb3 3).trans (show _ = some _ from rfl); clear hb3)))
          | (go_at_call 19; refine (rAcked_sl 1 HV.out rfl (by repeat (with_reducible first | exact HS.out | apply sl_drewN | apply sl_drew | apply sl_box | apply sl_alloc))).mono ?_; rintro e w2 ⟨rfl, hs⟩; unfold rcfg; (try simp only [World.size_alloc] at hs); replace HS := Aside0.mk hs; clear hs; (try (have hb2 := sl_blk HS.out 2 (by rfl); (try simp only [World.size_alloc] at hb2); have lt2 := blk_lt hb2; have c2_0 := (blk_cell hb2 0).trans (show _ = some _ from rfl); have c2_1 := (blk_cell hb2 1).trans (show _ = some _ from rfl); have c2_2 := (blk_cell hb2 2).trans (show _ = some _ from rfl); clear hb2)); (try (have hb3 := sl_blk HS.out 3 (by rfl); (try simp only [World.size_alloc] at hb3); have lt3 := blk_lt hb3; have c3_0 := (blk_cell hb3 0).trans (show _ = some _ from rfl); have c3_1 := (blk_cell hb3 1).trans (show _ = some _ from rfl); have c3_2 := (blk_cell hb3 2).trans (show _ = some _ from rfl); have c3_3 := (blk_cell hb3 3).trans (show _ = some _ from rfl); clear hb3)))
          | (go_at_call 21; refine (rWaiting_sl 1 rfl (by repeat (with_reducible first | exact HS.out | apply sl_drewN | apply sl_drew | apply sl_box | apply sl_alloc))).mono ?_; rintro e w2 ⟨rfl, hs⟩; (try simp only [World.size_alloc] at hs); replace HS := Aside0.mk hs; clear hs; (try (have hb2 := sl_blk HS.out 2 (by rfl); (try simp only [World.size_alloc] at hb2); have lt2 := blk_lt hb2; have c2_0 := (blk_cell hb2 0).trans (show _ = some _ from rfl); have c2_1 := (blk_cell hb2 1).trans (show _ = some _ from rfl); have c2_2 := (blk_cell hb2 2).trans (show _ = some _ from rfl); clear hb2)); (try (have hb3 := sl_blk HS.out 3 (by rfl); (try simp only [World.size_alloc] at hb3); have lt3 := blk_lt hb3; have c3_0 := (blk_cell hb3 0).trans (show _ = some _ from rfl); have c3_1 := (blk_cell hb3 1).trans (show _ = some _ from rfl); have c3_2 := (blk_cell hb3 2).trans (show _ = some _ from rfl); have c3_3 := (blk_cell hb3 3).trans (show _ = some _ from rfl); clear hb3)))
          | (go_at_call 23; refine (rConfigured_sl 1 rfl (by repeat (with_reducible first | exact HS.out | apply sl_drewN | apply sl_drew | apply sl_box | apply sl_alloc))).mono ?_; rintro e w2 ⟨rfl, hs⟩; (try simp only [World.size_alloc] at hs); replace HS := Aside0.mk hs; clear hs; (try (have hb2 := sl_blk HS.out 2 (by rfl); (try simp only [World.size_alloc] at hb2); have lt2 := blk_lt hb2; have c2_0 := (blk_cell hb2 0).trans (show _ = some _ from rfl); have c2_1 := (blk_cell hb2 1).trans (show _ = some _ from rfl); have c2_2 := (blk_cell hb2 2).trans (show _ = some _ from rfl); clear hb2)); (try (have hb3 := sl_blk HS.out 3 (by rfl); (try simp only [World.size_alloc] at hb3); have lt3 := blk_lt hb3; have c3_0 := (blk_cell hb3 0).trans (show _ = some _ from rfl); have c3_1 := (blk_cell hb3 1).trans (show _ = some _ from rfl); have c3_2 := (blk_cell hb3 2).trans (show _ = some _ from rfl); have c3_3 := (blk_cell hb3 3).trans (show _ = some _ from rfl); clear hb3))))
        obtain ⟨g14, h14⟩ : ∃ z, z = w1.heap.size := ⟨_, rfl⟩
        obtain ⟨g16, h16⟩ : ∃ z, z = w2.heap.size := ⟨_, rfl⟩
        have hs6 := sl_box HS.out #[.int .u32 q2.next.f0, .int .i64 q2.next.f1, .int .i64 q2.next.f2, .int .i64 q2.next.f3] 43
        rw [← h14, ← h16] at hs6
        rw [← h14, ← h16]
        refine world_gen (F := fun w_ => Code.wp Try.prog _ _ _ w_) (fun w_ => SL w w_ [queueR g q2, refR (.slice B1 n1 d1) (.slice B2 n2 d2) q2, cellsR gb 28 #[.slice B1 n1 d1, .slice B2 n2 d2, .bool q2.conf], cellsR g14 40 #[.int .u32 q2.next.f0, .int .i64 q2.next.f1, .int .i64 q2.next.f2, .int .i64 q2.next.f3], cellsR g16 43 #[.int .u32 q2.next.f0, .int .i64 q2.next.f1, .int .i64 q2.next.f2, .int .i64 q2.next.f3]]) hs6 ?_
        clear hs6 HS
        intro w6 hs6
        have HS6 := Aside0.mk hs6
        clear hs6 h14 h16
        refine start_ (n := 27) (S := fun w' => w'.cell? ⟨gb, 0, none⟩ = some (.slice B1 n1 d1) ∧ w'.cell? ⟨gb, 1, none⟩ = some (.slice B2 n2 d2) ∧ w'.cell? ⟨gb, 2, none⟩ = some (.bool q2.conf) ∧ w'.cell? ⟨g14, 0, none⟩ = some (.int .u32 q2.next.f0) ∧ w'.cell? ⟨g14, 1, none⟩ = some (.int .i64 q2.next.f1) ∧ w'.cell? ⟨g14, 2, none⟩ = some (.int .i64 q2.next.f2) ∧ w'.cell? ⟨g14, 3, none⟩ = some (.int .i64 q2.next.f3) ∧ w'.cell? ⟨g16, 0, none⟩ = some (.int .u32 q2.next.f0) ∧ w'.cell? ⟨g16, 1, none⟩ = some (.int .i64 q2.next.f1) ∧ w'.cell? ⟨g16, 2, none⟩ = some (.int .i64 q2.next.f2) ∧ w'.cell? ⟨g16, 3, none⟩ = some (.int .i64 q2.next.f3) ∧ SL w w' [queueR g q2, refR (.slice B1 n1 d1) (.slice B2 n2 d2) q2, cellsR gb 28 #[.slice B1 n1 d1, .slice B2 n2 d2, .bool q2.conf], cellsR g14 40 #[.int .u32 q2.next.f0, .int .i64 q2.next.f1, .int .i64 q2.next.f2, .int .i64 q2.next.f3], cellsR g16 43 #[.int .u32 q2.next.f0, .int .i64 q2.next.f1, .int .i64 q2.next.f2, .int .i64 q2.next.f3]]) (ds := []) #[false, false, false, false, false, false, false, false, false, false, false, false, false, false, false, false, false, false, false, false, false, false, false, false, false, false, false] (by kernel_rfl) rfl rfl ⟨(cell_b (sl_blk (sl_drew HS6.out) 2 rfl) rfl), (cell_b (sl_blk (sl_drew HS6.out) 2 rfl) rfl), (cell_b (sl_blk (sl_drew HS6.out) 2 rfl) rfl), (cell_b (sl_blk (sl_drew HS6.out) 3 rfl) rfl), (cell_b (sl_blk (sl_drew HS6.out) 3 rfl) rfl), (cell_b (sl_blk (sl_drew HS6.out) 3 rfl) rfl), (cell_b (sl_blk (sl_drew HS6.out) 3 rfl) rfl), (cell_b (sl_blk (sl_drew HS6.out) 4 rfl) rfl), (cell_b (sl_blk (sl_drew HS6.out) 4 rfl) rfl), (cell_b (sl_blk (sl_drew HS6.out) 4 rfl) rfl), (cell_b (sl_blk (sl_drew HS6.out) 4 rfl) rfl), (sl_drew HS6.out)⟩ (fun hHeld => ?_)
        refine pure_ (i := 0) (N := some 103) (v := ?_) (a' := ?_) #[true, false, false, false, false, false, false, false, false, false, false, false, false, false, false, false, false, false, false, false, false, false, false, false, false, false, false] rfl rfl (by kernel_rfl) (fun _ _ _ h => h) (Or.inl ⟨by rfl, ?_⟩) ?_ ?_
        rotate_left
        · intro w'
          go_simp
          with_reducible rfl
        rotate_left
        · simp only [Act.put, List.setIfInBounds_toArray, List.set_cons_zero, List.set_cons_succ, i64_w, i32_w, IntKind.wrap_u32, IntKind.wrap_u8, IntKind.wrap_u16]
          rfl
        refine pure_ (i := 1) (N := some 104) (v := ?_) (a' := ?_) #[true, true, false, false, false, false, false, false, false, false, false, false, false, false, false, false, false, false, false, false, false, false, false, false, false, false, false] rfl rfl (by kernel_rfl) (fun _ _ _ h => h) (Or.inl ⟨by rfl, ?_⟩) ?_ ?_
        rotate_left
        · intro w'
          go_simp
          with_reducible rfl
        rotate_left
        · simp only [Act.put, List.setIfInBounds_toArray, List.set_cons_zero, List.set_cons_succ, i64_w, i32_w, IntKind.wrap_u32, IntKind.wrap_u8, IntKind.wrap_u16]
          rfl
        refine pure_ (i := 2) (N := some 105) (v := ?_) (a' := ?_) #[true, true, true, false, false, false, false, false, false, false, false, false, false, false, false, false, false, false, false, false, false, false, false, false, false, false, false] rfl rfl (by kernel_rfl) (fun _ _ _ h => h) (Or.inl ⟨by rfl, ?_⟩) ?_ ?_
        rotate_left
        · intro w'
          go_simp
          with_reducible rfl
        rotate_left
        · simp only [Act.put, List.setIfInBounds_toArray, List.set_cons_zero, List.set_cons_succ, i64_w, i32_w, IntKind.wrap_u32, IntKind.wrap_u8, IntKind.wrap_u16]
          rfl
        refine pure_ (i := 3) (N := some 106) (v := ?_) (a' := ?_) #[true, true, true, true, false, false, false, false, false, false, false, false, false, false, false, false, false, false, false, false, false, false, false, false, false, false, false] rfl rfl (by kernel_rfl) (fun _ _ _ h => h) (Or.inl ⟨by rfl, ?_⟩) ?_ ?_
        rotate_left
        · intro w'
          go_simp
          with_reducible rfl
        rotate_left
        · simp only [Act.put, List.setIfInBounds_toArray, List.set_cons_zero, List.set_cons_succ, i64_w, i32_w, IntKind.wrap_u32, IntKind.wrap_u8, IntKind.wrap_u16]
          rfl
        refine pure_ (i := 4) (N := some 107) (v := ?_) (a' := ?_) #[true, true, true, true, true, false, false, false, false, false, false, false, false, false, false, false, false, false, false, false, false, false, false, false, false, false, false] rfl rfl (by kernel_rfl) (fun _ _ _ h => h) (Or.inl ⟨by rfl, ?_⟩) ?_ ?_
        rotate_left
        · intro w'
          go_simp
          with_reducible rfl
        rotate_left
        · simp only [Act.put, List.setIfInBounds_toArray, List.set_cons_zero, List.set_cons_succ, i64_w, i32_w, IntKind.wrap_u32, IntKind.wrap_u8, IntKind.wrap_u16]
          rfl
        refine take_ (i := 6) (N := some 109) (v := ?_) (a' := ?_) #[true, true, true, true, true, false, true, false, false, false, false, false, false, false, false, false, false, false, false, false, false, false, false, false, false, false, false] rfl rfl (by kernel_rfl) (fun _ _ _ h => h) (Or.inl ⟨by rfl, ?_⟩) hHeld ?_ ?_
        rotate_left
        · rintro w' ⟨s0, s1, s2, s3, s4, s5, s6, s7, s8, s9, s10, s11⟩
          go_simp
          with_reducible rfl
        rotate_left
        · simp only [Act.put, List.setIfInBounds_toArray, List.set_cons_zero, List.set_cons_succ, i64_w, i32_w, IntKind.wrap_u32, IntKind.wrap_u8, IntKind.wrap_u16]
          rfl
        refine one_ (i := 5) (N := some 108) #[true, true, true, true, true, true, true, false, false, false, false, false, false, false, false, false, false, false, false, false, false, false, false, false, false, false, false] rfl rfl (by kernel_rfl) (by decide) (fun K hK => ?_)
        refine goes_ Try.func20 (by kernel_rfl) rfl #[.pointer (some ⟨g, 0, none⟩)] (by rfl) rfl rfl (by (try simp only [List.map_toArray, List.map_cons, List.map_nil]); first | done | rfl) ?_
        with_reducible refine (Waiting_sl 0 rfl hHeld.2.2.2.2.2.2.2.2.2.2.2).mono ?_
        rintro e w7 ⟨rfl, rfl⟩
        refine ⟨_, rfl, ?_⟩
        refine hK.out _ _ ⟨(cell_b (sl_blk hHeld.2.2.2.2.2.2.2.2.2.2.2 2 rfl) rfl), (cell_b (sl_blk hHeld.2.2.2.2.2.2.2.2.2.2.2 2 rfl) rfl), (cell_b (sl_blk hHeld.2.2.2.2.2.2.2.2.2.2.2 2 rfl) rfl), (cell_b (sl_blk hHeld.2.2.2.2.2.2.2.2.2.2.2 3 rfl) rfl), (cell_b (sl_blk hHeld.2.2.2.2.2.2.2.2.2.2.2 3 rfl) rfl), (cell_b (sl_blk hHeld.2.2.2.2.2.2.2.2.2.2.2 3 rfl) rfl), (cell_b (sl_blk hHeld.2.2.2.2.2.2.2.2.2.2.2 3 rfl) rfl), (cell_b (sl_blk hHeld.2.2.2.2.2.2.2.2.2.2.2 4 rfl) rfl), (cell_b (sl_blk hHeld.2.2.2.2.2.2.2.2.2.2.2 4 rfl) rfl), (cell_b (sl_blk hHeld.2.2.2.2.2.2.2.2.2.2.2 4 rfl) rfl), (cell_b (sl_blk hHeld.2.2.2.2.2.2.2.2.2.2.2 4 rfl) rfl), hHeld.2.2.2.2.2.2.2.2.2.2.2⟩ (fun hHeld => ?_)
        clear hK K
        refine norm_ (a' := ?_) ?_ ?_
        rotate_left
        · show Act.put _ (some 108) _ = _
          simp only [Act.put, List.setIfInBounds_toArray, List.set_cons_zero, List.set_cons_succ, i64_w, i32_w, IntKind.wrap_u32, IntKind.wrap_u8, IntKind.wrap_u16]
          rfl
        refine one_ (i := 7) (N := some 110) #[true, true, true, true, true, true, true, true, false, false, false, false, false, false, false, false, false, false, false, false, false, false, false, false, false, false, false] rfl rfl (by kernel_rfl) (by decide) (fun K hK => ?_)
        refine goes_ Try.func21 (by kernel_rfl) rfl #[.agg #[.slice B1 n1 d1, .slice B2 n2 d2, .bool q2.conf]] (by rfl) rfl rfl (by (try simp only [List.map_toArray, List.map_cons, List.map_nil]); first | done | rfl) ?_
        with_reducible refine (rWaiting_sl 1 rfl hHeld.2.2.2.2.2.2.2.2.2.2.2).mono ?_
        rintro e w7 ⟨rfl, hs⟩
        refine ⟨_, rfl, ?_⟩
        refine hK.out _ _ ⟨(cell_b (sl_blk hs 2 rfl) rfl), (cell_b (sl_blk hs 2 rfl) rfl), (cell_b (sl_blk hs 2 rfl) rfl), (cell_b (sl_blk hs 3 rfl) rfl), (cell_b (sl_blk hs 3 rfl) rfl), (cell_b (sl_blk hs 3 rfl) rfl), (cell_b (sl_blk hs 3 rfl) rfl), (cell_b (sl_blk hs 4 rfl) rfl), (cell_b (sl_blk hs 4 rfl) rfl), (cell_b (sl_blk hs 4 rfl) rfl), (cell_b (sl_blk hs 4 rfl) rfl), hs⟩ (fun hHeld => ?_)
        clear hK K
        refine norm_ (a' := ?_) ?_ ?_
        rotate_left
        · show Act.put _ (some 110) _ = _
          simp only [Act.put, List.setIfInBounds_toArray, List.set_cons_zero, List.set_cons_succ, i64_w, i32_w, IntKind.wrap_u32, IntKind.wrap_u8, IntKind.wrap_u16]
          rfl
        refine pure_ (i := 8) (N := some 111) (v := ?_) (a' := ?_) #[true, true, true, true, true, true, true, true, true, false, false, false, false, false, false, false, false, false, false, false, false, false, false, false, false, false, false] rfl rfl (by kernel_rfl) (fun _ _ _ h => h) (Or.inl ⟨by rfl, ?_⟩) ?_ ?_
        rotate_left
        · intro w'
          go_simp
          with_reducible rfl
        rotate_left
        · simp only [Act.put, List.setIfInBounds_toArray, List.set_cons_zero, List.set_cons_succ, i64_w, i32_w, IntKind.wrap_u32, IntKind.wrap_u8, IntKind.wrap_u16]
          rfl
        refine pure_ (i := 9) (N := some 112) (v := ?_) (a' := ?_) #[true, true, true, true, true, true, true, true, true, true, false, false, false, false, false, false, false, false, false, false, false, false, false, false, false, false, false] rfl rfl (by kernel_rfl) (fun _ _ _ h => h) (Or.inl ⟨by rfl, ?_⟩) ?_ ?_
        rotate_left
        · intro w'
          go_simp
          with_reducible rfl
        rotate_left
        · simp only [Act.put, List.setIfInBounds_toArray, List.set_cons_zero, List.set_cons_succ, i64_w, i32_w, IntKind.wrap_u32, IntKind.wrap_u8, IntKind.wrap_u16]
          rfl
        refine pure_ (i := 10) (N := some 113) (v := ?_) (a' := ?_) #[true, true, true, true, true, true, true, true, true, true, true, false, false, false, false, false, false, false, false, false, false, false, false, false, false, false, false] rfl rfl (by kernel_rfl) (fun _ _ _ h => h) (Or.inl ⟨by rfl, ?_⟩) ?_ ?_
        rotate_left
        · intro w'
          go_simp
          with_reducible rfl
        rotate_left
        · simp only [Act.put, List.setIfInBounds_toArray, List.set_cons_zero, List.set_cons_succ, i64_w, i32_w, IntKind.wrap_u32, IntKind.wrap_u8, IntKind.wrap_u16]
          rfl
        refine take_ (i := 11) (N := some 114) (v := ?_) (a' := ?_) #[true, true, true, true, true, true, true, true, true, true, true, true, false, false, false, false, false, false, false, false, false, false, false, false, false, false, false] rfl rfl (by kernel_rfl) (fun _ _ _ h => h) (Or.inl ⟨by rfl, ?_⟩) hHeld ?_ ?_
        rotate_left
        · rintro w' ⟨s0, s1, s2, s3, s4, s5, s6, s7, s8, s9, s10, s11⟩
          go_simp
          with_reducible rfl
        rotate_left
        · simp only [Act.put, List.setIfInBounds_toArray, List.set_cons_zero, List.set_cons_succ, i64_w, i32_w, IntKind.wrap_u32, IntKind.wrap_u8, IntKind.wrap_u16]
          rfl
        refine take_ (i := 12) (N := some 115) (v := ?_) (a' := ?_) #[true, true, true, true, true, true, true, true, true, true, true, true, true, false, false, false, false, false, false, false, false, false, false, false, false, false, false] rfl rfl (by kernel_rfl) (fun _ _ _ h => h) (Or.inl ⟨by rfl, ?_⟩) hHeld ?_ ?_
        rotate_left
        · rintro w' ⟨s0, s1, s2, s3, s4, s5, s6, s7, s8, s9, s10, s11⟩
          go_simp
          with_reducible rfl
        rotate_left
        · simp only [Act.put, List.setIfInBounds_toArray, List.set_cons_zero, List.set_cons_succ, i64_w, i32_w, IntKind.wrap_u32, IntKind.wrap_u8, IntKind.wrap_u16]
          rfl
        refine pure_ (i := 13) (N := some 116) (v := ?_) (a' := ?_) #[true, true, true, true, true, true, true, true, true, true, true, true, true, true, false, false, false, false, false, false, false, false, false, false, false, false, false] rfl rfl (by kernel_rfl) (fun _ _ _ h => h) (Or.inl ⟨by rfl, ?_⟩) ?_ ?_
        rotate_left
        · intro w'
          go_simp
          with_reducible rfl
        rotate_left
        · simp only [Act.put, List.setIfInBounds_toArray, List.set_cons_zero, List.set_cons_succ, i64_w, i32_w, IntKind.wrap_u32, IntKind.wrap_u8, IntKind.wrap_u16]
          rfl
        refine pure_ (i := 14) (N := some 117) (v := ?_) (a' := ?_) #[true, true, true, true, true, true, true, true, true, true, true, true, true, true, true, false, false, false, false, false, false, false, false, false, false, false, false] rfl rfl (by kernel_rfl) (fun _ _ _ h => h) (Or.inl ⟨by rfl, ?_⟩) ?_ ?_
        rotate_left
        · intro w'
          go_simp
          with_reducible rfl
        rotate_left
        · simp only [Act.put, List.setIfInBounds_toArray, List.set_cons_zero, List.set_cons_succ, i64_w, i32_w, IntKind.wrap_u32, IntKind.wrap_u8, IntKind.wrap_u16]
          rfl
        refine pure_ (i := 15) (N := some 118) (v := ?_) (a' := ?_) #[true, true, true, true, true, true, true, true, true, true, true, true, true, true, true, true, false, false, false, false, false, false, false, false, false, false, false] rfl rfl (by kernel_rfl) (fun _ _ _ h => h) (Or.inl ⟨by rfl, ?_⟩) ?_ ?_
        rotate_left
        · intro w'
          go_simp
          with_reducible rfl
        rotate_left
        · simp only [Act.put, List.setIfInBounds_toArray, List.set_cons_zero, List.set_cons_succ, i64_w, i32_w, IntKind.wrap_u32, IntKind.wrap_u8, IntKind.wrap_u16]
          rfl
        refine pure_ (i := 16) (N := some 119) (v := ?_) (a' := ?_) #[true, true, true, true, true, true, true, true, true, true, true, true, true, true, true, true, true, false, false, false, false, false, false, false, false, false, false] rfl rfl (by kernel_rfl) (fun _ _ _ h => h) (Or.inl ⟨by rfl, ?_⟩) ?_ ?_
        rotate_left
        · intro w'
          go_simp
          with_reducible rfl
        rotate_left
        · simp only [Act.put, List.setIfInBounds_toArray, List.set_cons_zero, List.set_cons_succ, i64_w, i32_w, IntKind.wrap_u32, IntKind.wrap_u8, IntKind.wrap_u16]
          rfl
        refine pure_ (i := 17) (N := some 120) (v := ?_) (a' := ?_) #[true, true, true, true, true, true, true, true, true, true, true, true, true, true, true, true, true, true, false, false, false, false, false, false, false, false, false] rfl rfl (by kernel_rfl) (fun _ _ _ h => h) (Or.inl ⟨by rfl, ?_⟩) ?_ ?_
        rotate_left
        · intro w'
          go_simp
          with_reducible rfl
        rotate_left
        · simp only [Act.put, List.setIfInBounds_toArray, List.set_cons_zero, List.set_cons_succ, i64_w, i32_w, IntKind.wrap_u32, IntKind.wrap_u8, IntKind.wrap_u16]
          rfl
        refine pure_ (i := 18) (N := some 121) (v := ?_) (a' := ?_) #[true, true, true, true, true, true, true, true, true, true, true, true, true, true, true, true, true, true, true, false, false, false, false, false, false, false, false] rfl rfl (by kernel_rfl) (fun _ _ _ h => h) (Or.inl ⟨by rfl, ?_⟩) ?_ ?_
        rotate_left
        · intro w'
          go_simp
          with_reducible rfl
        rotate_left
        · simp only [Act.put, List.setIfInBounds_toArray, List.set_cons_zero, List.set_cons_succ, i64_w, i32_w, IntKind.wrap_u32, IntKind.wrap_u8, IntKind.wrap_u16]
          rfl
        refine pure_ (i := 19) (N := some 122) (v := ?_) (a' := ?_) #[true, true, true, true, true, true, true, true, true, true, true, true, true, true, true, true, true, true, true, true, false, false, false, false, false, false, false] rfl rfl (by kernel_rfl) (fun _ _ _ h => h) (Or.inl ⟨by rfl, ?_⟩) ?_ ?_
        rotate_left
        · intro w'
          go_simp
          with_reducible rfl
        rotate_left
        · simp only [Act.put, List.setIfInBounds_toArray, List.set_cons_zero, List.set_cons_succ, i64_w, i32_w, IntKind.wrap_u32, IntKind.wrap_u8, IntKind.wrap_u16]
          rfl
        refine pure_ (i := 20) (N := some 123) (v := ?_) (a' := ?_) #[true, true, true, true, true, true, true, true, true, true, true, true, true, true, true, true, true, true, true, true, true, false, false, false, false, false, false] rfl rfl (by kernel_rfl) (fun _ _ _ h => h) (Or.inl ⟨by rfl, ?_⟩) ?_ ?_
        rotate_left
        · intro w'
          go_simp
          with_reducible rfl
        rotate_left
        · simp only [Act.put, List.setIfInBounds_toArray, List.set_cons_zero, List.set_cons_succ, i64_w, i32_w, IntKind.wrap_u32, IntKind.wrap_u8, IntKind.wrap_u16]
          rfl
        refine pure_ (i := 21) (N := some 124) (v := ?_) (a' := ?_) #[true, true, true, true, true, true, true, true, true, true, true, true, true, true, true, true, true, true, true, true, true, true, false, false, false, false, false] rfl rfl (by kernel_rfl) (fun _ _ _ h => h) (Or.inl ⟨by rfl, ?_⟩) ?_ ?_
        rotate_left
        · intro w'
          go_simp
          with_reducible rfl
        rotate_left
        · simp only [Act.put, List.setIfInBounds_toArray, List.set_cons_zero, List.set_cons_succ, i64_w, i32_w, IntKind.wrap_u32, IntKind.wrap_u8, IntKind.wrap_u16]
          rfl
        refine take_ (i := 23) (N := some 126) (v := ?_) (a' := ?_) #[true, true, true, true, true, true, true, true, true, true, true, true, true, true, true, true, true, true, true, true, true, true, false, true, false, false, false] rfl rfl (by kernel_rfl) (fun _ _ _ h => h) (Or.inl ⟨by rfl, ?_⟩) hHeld ?_ ?_
        rotate_left
        · rintro w' ⟨s0, s1, s2, s3, s4, s5, s6, s7, s8, s9, s10, s11⟩
          go_simp
          with_reducible rfl
        rotate_left
        · simp only [Act.put, List.setIfInBounds_toArray, List.set_cons_zero, List.set_cons_succ, i64_w, i32_w, IntKind.wrap_u32, IntKind.wrap_u8, IntKind.wrap_u16]
          rfl
        refine one_ (i := 22) (N := some 125) #[true, true, true, true, true, true, true, true, true, true, true, true, true, true, true, true, true, true, true, true, true, true, true, true, false, false, false] rfl rfl (by kernel_rfl) (by decide) (fun K hK => ?_)
        refine goes_ Try.func22 (by kernel_rfl) rfl #[.pointer (some ⟨g, 0, none⟩)] (by rfl) rfl rfl (by (try simp only [List.map_toArray, List.map_cons, List.map_nil]); first | done | rfl) ?_
        with_reducible refine (Configured_sl 0 rfl hHeld.2.2.2.2.2.2.2.2.2.2.2).mono ?_
        rintro e w7 ⟨rfl, rfl⟩
        refine ⟨_, rfl, ?_⟩
        refine hK.out _ _ ⟨(cell_b (sl_blk hHeld.2.2.2.2.2.2.2.2.2.2.2 2 rfl) rfl), (cell_b (sl_blk hHeld.2.2.2.2.2.2.2.2.2.2.2 2 rfl) rfl), (cell_b (sl_blk hHeld.2.2.2.2.2.2.2.2.2.2.2 2 rfl) rfl), (cell_b (sl_blk hHeld.2.2.2.2.2.2.2.2.2.2.2 3 rfl) rfl), (cell_b (sl_blk hHeld.2.2.2.2.2.2.2.2.2.2.2 3 rfl) rfl), (cell_b (sl_blk hHeld.2.2.2.2.2.2.2.2.2.2.2 3 rfl) rfl), (cell_b (sl_blk hHeld.2.2.2.2.2.2.2.2.2.2.2 3 rfl) rfl), (cell_b (sl_blk hHeld.2.2.2.2.2.2.2.2.2.2.2 4 rfl) rfl), (cell_b (sl_blk hHeld.2.2.2.2.2.2.2.2.2.2.2 4 rfl) rfl), (cell_b (sl_blk hHeld.2.2.2.2.2.2.2.2.2.2.2 4 rfl) rfl), (cell_b (sl_blk hHeld.2.2.2.2.2.2.2.2.2.2.2 4 rfl) rfl), hHeld.2.2.2.2.2.2.2.2.2.2.2⟩ (fun hHeld => ?_)
        clear hK K
        refine norm_ (a' := ?_) ?_ ?_
        rotate_left
        · show Act.put _ (some 125) _ = _
          simp only [Act.put, List.setIfInBounds_toArray, List.set_cons_zero, List.set_cons_succ, i64_w, i32_w, IntKind.wrap_u32, IntKind.wrap_u8, IntKind.wrap_u16]
          rfl
        refine one_ (i := 24) (N := some 127) #[true, true, true, true, true, true, true, true, true, true, true, true, true, true, true, true, true, true, true, true, true, true, true, true, true, false, false] rfl rfl (by kernel_rfl) (by decide) (fun K hK => ?_)
        refine goes_ Try.func23 (by kernel_rfl) rfl #[.agg #[.slice B1 n1 d1, .slice B2 n2 d2, .bool q2.conf]] (by rfl) rfl rfl (by (try simp only [List.map_toArray, List.map_cons, List.map_nil]); first | done | rfl) ?_
        with_reducible refine (rConfigured_sl 1 rfl hHeld.2.2.2.2.2.2.2.2.2.2.2).mono ?_
        rintro e w7 ⟨rfl, hs⟩
        refine ⟨_, rfl, ?_⟩
        refine hK.out _ _ ⟨(cell_b (sl_blk hs 2 rfl) rfl), (cell_b (sl_blk hs 2 rfl) rfl), (cell_b (sl_blk hs 2 rfl) rfl), (cell_b (sl_blk hs 3 rfl) rfl), (cell_b (sl_blk hs 3 rfl) rfl), (cell_b (sl_blk hs 3 rfl) rfl), (cell_b (sl_blk hs 3 rfl) rfl), (cell_b (sl_blk hs 4 rfl) rfl), (cell_b (sl_blk hs 4 rfl) rfl), (cell_b (sl_blk hs 4 rfl) rfl), (cell_b (sl_blk hs 4 rfl) rfl), hs⟩ (fun hHeld => ?_)
        clear hK K
        refine norm_ (a' := ?_) ?_ ?_
        rotate_left
        · show Act.put _ (some 127) _ = _
          simp only [Act.put, List.setIfInBounds_toArray, List.set_cons_zero, List.set_cons_succ, i64_w, i32_w, IntKind.wrap_u32, IntKind.wrap_u8, IntKind.wrap_u16]
          rfl
        refine pure_ (i := 25) (N := some 128) (v := ?_) (a' := ?_) #[true, true, true, true, true, true, true, true, true, true, true, true, true, true, true, true, true, true, true, true, true, true, true, true, true, true, false] rfl rfl (by kernel_rfl) (fun _ _ _ h => h) (Or.inl ⟨by rfl, ?_⟩) ?_ ?_
        rotate_left
        · intro w'
          go_simp
          with_reducible rfl
        rotate_left
        · simp only [Act.put, List.setIfInBounds_toArray, List.set_cons_zero, List.set_cons_succ, i64_w, i32_w, IntKind.wrap_u32, IntKind.wrap_u8, IntKind.wrap_u16]
          rfl
        refine pure_ (i := 26) (N := some 129) (v := ?_) (a' := ?_) #[true, true, true, true, true, true, true, true, true, true, true, true, true, true, true, true, true, true, true, true, true, true, true, true, true, true, true] rfl rfl (by kernel_rfl) (fun _ _ _ h => h) (Or.inl ⟨by rfl, ?_⟩) ?_ ?_
        rotate_left
        · intro w'
          go_simp
          with_reducible rfl
        rotate_left
        · simp only [Act.put, List.setIfInBounds_toArray, List.set_cons_zero, List.set_cons_succ, i64_w, i32_w, IntKind.wrap_u32, IntKind.wrap_u8, IntKind.wrap_u16]
          rfl
        refine done_ (by kernel_rfl) ?_
        have HF := Aside0.mk (sl_three hHeld.2.2.2.2.2.2.2.2.2.2.2)
        clear hHeld HS6 gbl
        go_wp2
        go_roundg kq
        case measure => omega
        case rel => exact ⟨i + 1, q2, (.slice B1 n1 d1), (.slice B2 n2 d2), rfl, ⟨by omega⟩, HV, HF⟩
      · have bk0 : (x.f0 == 0) = false := beq_eq_false_iff_ne.2 k0
        by_cases k1 : x.f0 = 1
        · have bk1 : (x.f0 == 1) = true := beq_iff_eq.2 k1
          clear k0 k1
          go_upto_region 21 with (first
          | (go_at_call 10; refine (New_calls w _ _ (by repeat (with_reducible first | exact HS.out | apply sl_drewN | apply sl_drew | apply sl_box | apply sl_alloc))).mono ?_; rintro e w1 ⟨g, rfl, hs⟩; (try simp only [World.size_alloc] at hs); replace HS := Aside0.mk hs; clear hs; (try (have hb2 := sl_blk HS.out 2 (by rfl); (try simp only [World.size_alloc] at hb2); have lt2 := blk_lt hb2; have c2_0 := (blk_cell hb2 0).trans (show _ = some _ from rfl); have c2_1 := (blk_cell hb2 1).trans (show _ = some _ from rfl); have c2_2 := (blk_cell hb2 2).trans (show _ = some _ from rfl); clear hb2)); (try (have hb3 := sl_blk HS.out 3 (by rfl); (try simp only [World.size_alloc] at hb3); have lt3 := blk_lt hb3; have c3_0 := (blk_cell hb3 0).trans (show _ = some _ from rfl); have c3_1 := (blk_cell hb3 1).trans (show _ = some _ from rfl); have c3_2 := (blk_cell hb3 2).trans (show _ = some _ from rfl); have c3_3 := (blk_cell hb3 3).trans (show _ = some _ from rfl); have c3_4 := (blk_cell hb3 4).trans (show _ = some _ from rfl); clear hb3)); (try (have hb4 := sl_blk HS.out 4 (by rfl); (try simp only [World.size_alloc] at hb4); have lt4 := blk_lt hb4; have c4_0 := (blk_cell hb4 0).trans (show _ = some _ from rfl); have c4_1 := (blk_cell hb4 1).trans (show _ = some _ from rfl); have c4_2 := (blk_cell hb4 2).trans (show _ = some _ from rfl); have c4_3 := (blk_cell hb4 3).trans (show _ = some _ from rfl); clear hb4)); (try (have fz2_0 := blk_frozen (sl_blk HS.out 2 (by rfl)) 0; have fz2_1 := blk_frozen (sl_blk HS.out 2 (by rfl)) 1; have fz2_2 := blk_frozen (sl_blk HS.out 2 (by rfl)) 2)))
          | (go_at_call 12; refine (Send_sl 0 _ _ _ _ rfl (by repeat (with_reducible first | exact HS.out | apply sl_drewN | apply sl_drew | apply sl_box | apply sl_alloc))).mono ?_; rintro e w1 ⟨rfl, hs⟩; (try simp only [World.size_alloc] at hs); replace HS := Aside0.mk hs; clear hs; (try (have hb2 := sl_blk HS.out 2 (by rfl); (try simp only [World.size_alloc] at hb2); have lt2 := blk_lt hb2; have c2_0 := (blk_cell hb2 0).trans (show _ = some _ from rfl); have c2_1 := (blk_cell hb2 1).trans (show _ = some _ from rfl); have c2_2 := (blk_cell hb2 2).trans (show _ = some _ from rfl); clear hb2)); (try (have hb3 := sl_blk HS.out 3 (by rfl); (try simp only [World.size_alloc] at hb3); have lt3 := blk_lt hb3; have c3_0 := (blk_cell hb3 0).trans (show _ = some _ from rfl); have c3_1 := (blk_cell hb3 1).trans (show _ = some _ from rfl); have c3_2 := (blk_cell hb3 2).trans (show _ = some _ from rfl); have c3_3 := (blk_cell hb3 3).trans (show _ = some _ from rfl); have c3_4 := (blk_cell hb3 4).trans (show _ = some _ from rfl); clear hb3)); (try (have hb4 := sl_blk HS.out 4 (by rfl); (try simp only [World.size_alloc] at hb4); have lt4 := blk_lt hb4; have c4_0 := (blk_cell hb4 0).trans (show _ = some _ from rfl); have c4_1 := (blk_cell hb4 1).trans (show _ = some _ from rfl); have c4_2 := (blk_cell hb4 2).trans (show _ = some _ from rfl); have c4_3 := (blk_cell hb4 3).trans (show _ = some _ from rfl); clear hb4)); (try (have fz2_0 := blk_frozen (sl_blk HS.out 2 (by rfl)) 0; have fz2_1 := blk_frozen (sl_blk HS.out 2 (by rfl)) 1; have fz2_2 := blk_frozen (sl_blk HS.out 2 (by rfl)) 2)))
          | (go_at_call 14; refine (Ack_sl 0 _ rfl (by repeat (with_reducible first | exact HS.out | apply sl_drewN | apply sl_drew | apply sl_box | apply sl_alloc))).mono ?_; rintro e w1 ⟨rfl, hs⟩; (try simp only [World.size_alloc] at hs); replace HS := Aside0.mk hs; clear hs; (try (have hb2 := sl_blk HS.out 2 (by rfl); (try simp only [World.size_alloc] at hb2); have lt2 := blk_lt hb2; have c2_0 := (blk_cell hb2 0).trans (show _ = some _ from rfl); have c2_1 := (blk_cell hb2 1).trans (show _ = some _ from rfl); have c2_2 := (blk_cell hb2 2).trans (show _ = some _ from rfl); clear hb2)); (try (have hb3 := sl_blk HS.out 3 (by rfl); (try simp only [World.size_alloc] at hb3); have lt3 := blk_lt hb3; have c3_0 := (blk_cell hb3 0).trans (show _ = some _ from rfl); have c3_1 := (blk_cell hb3 1).trans (show _ = some _ from rfl); have c3_2 := (blk_cell hb3 2).trans (show _ = some _ from rfl); have c3_3 := (blk_cell hb3 3).trans (show _ = some _ from rfl); have c3_4 := (blk_cell hb3 4).trans (show _ = some _ from rfl); clear hb3)); (try (have hb4 := sl_blk HS.out 4 (by rfl); (try simp only [World.size_alloc] at hb4); have lt4 := blk_lt hb4; have c4_0 := (blk_cell hb4 0).trans (show _ = some _ from rfl); have c4_1 := (blk_cell hb4 1).trans (show _ = some _ from rfl); have c4_2 := (blk_cell hb4 2).trans (show _ = some _ from rfl); have c4_3 := (blk_cell hb4 3).trans (show _ = some _ from rfl); clear hb4)); (try (have fz2_0 := blk_frozen (sl_blk HS.out 2 (by rfl)) 0; have fz2_1 := blk_frozen (sl_blk HS.out 2 (by rfl)) 1; have fz2_2 := blk_frozen (sl_blk HS.out 2 (by rfl)) 2)))
          | (go_at_call 16; refine (Apply_sl 0 rfl (by repeat (with_reducible first | exact HS.out | apply sl_drewN | apply sl_drew | apply sl_box | apply sl_alloc))).mono ?_; rintro e w1 ⟨rfl, hs⟩; unfold rcfg; (try simp only [World.size_alloc] at hs); replace HS := Aside0.mk hs; clear hs; (try (have hb2 := sl_blk HS.out 2 (by rfl); (try simp only [World.size_alloc] at hb2); have lt2 := blk_lt hb2; have c2_0 := (blk_cell hb2 0).trans (show _ = some _ from rfl); have c2_1 := (blk_cell hb2 1).trans (show _ = some _ from rfl); have c2_2 := (blk_cell hb2 2).trans (show _ = some _ from rfl); clear hb2)); (try (have hb3 := sl_blk HS.out 3 (by rfl); (try simp only [World.size_alloc] at hb3); have lt3 := blk_lt hb3; have c3_0 := (blk_cell hb3 0).trans (show _ = some _ from rfl); have c3_1 := (blk_cell hb3 1).trans (show _ = some _ from rfl); have c3_2 := (blk_cell hb3 2).trans (show _ = some _ from rfl); have c3_3 := (blk_cell hb3 3).trans (show _ = some _ from rfl); have c3_4 := (blk_cell hb3 4).trans (show _ = some _ from rfl); clear hb3)); (try (have hb4 := sl_blk HS.out 4 (by rfl); (try simp only [World.size_alloc] at hb4); have lt4 := blk_lt hb4; have c4_0 := (blk_cell hb4 0).trans (show _ = some _ from rfl); have c4_1 := (blk_cell hb4 1).trans (show _ = some _ from rfl); have c4_2 := (blk_cell hb4 2).trans (show _ = some _ from rfl); have c4_3 := (blk_cell hb4 3).trans (show _ = some _ from rfl); clear hb4)); (try (have fz2_0 := blk_frozen (sl_blk HS.out 2 (by rfl)) 0; have fz2_1 := blk_frozen (sl_blk HS.out 2 (by rfl)) 1; have fz2_2 := blk_frozen (sl_blk HS.out 2 (by rfl)) 2)))
          | (go_at_call 18; refine (Acked_sl 0 rfl (by repeat (with_reducible first | exact HS.out | apply sl_drewN | apply sl_drew | apply sl_box | apply sl_alloc))).mono ?_; rintro e w1 ⟨rfl, hs⟩; unfold rcfg; (try simp only [World.size_alloc] at hs); replace HS := Aside0.mk hs; clear hs; (try (have hb2 := sl_blk HS.out 2 (by rfl); (try simp only [World.size_alloc] at hb2); have lt2 := blk_lt hb2; have c2_0 := (blk_cell hb2 0).trans (show _ = some _ from rfl); have c2_1 := (blk_cell hb2 1).trans (show _ = some _ from rfl); have c2_2 := (blk_cell hb2 2).trans (show _ = some _ from rfl); clear hb2)); (try (have hb3 := sl_blk HS.out 3 (by rfl); (try simp only [World.size_alloc] at hb3); have lt3 := blk_lt hb3; have c3_0 := (blk_cell hb3 0).trans (show _ = some _ from rfl); have c3_1 := (blk_cell hb3 1).trans (show _ = some _ from rfl); have c3_2 := (blk_cell hb3 2).trans (show _ = some _ from rfl); have c3_3 := (blk_cell hb3 3).trans (show _ = some _ from rfl); have c3_4 := (blk_cell hb3 4).trans (show _ = some _ from rfl); clear hb3)); (try (have hb4 := sl_blk HS.out 4 (by rfl); (try simp only [World.size_alloc] at hb4); have lt4 := blk_lt hb4; have c4_0 := (blk_cell hb4 0).trans (show _ = some _ from rfl); have c4_1 := (blk_cell hb4 1).trans (show _ = some _ from rfl); have c4_2 := (blk_cell hb4 2).trans (show _ = some _ from rfl); have c4_3 := (blk_cell hb4 3).trans (show _ = some _ from rfl); clear hb4)); (try (have fz2_0 := blk_frozen (sl_blk HS.out 2 (by rfl)) 0; have fz2_1 := blk_frozen (sl_blk HS.out 2 (by rfl)) 1; have fz2_2 := blk_frozen (sl_blk HS.out 2 (by rfl)) 2)))
          | (go_at_call 20; refine (Waiting_sl 0 rfl (by repeat (with_reducible first | exact HS.out | apply sl_drewN | apply sl_drew | apply sl_box | apply sl_alloc))).mono ?_; rintro e w1 ⟨rfl, rfl⟩)
          | (go_at_call 22; refine (Configured_sl 0 rfl (by repeat (with_reducible first | exact HS.out | apply sl_drewN | apply sl_drew | apply sl_box | apply sl_alloc))).mono ?_; rintro e w1 ⟨rfl, rfl⟩)
          | (go_at_call 11; refine (rNew_calls w _ _ (by repeat (with_reducible first | exact HS.out | apply sl_drewN | apply sl_drew | apply sl_box | apply sl_alloc))).mono ?_; rintro e w2 ⟨rfl, hs⟩; unfold rv; (try simp only [World.size_alloc] at hs); replace HS := Aside0.mk hs; clear hs; (try (have hb2 := sl_blk HS.out 2 (by rfl); (try simp only [World.size_alloc] at hb2); have lt2 := blk_lt hb2; have c2_0 := (blk_cell hb2 0).trans (show _ = some _ from rfl); have c2_1 := (blk_cell hb2 1).trans (show _ = some _ from rfl); have c2_2 := (blk_cell hb2 2).trans (show _ = some _ from rfl); clear hb2)); (try (have hb3 := sl_blk HS.out 3 (by rfl); (try simp only [World.size_alloc] at hb3); have lt3 := blk_lt hb3; have c3_0 := (blk_cell hb3 0).trans (show _ = some _ from rfl); have c3_1 := (blk_cell hb3 1).trans (show _ = some _ from rfl); have c3_2 := (blk_cell hb3 2).trans (show _ = some _ from rfl); have c3_3 := (blk_cell hb3 3).trans (show _ = some _ from rfl); have c3_4 := (blk_cell hb3 4).trans (show _ = some _ from rfl); clear hb3)); (try (have hb4 := sl_blk HS.out 4 (by rfl); (try simp only [World.size_alloc] at hb4); have lt4 := blk_lt hb4; have c4_0 := (blk_cell hb4 0).trans (show _ = some _ from rfl); have c4_1 := (blk_cell hb4 1).trans (show _ = some _ from rfl); have c4_2 := (blk_cell hb4 2).trans (show _ = some _ from rfl); have c4_3 := (blk_cell hb4 3).trans (show _ = some _ from rfl); clear hb4)); (try (have fz2_0 := blk_frozen (sl_blk HS.out 2 (by rfl)) 0; have fz2_1 := blk_frozen (sl_blk HS.out 2 (by rfl)) 1; have fz2_2 := blk_frozen (sl_blk HS.out 2 (by rfl)) 2)))
          | (go_at_call 13; refine (rSend_sl 1 _ _ _ _ rfl (by repeat (with_reducible first | exact HS.out | apply sl_drewN | apply sl_drew | apply sl_box | apply sl_alloc))).mono ?_; rintro e w2 ⟨⟨t1, t2⟩, rfl, hs⟩; obtain ⟨B1, n1, d1, B2, n2, d2, hb1_, hb2_⟩ := ref_slices hs 1 (by rfl); dsimp only at hb1_ hb2_; subst hb1_ hb2_; (try simp only [World.size_alloc] at hs); replace HS := Aside0.mk hs; clear hs; (try (have hb2 := sl_blk HS.out 2 (by rfl); (try simp only [World.size_alloc] at hb2); have lt2 := blk_lt hb2; have c2_0 := (blk_cell hb2 0).trans (show _ = some _ from rfl); have c2_1 := (blk_cell hb2 1).trans (show _ = some _ from rfl); have c2_2 := (blk_cell hb2 2).trans (show _ = some _ from rfl); clear hb2)); (try (have hb3 := sl_blk HS.out 3 (by rfl); (try simp only [World.size_alloc] at hb3); have lt3 := blk_lt hb3; have c3_0 := (blk_cell hb3 0).trans (show _ = some _ from rfl); have c3_1 := (blk_cell hb3 1).trans (show _ = some _ from rfl); have c3_2 := (blk_cell hb3 2).trans (show _ = some _ from rfl); have c3_3 := (blk_cell hb3 3).trans (show _ = some _ from rfl); have c3_4 := (blk_cell hb3 4).trans (show _ = some _ from rfl); clear hb3)); (try (have hb4 := sl_blk HS.out 4 (by rfl); (try simp only [World.size_alloc] at hb4); have lt4 := blk_lt hb4; have c4_0 := (blk_cell hb4 0).trans (show _ = some _ from rfl); have c4_1 := (blk_cell hb4 1).trans (show _ = some _ from rfl); have c4_2 := (blk_cell hb4 2).trans (show _ = some _ from rfl); have c4_3 := (blk_cell hb4 3).trans (show _ = some _ from rfl); clear hb4)); (try (have fz2_0 := blk_frozen (sl_blk HS.out 2 (by rfl)) 0; have fz2_1 := blk_frozen (sl_blk HS.out 2 (by rfl)) 1; have fz2_2 := blk_frozen (sl_blk HS.out 2 (by rfl)) 2)))
          | (go_at_call 15; refine (rAck_sl 1 _ rfl (by repeat (with_reducible first | exact HS.out | apply sl_drewN | apply sl_drew | apply sl_box | apply sl_alloc))).mono ?_; rintro e w2 ⟨⟨t1, t2⟩, rfl, hs⟩; obtain ⟨B1, n1, d1, B2, n2, d2, hb1_, hb2_⟩ := ref_slices hs 1 (by rfl); dsimp only at hb1_ hb2_; subst hb1_ hb2_; (try simp only [World.size_alloc] at hs); replace HS := Aside0.mk hs; clear hs; (try (have hb2 := sl_blk HS.out 2 (by rfl); (try simp only [World.size_alloc] at hb2); have lt2 := blk_lt hb2; have c2_0 := (blk_cell hb2 0).trans (show _ = some _ from rfl); have c2_1 := (blk_cell hb2 1).trans (show _ = some _ from rfl); have c2_2 := (blk_cell hb2 2).trans (show _ = some _ from rfl); clear hb2)); (try (have hb3 := sl_blk HS.out 3 (by rfl); (try simp only [World.size_alloc] at hb3); have lt3 := blk_lt hb3; have c3_0 := (blk_cell hb3 0).trans (show _ = some _ from rfl); have c3_1 := (blk_cell hb3 1).trans (show _ = some _ from rfl); have c3_2 := (blk_cell hb3 2).trans (show _ = some _ from rfl); have c3_3 := (blk_cell hb3 3).trans (show _ = some _ from rfl); have c3_4 := (blk_cell hb3 4).trans (show _ = some _ from rfl); clear hb3)); (try (have hb4 := sl_blk HS.out 4 (by rfl); (try simp only [World.size_alloc] at hb4); have lt4 := blk_lt hb4; have c4_0 := (blk_cell hb4 0).trans (show _ = some _ from rfl); have c4_1 := (blk_cell hb4 1).trans (show _ = some _ from rfl); have c4_2 := (blk_cell hb4 2).trans (show _ = some _ from rfl); have c4_3 := (blk_cell hb4 3).trans (show _ = some _ from rfl); clear hb4)); (try (have fz2_0 := blk_frozen (sl_blk HS.out 2 (by rfl)) 0; have fz2_1 := blk_frozen (sl_blk HS.out 2 (by rfl)) 1; have fz2_2 := blk_frozen (sl_blk HS.out 2 (by rfl)) 2)))
          | (go_at_call 17; refine (rApply_sl 1 HV.out rfl (by repeat (with_reducible first | exact HS.out | apply sl_drewN | apply sl_drew | apply sl_box | apply sl_alloc))).mono ?_; rintro e w2 ⟨rfl, hs⟩; (try simp only [World.size_alloc] at hs); replace HS := Aside0.mk hs; clear hs; (try (have hb2 := sl_blk HS.out 2 (by rfl); (try simp only [World.size_alloc] at hb2); have lt2 := blk_lt hb2; have c2_0 := (blk_cell hb2 0).trans (show _ = some _ from rfl); have c2_1 := (blk_cell hb2 1).trans (show _ = some _ from rfl); have c2_2 := (blk_cell hb2 2).trans (show _ = some _ from rfl); clear hb2)); (try (have hb3 := sl_blk HS.out 3 (by rfl); (try simp only [World.size_alloc] at hb3); have lt3 := blk_lt hb3; have c3_0 := (blk_cell hb3 0).trans (show _ = some _ from rfl); have c3_1 := (blk_cell hb3 1).trans (show _ = some _ from rfl); have c3_2 := (blk_cell hb3 2).trans (show _ = some _ from rfl); have c3_3 := (blk_cell hb3 3).trans (show _ = some _ from rfl); have c3_4 := (blk_cell hb3 4).trans (show _ = some _ from rfl); clear hb3)); (try (have hb4 := sl_blk HS.out 4 (by rfl); (try simp only [World.size_alloc] at hb4); have lt4 := blk_lt hb4; have c4_0 := (blk_cell hb4 0).trans (show _ = some _ from rfl); have c4_1 := (blk_cell hb4 1).trans (show _ = some _ from rfl); have c4_2 := (blk_cell hb4 2).trans (show _ = some _ from rfl); have c4_3 := (blk_cell hb4 3).trans (show _ = some _ from rfl); clear hb4)); (try (have fz2_0 := blk_frozen (sl_blk HS.out 2 (by rfl)) 0; have fz2_1 := blk_frozen (sl_blk HS.out 2 (by rfl)) 1; have fz2_2 := blk_frozen (sl_blk HS.out 2 (by rfl)) 2)))
          | (go_at_call 19; refine (rAcked_sl 1 HV.out rfl (by repeat (with_reducible first | exact HS.out | apply sl_drewN | apply sl_drew | apply sl_box | apply sl_alloc))).mono ?_; rintro e w2 ⟨rfl, hs⟩; unfold rcfg; (try simp only [World.size_alloc] at hs); replace HS := Aside0.mk hs; clear hs; (try (have hb2 := sl_blk HS.out 2 (by rfl); (try simp only [World.size_alloc] at hb2); have lt2 := blk_lt hb2; have c2_0 := (blk_cell hb2 0).trans (show _ = some _ from rfl); have c2_1 := (blk_cell hb2 1).trans (show _ = some _ from rfl); have c2_2 := (blk_cell hb2 2).trans (show _ = some _ from rfl); clear hb2)); (try (have hb3 := sl_blk HS.out 3 (by rfl); (try simp only [World.size_alloc] at hb3); have lt3 := blk_lt hb3; have c3_0 := (blk_cell hb3 0).trans (show _ = some _ from rfl); have c3_1 := (blk_cell hb3 1).trans (show _ = some _ from rfl); have c3_2 := (blk_cell hb3 2).trans (show _ = some _ from rfl); have c3_3 := (blk_cell hb3 3).trans (show _ = some _ from rfl); have c3_4 := (blk_cell hb3 4).trans (show _ = some _ from rfl); clear hb3)); (try (have hb4 := sl_blk HS.out 4 (by rfl); (try simp only [World.size_alloc] at hb4); have lt4 := blk_lt hb4; have c4_0 := (blk_cell hb4 0).trans (show _ = some _ from rfl); have c4_1 := (blk_cell hb4 1).trans (show _ = some _ from rfl); have c4_2 := (blk_cell hb4 2).trans (show _ = some _ from rfl); have c4_3 := (blk_cell hb4 3).trans (show _ = some _ from rfl); clear hb4)); (try (have fz2_0 := blk_frozen (sl_blk HS.out 2 (by rfl)) 0; have fz2_1 := blk_frozen (sl_blk HS.out 2 (by rfl)) 1; have fz2_2 := blk_frozen (sl_blk HS.out 2 (by rfl)) 2)))
          | (go_at_call 21; refine (rWaiting_sl 1 rfl (by repeat (with_reducible first | exact HS.out | apply sl_drewN | apply sl_drew | apply sl_box | apply sl_alloc))).mono ?_; rintro e w2 ⟨rfl, hs⟩; (try simp only [World.size_alloc] at hs); replace HS := Aside0.mk hs; clear hs; (try (have hb2 := sl_blk HS.out 2 (by rfl); (try simp only [World.size_alloc] at hb2); have lt2 := blk_lt hb2; have c2_0 := (blk_cell hb2 0).trans (show _ = some _ from rfl); have c2_1 := (blk_cell hb2 1).trans (show _ = some _ from rfl); have c2_2 := (blk_cell hb2 2).trans (show _ = some _ from rfl); clear hb2)); (try (have hb3 := sl_blk HS.out 3 (by rfl); (try simp only [World.size_alloc] at hb3); have lt3 := blk_lt hb3; have c3_0 := (blk_cell hb3 0).trans (show _ = some _ from rfl); have c3_1 := (blk_cell hb3 1).trans (show _ = some _ from rfl); have c3_2 := (blk_cell hb3 2).trans (show _ = some _ from rfl); have c3_3 := (blk_cell hb3 3).trans (show _ = some _ from rfl); have c3_4 := (blk_cell hb3 4).trans (show _ = some _ from rfl); clear hb3)); (try (have hb4 := sl_blk HS.out 4 (by rfl); (try simp only [World.size_alloc] at hb4); have lt4 := blk_lt hb4; have c4_0 := (blk_cell hb4 0).trans (show _ = some _ from rfl); have c4_1 := (blk_cell hb4 1).trans (show _ = some _ from rfl); have c4_2 := (blk_cell hb4 2).trans (show _ = some _ from rfl); have c4_3 := (blk_cell hb4 3).trans (show _ = some _ from rfl); clear hb4)); (try (have fz2_0 := blk_frozen (sl_blk HS.out 2 (by rfl)) 0; have fz2_1 := blk_frozen (sl_blk HS.out 2 (by rfl)) 1; have fz2_2 := blk_frozen (sl_blk HS.out 2 (by rfl)) 2)))
          | (go_at_call 23; refine (rConfigured_sl 1 rfl (by repeat (with_reducible first | exact HS.out | apply sl_drewN | apply sl_drew | apply sl_box | apply sl_alloc))).mono ?_; rintro e w2 ⟨rfl, hs⟩; (try simp only [World.size_alloc] at hs); replace HS := Aside0.mk hs; clear hs; (try (have hb2 := sl_blk HS.out 2 (by rfl); (try simp only [World.size_alloc] at hb2); have lt2 := blk_lt hb2; have c2_0 := (blk_cell hb2 0).trans (show _ = some _ from rfl); have c2_1 := (blk_cell hb2 1).trans (show _ = some _ from rfl); have c2_2 := (blk_cell hb2 2).trans (show _ = some _ from rfl); clear hb2)); (try (have hb3 := sl_blk HS.out 3 (by rfl); (try simp only [World.size_alloc] at hb3); have lt3 := blk_lt hb3; have c3_0 := (blk_cell hb3 0).trans (show _ = some _ from rfl); have c3_1 := (blk_cell hb3 1).trans (show _ = some _ from rfl); have c3_2 := (blk_cell hb3 2).trans (show _ = some _ from rfl); have c3_3 := (blk_cell hb3 3).trans (show _ = some _ from rfl); have c3_4 := (blk_cell hb3 4).trans (show _ = some _ from rfl); clear hb3)); (try (have hb4 := sl_blk HS.out 4 (by rfl); (try simp only [World.size_alloc] at hb4); have lt4 := blk_lt hb4; have c4_0 := (blk_cell hb4 0).trans (show _ = some _ from rfl); have c4_1 := (blk_cell hb4 1).trans (show _ = some _ from rfl); have c4_2 := (blk_cell hb4 2).trans (show _ = some _ from rfl); have c4_3 := (blk_cell hb4 3).trans (show _ = some _ from rfl); clear hb4)); (try (have fz2_0 := blk_frozen (sl_blk HS.out 2 (by rfl)) 0; have fz2_1 := blk_frozen (sl_blk HS.out 2 (by rfl)) 1; have fz2_2 := blk_frozen (sl_blk HS.out 2 (by rfl)) 2))))
          refine world_gen (F := fun w_ => Code.wp Try.prog _ _ _ w_) (fun w_ => SL w w_ [queueR g (ackS q x.f1), refR (.slice B1 n1 d1) (.slice B2 n2 d2) (ackS q x.f1), cellsR gb 28 #[.slice B1 n1 d1, .slice B2 n2 d2, .bool (ackS q x.f1).conf]]) (sl_three (sl_put (sl_put (sl_put HS.out 2 rfl 0 _) 2 rfl 1 _) 2 rfl 2 _)) ?_
          have HV2 := Aside0.mk (HV.out.ack x.f1)
          (try clear gbl); (try clear g0_)
          intro w5 hs
          generalize (ackS q x.f1) = q2 at hs HV2 ⊢
          generalize ackE q x.f1 = er
          have ber : (er != er) = false := by simp
          have bl : ((q2.wait.length : Int) != (q2.wait.length : Int)) = false := by simp
          have bl2 : (q2.wait.length != q2.wait.length) = false := by simp
          replace HS := Aside0.mk hs
          clear hs HV
          have HV := HV2
          clear HV2
          have gbl := blk_lt (sl_blk HS.out 2 rfl)
          have g0_ := (blk_cell (sl_blk HS.out 2 rfl) 0).trans (show _ = some (Value.slice B1 n1 d1) from rfl)
          have g1_ := (blk_cell (sl_blk HS.out 2 rfl) 1).trans (show _ = some (Value.slice B2 n2 d2) from rfl)
          have g2_ := (blk_cell (sl_blk HS.out 2 rfl) 2).trans (show _ = some (Value.bool q2.conf) from rfl)
          go_upto_region 23 with (first
            | (go_at_call 10; refine (New_calls w _ _ (by repeat (with_reducible first | exact HS.out | apply sl_drewN | apply sl_drew | apply sl_box | apply sl_alloc))).mono ?_; rintro e w1 ⟨g, rfl, hs⟩; (try simp only [World.size_alloc] at hs); replace HS := Aside0.mk hs; clear hs; (try (have hb2 := sl_blk HS.out 2 (by rfl); (try simp only [World.size_alloc] at hb2); have lt2 := blk_lt hb2; have c2_0 := (blk_cell hb2 0).trans (show _ = some _ from rfl); have c2_1 := (blk_cell hb2 1).trans (show _ = some _ from rfl); have c2_2 := (blk_cell hb2 2).trans (show _ = some _ from rfl); clear hb2)); (try (have hb3 := sl_blk HS.out 3 (by rfl); (try simp only [World.size_alloc] at hb3); have lt3 := blk_lt hb3; have c3_0 := (blk_cell hb3 0).trans (show _ = some _ from rfl); have c3_1 := (blk_cell hb3 1).trans (show _ = some _ from rfl); have c3_2 := (blk_cell hb3 2).trans (show _ = some _ from rfl); have c3_3 := (blk_cell hb3 3).trans (show _ = some _ from rfl); clear hb3)))
            | (go_at_call 12; refine (Send_sl 0 _ _ _ _ rfl (by repeat (with_reducible first | exact HS.out | apply sl_drewN | apply sl_drew | apply sl_box | apply sl_alloc))).mono ?_; rintro e w1 ⟨rfl, hs⟩; (try simp only [World.size_alloc] at hs); replace HS := Aside0.mk hs; clear hs; (try (have hb2 := sl_blk HS.out 2 (by rfl); (try simp only [World.size_alloc] at hb2); have lt2 := blk_lt hb2; have c2_0 := (blk_cell hb2 0).trans (show _ = some _ from rfl); have c2_1 := (blk_cell hb2 1).trans (show _ = some _ from rfl); have c2_2 := (blk_cell hb2 2).trans (show _ = some _ from rfl); clear hb2)); (try (have hb3 := sl_blk HS.out 3 (by rfl); (try simp only [World.size_alloc] at hb3); have lt3 := blk_lt hb3; have c3_0 := (blk_cell hb3 0).trans (show _ = some _ from rfl); have c3_1 := (blk_cell hb3 1).trans (show _ = some _ from rfl); have c3_2 := (blk_cell hb3 2).trans (show _ = some _ from rfl); have c3_3 := (blk_cell hb3 3).trans (show _ = some _ from rfl); clear hb3)))
            | (go_at_call 14; refine (Ack_sl 0 _ rfl (by repeat (with_reducible first | exact HS.out | apply sl_drewN | apply sl_drew | apply sl_box | apply sl_alloc))).mono ?_; rintro e w1 ⟨rfl, hs⟩; (try simp only [World.size_alloc] at hs); replace HS := Aside0.mk hs; clear hs; (try (have hb2 := sl_blk HS.out 2 (by rfl); (try simp only [World.size_alloc] at hb2); have lt2 := blk_lt hb2; have c2_0 := (blk_cell hb2 0).trans (show _ = some _ from rfl); have c2_1 := (blk_cell hb2 1).trans (show _ = some _ from rfl); have c2_2 := (blk_cell hb2 2).trans (show _ = some _ from rfl); clear hb2)); (try (have hb3 := sl_blk HS.out 3 (by rfl); (try simp only [World.size_alloc] at hb3); have lt3 := blk_lt hb3; have c3_0 := (blk_cell hb3 0).trans (show _ = some _ from rfl); have c3_1 := (blk_cell hb3 1).trans (show _ = some _ from rfl); have c3_2 := (blk_cell hb3 2).trans (show _ = some _ from rfl); have c3_3 := (blk_cell hb3 3).trans (show _ = some _ from rfl); clear hb3)))
            | (go_at_call 16; refine (Apply_sl 0 rfl (by repeat (with_reducible first | exact HS.out | apply sl_drewN | apply sl_drew | apply sl_box | apply sl_alloc))).mono ?_; rintro e w1 ⟨rfl, hs⟩; unfold rcfg; (try simp only [World.size_alloc] at hs); replace HS := Aside0.mk hs; clear hs; (try (have hb2 := sl_blk HS.out 2 (by rfl); (try simp only [World.size_alloc] at hb2); have lt2 := blk_lt hb2; have c2_0 := (blk_cell hb2 0).trans (show _ = some _ from rfl); have c2_1 := (blk_cell hb2 1).trans (show _ = some _ from rfl); have c2_2 := (blk_cell hb2 2).trans (show _ = some _ from rfl); clear hb2)); (try (have hb3 := sl_blk HS.out 3 (by rfl); (try simp only [World.size_alloc] at hb3); have lt3 := blk_lt hb3; have c3_0 := (blk_cell hb3 0).trans (show _ = some _ from rfl); have c3_1 := (blk_cell hb3 1).trans (show _ = some _ from rfl); have c3_2 := (blk_cell hb3 2).trans (show _ = some _ from rfl); have c3_3 := (blk_cell hb3 3).trans (show _ = some _ from rfl); clear hb3)))
            | (go_at_call 18; refine (Acked_sl 0 rfl (by repeat (with_reducible first | exact HS.out | apply sl_drewN | apply sl_drew | apply sl_box | apply sl_alloc))).mono ?_; rintro e w1 ⟨rfl, hs⟩; unfold rcfg; (try simp only [World.size_alloc] at hs); replace HS := Aside0.mk hs; clear hs; (try (have hb2 := sl_blk HS.out 2 (by rfl); (try simp only [World.size_alloc] at hb2); have lt2 := blk_lt hb2; have c2_0 := (blk_cell hb2 0).trans (show _ = some _ from rfl); have c2_1 := (blk_cell hb2 1).trans (show _ = some _ from rfl); have c2_2 := (blk_cell hb2 2).trans (show _ = some _ from rfl); clear hb2)); (try (have hb3 := sl_blk HS.out 3 (by rfl); (try simp only [World.size_alloc] at hb3); have lt3 := blk_lt hb3; have c3_0 := (blk_cell hb3 0).trans (show _ = some _ from rfl); have c3_1 := (blk_cell hb3 1).trans (show _ = some _ from rfl); have c3_2 := (blk_cell hb3 2).trans (show _ = some _ from rfl); have c3_3 := (blk_cell hb3 3).trans (show _ = some _ from rfl); clear hb3)))
            | (go_at_call 20; refine (Waiting_sl 0 rfl (by repeat (with_reducible first | exact HS.out | apply sl_drewN | apply sl_drew | apply sl_box | apply sl_alloc))).mono ?_; rintro e w1 ⟨rfl, rfl⟩)
            | (go_at_call 22; refine (Configured_sl 0 rfl (by repeat (with_reducible first | exact HS.out | apply sl_drewN | apply sl_drew | apply sl_box | apply sl_alloc))).mono ?_; rintro e w1 ⟨rfl, rfl⟩)
            | (go_at_call 11; refine (rNew_calls w _ _ (by repeat (with_reducible first | exact HS.out | apply sl_drewN | apply sl_drew | apply sl_box | apply sl_alloc))).mono ?_; rintro e w2 ⟨rfl, hs⟩; unfold rv; (try simp only [World.size_alloc] at hs); replace HS := Aside0.mk hs; clear hs; (try (have hb2 := sl_blk HS.out 2 (by rfl); (try simp only [World.size_alloc] at hb2); have lt2 := blk_lt hb2; have c2_0 := (blk_cell hb2 0).trans (show _ = some _ from rfl); have c2_1 := (blk_cell hb2 1).trans (show _ = some _ from rfl); have c2_2 := (blk_cell hb2 2).trans (show _ = some _ from rfl); clear hb2)); (try (have hb3 := sl_blk HS.out 3 (by rfl); (try simp only [World.size_alloc] at hb3); have lt3 := blk_lt hb3; have c3_0 := (blk_cell hb3 0).trans (show _ = some _ from rfl); have c3_1 := (blk_cell hb3 1).trans (show _ = some _ from rfl); have c3_2 := (blk_cell hb3 2).trans (show _ = some _ from rfl); have c3_3 := (blk_cell hb3 3).trans (show _ = some _ from rfl); clear hb3)))
            | (go_at_call 13; refine (rSend_sl 1 _ _ _ _ rfl (by repeat (with_reducible first | exact HS.out | apply sl_drewN | apply sl_drew | apply sl_box | apply sl_alloc))).mono ?_; rintro e w2 ⟨⟨t1, t2⟩, rfl, hs⟩; obtain ⟨B1, n1, d1, B2, n2, d2, hb1_, hb2_⟩ := ref_slices hs 1 (by rfl); dsimp only at hb1_ hb2_; subst hb1_ hb2_; (try simp only [World.size_alloc] at hs); replace HS := Aside0.mk hs; clear hs; (try (have hb2 := sl_blk HS.out 2 (by rfl); (try simp only [World.size_alloc] at hb2); have lt2 := blk_lt hb2; have c2_0 := (blk_cell hb2 0).trans (show _ = some _ from rfl); have c2_1 := (blk_cell hb2 1).trans (show _ = some _ from rfl); have c2_2 := (blk_cell hb2 2).trans (show _ = some _ from rfl); clear hb2)); (try (have hb3 := sl_blk HS.out 3 (by rfl); (try simp only [World.size_alloc] at hb3); have lt3 := blk_lt hb3; have c3_0 := (blk_cell hb3 0).trans (show _ = some _ from rfl); have c3_1 := (blk_cell hb3 1).trans (show _ = some _ from rfl); have c3_2 := (blk_cell hb3 2).trans (show _ = some _ from rfl); have c3_3 := (blk_cell hb3 3).trans (show _ = some _ from rfl); clear hb3)))
            | (go_at_call 15; refine (rAck_sl 1 _ rfl (by repeat (with_reducible first | exact HS.out | apply sl_drewN | apply sl_drew | apply sl_box | apply sl_alloc))).mono ?_; rintro e w2 ⟨⟨t1, t2⟩, rfl, hs⟩; obtain ⟨B1, n1, d1, B2, n2, d2, hb1_, hb2_⟩ := ref_slices hs 1 (by rfl); dsimp only at hb1_ hb2_; subst hb1_ hb2_; (try simp only [World.size_alloc] at hs); replace HS := Aside0.mk hs; clear hs; (try (have hb2 := sl_blk HS.out 2 (by rfl); (try simp only [World.size_alloc] at hb2); have lt2 := blk_lt hb2; have c2_0 := (blk_cell hb2 0).trans (show _ = some _ from rfl); have c2_1 := (blk_cell hb2 1).trans (show _ = some _ from rfl); have c2_2 := (blk_cell hb2 2).trans (show _ = some _ from rfl); clear hb2)); (try (have hb3 := sl_blk HS.out 3 (by rfl); (try simp only [World.size_alloc] at hb3); have lt3 := blk_lt hb3; have c3_0 := (blk_cell hb3 0).trans (show _ = some _ from rfl); have c3_1 := (blk_cell hb3 1).trans (show _ = some _ from rfl); have c3_2 := (blk_cell hb3 2).trans (show _ = some _ from rfl); have c3_3 := (blk_cell hb3 3).trans (show _ = some _ from rfl); clear hb3)))
            | (go_at_call 17; refine (rApply_sl 1 HV.out rfl (by repeat (with_reducible first | exact HS.out | apply sl_drewN | apply sl_drew | apply sl_box | apply sl_alloc))).mono ?_; rintro e w2 ⟨rfl, hs⟩; (try simp only [World.size_alloc] at hs); replace HS := Aside0.mk hs; clear hs; (try (have hb2 := sl_blk HS.out 2 (by rfl); (try simp only [World.size_alloc] at hb2); have lt2 := blk_lt hb2; have c2_0 := (blk_cell hb2 0).trans (show _ = some _ from rfl); have c2_1 := (blk_cell hb2 1).trans (show _ = some _ from rfl); have c2_2 := (blk_cell hb2 2).trans (show _ = some _ from rfl); clear hb2)); (try (have hb3 := sl_blk HS.out 3 (by rfl); (try simp only [World.size_alloc] at hb3); have lt3 := blk_lt hb3; have c3_0 := (blk_cell hb3 0).trans (show _ = some _ from rfl); have c3_1 := (blk_cell hb3 1).trans (show _ = some _ from rfl); have c3_2 := (blk_cell hb3 2).trans (show _ = some _ from rfl); have c3_3 := (blk_cell hb3 3).trans (show _ = some _ from rfl); clear hb3)))
            | (go_at_call 19; refine (rAcked_sl 1 HV.out rfl (by repeat (with_reducible first | exact HS.out | apply sl_drewN | apply sl_drew | apply sl_box | apply sl_alloc))).mono ?_; rintro e w2 ⟨rfl, hs⟩; unfold rcfg; (try simp only [World.size_alloc] at hs); replace HS := Aside0.mk hs; clear hs; (try (have hb2 := sl_blk HS.out 2 (by rfl); (try simp only [World.size_alloc] at hb2); have lt2 := blk_lt hb2; have c2_0 := (blk_cell hb2 0).trans (show _ = some _ from rfl); have c2_1 := (blk_cell hb2 1).trans (show _ = some _ from rfl); have c2_2 := (blk_cell hb2 2).trans (show _ = some _ from rfl); clear hb2)); (try (have hb3 := sl_blk HS.out 3 (by rfl); (try simp only [World.size_alloc] at hb3); have lt3 := blk_lt hb3; have c3_0 := (blk_cell hb3 0).trans (show _ = some _ from rfl); have c3_1 := (blk_cell hb3 1).trans (show _ = some _ from rfl); have c3_2 := (blk_cell hb3 2).trans (show _ = some _ from rfl); have c3_3 := (blk_cell hb3 3).trans (show _ = some _ from rfl); clear hb3)))
            | (go_at_call 21; refine (rWaiting_sl 1 rfl (by repeat (with_reducible first | exact HS.out | apply sl_drewN | apply sl_drew | apply sl_box | apply sl_alloc))).mono ?_; rintro e w2 ⟨rfl, hs⟩; (try simp only [World.size_alloc] at hs); replace HS := Aside0.mk hs; clear hs; (try (have hb2 := sl_blk HS.out 2 (by rfl); (try simp only [World.size_alloc] at hb2); have lt2 := blk_lt hb2; have c2_0 := (blk_cell hb2 0).trans (show _ = some _ from rfl); have c2_1 := (blk_cell hb2 1).trans (show _ = some _ from rfl); have c2_2 := (blk_cell hb2 2).trans (show _ = some _ from rfl); clear hb2)); (try (have hb3 := sl_blk HS.out 3 (by rfl); (try simp only [World.size_alloc] at hb3); have lt3 := blk_lt hb3; have c3_0 := (blk_cell hb3 0).trans (show _ = some _ from rfl); have c3_1 := (blk_cell hb3 1).trans (show _ = some _ from rfl); have c3_2 := (blk_cell hb3 2).trans (show _ = some _ from rfl); have c3_3 := (blk_cell hb3 3).trans (show _ = some _ from rfl); clear hb3)))
            | (go_at_call 23; refine (rConfigured_sl 1 rfl (by repeat (with_reducible first | exact HS.out | apply sl_drewN | apply sl_drew | apply sl_box | apply sl_alloc))).mono ?_; rintro e w2 ⟨rfl, hs⟩; (try simp only [World.size_alloc] at hs); replace HS := Aside0.mk hs; clear hs; (try (have hb2 := sl_blk HS.out 2 (by rfl); (try simp only [World.size_alloc] at hb2); have lt2 := blk_lt hb2; have c2_0 := (blk_cell hb2 0).trans (show _ = some _ from rfl); have c2_1 := (blk_cell hb2 1).trans (show _ = some _ from rfl); have c2_2 := (blk_cell hb2 2).trans (show _ = some _ from rfl); clear hb2)); (try (have hb3 := sl_blk HS.out 3 (by rfl); (try simp only [World.size_alloc] at hb3); have lt3 := blk_lt hb3; have c3_0 := (blk_cell hb3 0).trans (show _ = some _ from rfl); have c3_1 := (blk_cell hb3 1).trans (show _ = some _ from rfl); have c3_2 := (blk_cell hb3 2).trans (show _ = some _ from rfl); have c3_3 := (blk_cell hb3 3).trans (show _ = some _ from rfl); clear hb3))))
          obtain ⟨g14, h14⟩ : ∃ z, z = w1.heap.size := ⟨_, rfl⟩
          obtain ⟨g16, h16⟩ : ∃ z, z = w2.heap.size := ⟨_, rfl⟩
          have hs6 := sl_box HS.out #[.int .u32 q2.next.f0, .int .i64 q2.next.f1, .int .i64 q2.next.f2, .int .i64 q2.next.f3] 43
          rw [← h14, ← h16] at hs6
          rw [← h14, ← h16]
          refine world_gen (F := fun w_ => Code.wp Try.prog _ _ _ w_) (fun w_ => SL w w_ [queueR g q2, refR (.slice B1 n1 d1) (.slice B2 n2 d2) q2, cellsR gb 28 #[.slice B1 n1 d1, .slice B2 n2 d2, .bool q2.conf], cellsR g14 40 #[.int .u32 q2.next.f0, .int .i64 q2.next.f1, .int .i64 q2.next.f2, .int .i64 q2.next.f3], cellsR g16 43 #[.int .u32 q2.next.f0, .int .i64 q2.next.f1, .int .i64 q2.next.f2, .int .i64 q2.next.f3]]) hs6 ?_
          clear hs6 HS
          intro w6 hs6
          have HS6 := Aside0.mk hs6
          clear hs6 h14 h16
          refine start_ (n := 27) (S := fun w' => w'.cell? ⟨gb, 0, none⟩ = some (.slice B1 n1 d1) ∧ w'.cell? ⟨gb, 1, none⟩ = some (.slice B2 n2 d2) ∧ w'.cell? ⟨gb, 2, none⟩ = some (.bool q2.conf) ∧ w'.cell? ⟨g14, 0, none⟩ = some (.int .u32 q2.next.f0) ∧ w'.cell? ⟨g14, 1, none⟩ = some (.int .i64 q2.next.f1) ∧ w'.cell? ⟨g14, 2, none⟩ = some (.int .i64 q2.next.f2) ∧ w'.cell? ⟨g14, 3, none⟩ = some (.int .i64 q2.next.f3) ∧ w'.cell? ⟨g16, 0, none⟩ = some (.int .u32 q2.next.f0) ∧ w'.cell? ⟨g16, 1, none⟩ = some (.int .i64 q2.next.f1) ∧ w'.cell? ⟨g16, 2, none⟩ = some (.int .i64 q2.next.f2) ∧ w'.cell? ⟨g16, 3, none⟩ = some (.int .i64 q2.next.f3) ∧ SL w w' [queueR g q2, refR (.slice B1 n1 d1) (.slice B2 n2 d2) q2, cellsR gb 28 #[.slice B1 n1 d1, .slice B2 n2 d2, .bool q2.conf], cellsR g14 40 #[.int .u32 q2.next.f0, .int .i64 q2.next.f1, .int .i64 q2.next.f2, .int .i64 q2.next.f3], cellsR g16 43 #[.int .u32 q2.next.f0, .int .i64 q2.next.f1, .int .i64 q2.next.f2, .int .i64 q2.next.f3]]) (ds := []) #[false, false, false, false, false, false, false, false, false, false, false, false, false, false, false, false, false, false, false, false, false, false, false, false, false, false, false] (by kernel_rfl) rfl rfl ⟨(cell_b (sl_blk (sl_drew HS6.out) 2 rfl) rfl), (cell_b (sl_blk (sl_drew HS6.out) 2 rfl) rfl), (cell_b (sl_blk (sl_drew HS6.out) 2 rfl) rfl), (cell_b (sl_blk (sl_drew HS6.out) 3 rfl) rfl), (cell_b (sl_blk (sl_drew HS6.out) 3 rfl) rfl), (cell_b (sl_blk (sl_drew HS6.out) 3 rfl) rfl), (cell_b (sl_blk (sl_drew HS6.out) 3 rfl) rfl), (cell_b (sl_blk (sl_drew HS6.out) 4 rfl) rfl), (cell_b (sl_blk (sl_drew HS6.out) 4 rfl) rfl), (cell_b (sl_blk (sl_drew HS6.out) 4 rfl) rfl), (cell_b (sl_blk (sl_drew HS6.out) 4 rfl) rfl), (sl_drew HS6.out)⟩ (fun hHeld => ?_)
          refine pure_ (i := 0) (N := some 103) (v := ?_) (a' := ?_) #[true, false, false, false, false, false, false, false, false, false, false, false, false, false, false, false, false, false, false, false, false, false, false, false, false, false, false] rfl rfl (by kernel_rfl) (fun _ _ _ h => h) (Or.inl ⟨by rfl, ?_⟩) ?_ ?_
          rotate_left
          · intro w'
            go_simp
            with_reducible rfl
          rotate_left
          · simp only [Act.put, List.setIfInBounds_toArray, List.set_cons_zero, List.set_cons_succ, i64_w, i32_w, IntKind.wrap_u32, IntKind.wrap_u8, IntKind.wrap_u16]
            rfl
          refine pure_ (i := 1) (N := some 104) (v := ?_) (a' := ?_) #[true, true, false, false, false, false, false, false, false, false, false, false, false, false, false, false, false, false, false, false, false, false, false, false, false, false, false] rfl rfl (by kernel_rfl) (fun _ _ _ h => h) (Or.inl ⟨by rfl, ?_⟩) ?_ ?_
          rotate_left
          · intro w'
            go_simp
            with_reducible rfl
          rotate_left
          · simp only [Act.put, List.setIfInBounds_toArray, List.set_cons_zero, List.set_cons_succ, i64_w, i32_w, IntKind.wrap_u32, IntKind.wrap_u8, IntKind.wrap_u16]
            rfl
          refine pure_ (i := 2) (N := some 105) (v := ?_) (a' := ?_) #[true, true, true, false, false, false, false, false, false, false, false, false, false, false, false, false, false, false, false, false, false, false, false, false, false, false, false] rfl rfl (by kernel_rfl) (fun _ _ _ h => h) (Or.inl ⟨by rfl, ?_⟩) ?_ ?_
          rotate_left
          · intro w'
            go_simp
            with_reducible rfl
          rotate_left
          · simp only [Act.put, List.setIfInBounds_toArray, List.set_cons_zero, List.set_cons_succ, i64_w, i32_w, IntKind.wrap_u32, IntKind.wrap_u8, IntKind.wrap_u16]
            rfl
          refine pure_ (i := 3) (N := some 106) (v := ?_) (a' := ?_) #[true, true, true, true, false, false, false, false, false, false, false, false, false, false, false, false, false, false, false, false, false, false, false, false, false, false, false] rfl rfl (by kernel_rfl) (fun _ _ _ h => h) (Or.inl ⟨by rfl, ?_⟩) ?_ ?_
          rotate_left
          · intro w'
            go_simp
            with_reducible rfl
          rotate_left
          · simp only [Act.put, List.setIfInBounds_toArray, List.set_cons_zero, List.set_cons_succ, i64_w, i32_w, IntKind.wrap_u32, IntKind.wrap_u8, IntKind.wrap_u16]
            rfl
          refine pure_ (i := 4) (N := some 107) (v := ?_) (a' := ?_) #[true, true, true, true, true, false, false, false, false, false, false, false, false, false, false, false, false, false, false, false, false, false, false, false, false, false, false] rfl rfl (by kernel_rfl) (fun _ _ _ h => h) (Or.inl ⟨by rfl, ?_⟩) ?_ ?_
          rotate_left
          · intro w'
            go_simp
            with_reducible rfl
          rotate_left
          · simp only [Act.put, List.setIfInBounds_toArray, List.set_cons_zero, List.set_cons_succ, i64_w, i32_w, IntKind.wrap_u32, IntKind.wrap_u8, IntKind.wrap_u16]
            rfl
          refine take_ (i := 6) (N := some 109) (v := ?_) (a' := ?_) #[true, true, true, true, true, false, true, false, false, false, false, false, false, false, false, false, false, false, false, false, false, false, false, false, false, false, false] rfl rfl (by kernel_rfl) (fun _ _ _ h => h) (Or.inl ⟨by rfl, ?_⟩) hHeld ?_ ?_
          rotate_left
          · rintro w' ⟨s0, s1, s2, s3, s4, s5, s6, s7, s8, s9, s10, s11⟩
            go_simp
            with_reducible rfl
          rotate_left
          · simp only [Act.put, List.setIfInBounds_toArray, List.set_cons_zero, List.set_cons_succ, i64_w, i32_w, IntKind.wrap_u32, IntKind.wrap_u8, IntKind.wrap_u16]
            rfl
          refine one_ (i := 5) (N := some 108) #[true, true, true, true, true, true, true, false, false, false, false, false, false, false, false, false, false, false, false, false, false, false, false, false, false, false, false] rfl rfl (by kernel_rfl) (by decide) (fun K hK => ?_)
          refine goes_ Try.func20 (by kernel_rfl) rfl #[.pointer (some ⟨g, 0, none⟩)] (by rfl) rfl rfl (by (try simp only [List.map_toArray, List.map_cons, List.map_nil]); first | done | rfl) ?_
          with_reducible refine (Waiting_sl 0 rfl hHeld.2.2.2.2.2.2.2.2.2.2.2).mono ?_
          rintro e w7 ⟨rfl, rfl⟩
          refine ⟨_, rfl, ?_⟩
          refine hK.out _ _ ⟨(cell_b (sl_blk hHeld.2.2.2.2.2.2.2.2.2.2.2 2 rfl) rfl), (cell_b (sl_blk hHeld.2.2.2.2.2.2.2.2.2.2.2 2 rfl) rfl), (cell_b (sl_blk hHeld.2.2.2.2.2.2.2.2.2.2.2 2 rfl) rfl), (cell_b (sl_blk hHeld.2.2.2.2.2.2.2.2.2.2.2 3 rfl) rfl), (cell_b (sl_blk hHeld.2.2.2.2.2.2.2.2.2.2.2 3 rfl) rfl), (cell_b (sl_blk hHeld.2.2.2.2.2.2.2.2.2.2.2 3 rfl) rfl), (cell_b (sl_blk hHeld.2.2.2.2.2.2.2.2.2.2.2 3 rfl) rfl), (cell_b (sl_blk hHeld.2.2.2.2.2.2.2.2.2.2.2 4 rfl) rfl), (cell_b (sl_blk hHeld.2.2.2.2.2.2.2.2.2.2.2 4 rfl) rfl), (cell_b (sl_blk hHeld.2.2.2.2.2.2.2.2.2.2.2 4 rfl) rfl), (cell_b (sl_blk hHeld.2.2.2.2.2.2.2.2.2.2.2 4 rfl) rfl), hHeld.2.2.2.2.2.2.2.2.2.2.2⟩ (fun hHeld => ?_)
          clear hK K
          refine norm_ (a' := ?_) ?_ ?_
          rotate_left
          · show Act.put _ (some 108) _ = _
            simp only [Act.put, List.setIfInBounds_toArray, List.set_cons_zero, List.set_cons_succ, i64_w, i32_w, IntKind.wrap_u32, IntKind.wrap_u8, IntKind.wrap_u16]
            rfl
          refine one_ (i := 7) (N := some 110) #[true, true, true, true, true, true, true, true, false, false, false, false, false, false, false, false, false, false, false, false, false, false, false, false, false, false, false] rfl rfl (by kernel_rfl) (by decide) (fun K hK => ?_)
          refine goes_ Try.func21 (by kernel_rfl) rfl #[.agg #[.slice B1 n1 d1, .slice B2 n2 d2, .bool q2.conf]] (by rfl) rfl rfl (by (try simp only [List.map_toArray, List.map_cons, List.map_nil]); first | done | rfl) ?_
          with_reducible refine (rWaiting_sl 1 rfl hHeld.2.2.2.2.2.2.2.2.2.2.2).mono ?_
          rintro e w7 ⟨rfl, hs⟩
          refine ⟨_, rfl, ?_⟩
          refine hK.out _ _ ⟨(cell_b (sl_blk hs 2 rfl) rfl), (cell_b (sl_blk hs 2 rfl) rfl), (cell_b (sl_blk hs 2 rfl) rfl), (cell_b (sl_blk hs 3 rfl) rfl), (cell_b (sl_blk hs 3 rfl) rfl), (cell_b (sl_blk hs 3 rfl) rfl), (cell_b (sl_blk hs 3 rfl) rfl), (cell_b (sl_blk hs 4 rfl) rfl), (cell_b (sl_blk hs 4 rfl) rfl), (cell_b (sl_blk hs 4 rfl) rfl), (cell_b (sl_blk hs 4 rfl) rfl), hs⟩ (fun hHeld => ?_)
          clear hK K
          refine norm_ (a' := ?_) ?_ ?_
          rotate_left
          · show Act.put _ (some 110) _ = _
            simp only [Act.put, List.setIfInBounds_toArray, List.set_cons_zero, List.set_cons_succ, i64_w, i32_w, IntKind.wrap_u32, IntKind.wrap_u8, IntKind.wrap_u16]
            rfl
          refine pure_ (i := 8) (N := some 111) (v := ?_) (a' := ?_) #[true, true, true, true, true, true, true, true, true, false, false, false, false, false, false, false, false, false, false, false, false, false, false, false, false, false, false] rfl rfl (by kernel_rfl) (fun _ _ _ h => h) (Or.inl ⟨by rfl, ?_⟩) ?_ ?_
          rotate_left
          · intro w'
            go_simp
            with_reducible rfl
          rotate_left
          · simp only [Act.put, List.setIfInBounds_toArray, List.set_cons_zero, List.set_cons_succ, i64_w, i32_w, IntKind.wrap_u32, IntKind.wrap_u8, IntKind.wrap_u16]
            rfl
          refine pure_ (i := 9) (N := some 112) (v := ?_) (a' := ?_) #[true, true, true, true, true, true, true, true, true, true, false, false, false, false, false, false, false, false, false, false, false, false, false, false, false, false, false] rfl rfl (by kernel_rfl) (fun _ _ _ h => h) (Or.inl ⟨by rfl, ?_⟩) ?_ ?_
          rotate_left
          · intro w'
            go_simp
            with_reducible rfl
          rotate_left
          · simp only [Act.put, List.setIfInBounds_toArray, List.set_cons_zero, List.set_cons_succ, i64_w, i32_w, IntKind.wrap_u32, IntKind.wrap_u8, IntKind.wrap_u16]
            rfl
          refine pure_ (i := 10) (N := some 113) (v := ?_) (a' := ?_) #[true, true, true, true, true, true, true, true, true, true, true, false, false, false, false, false, false, false, false, false, false, false, false, false, false, false, false] rfl rfl (by kernel_rfl) (fun _ _ _ h => h) (Or.inl ⟨by rfl, ?_⟩) ?_ ?_
          rotate_left
          · intro w'
            go_simp
            with_reducible rfl
          rotate_left
          · simp only [Act.put, List.setIfInBounds_toArray, List.set_cons_zero, List.set_cons_succ, i64_w, i32_w, IntKind.wrap_u32, IntKind.wrap_u8, IntKind.wrap_u16]
            rfl
          refine take_ (i := 11) (N := some 114) (v := ?_) (a' := ?_) #[true, true, true, true, true, true, true, true, true, true, true, true, false, false, false, false, false, false, false, false, false, false, false, false, false, false, false] rfl rfl (by kernel_rfl) (fun _ _ _ h => h) (Or.inl ⟨by rfl, ?_⟩) hHeld ?_ ?_
          rotate_left
          · rintro w' ⟨s0, s1, s2, s3, s4, s5, s6, s7, s8, s9, s10, s11⟩
            go_simp
            with_reducible rfl
          rotate_left
          · simp only [Act.put, List.setIfInBounds_toArray, List.set_cons_zero, List.set_cons_succ, i64_w, i32_w, IntKind.wrap_u32, IntKind.wrap_u8, IntKind.wrap_u16]
            rfl
          refine take_ (i := 12) (N := some 115) (v := ?_) (a' := ?_) #[true, true, true, true, true, true, true, true, true, true, true, true, true, false, false, false, false, false, false, false, false, false, false, false, false, false, false] rfl rfl (by kernel_rfl) (fun _ _ _ h => h) (Or.inl ⟨by rfl, ?_⟩) hHeld ?_ ?_
          rotate_left
          · rintro w' ⟨s0, s1, s2, s3, s4, s5, s6, s7, s8, s9, s10, s11⟩
            go_simp
            with_reducible rfl
          rotate_left
          · simp only [Act.put, List.setIfInBounds_toArray, List.set_cons_zero, List.set_cons_succ, i64_w, i32_w, IntKind.wrap_u32, IntKind.wrap_u8, IntKind.wrap_u16]
            rfl
          refine pure_ (i := 13) (N := some 116) (v := ?_) (a' := ?_) #[true, true, true, true, true, true, true, true, true, true, true, true, true, true, false, false, false, false, false, false, false, false, false, false, false, false, false] rfl rfl (by kernel_rfl) (fun _ _ _ h => h) (Or.inl ⟨by rfl, ?_⟩) ?_ ?_
          rotate_left
          · intro w'
            go_simp
            with_reducible rfl
          rotate_left
          · simp only [Act.put, List.setIfInBounds_toArray, List.set_cons_zero, List.set_cons_succ, i64_w, i32_w, IntKind.wrap_u32, IntKind.wrap_u8, IntKind.wrap_u16]
            rfl
          refine pure_ (i := 14) (N := some 117) (v := ?_) (a' := ?_) #[true, true, true, true, true, true, true, true, true, true, true, true, true, true, true, false, false, false, false, false, false, false, false, false, false, false, false] rfl rfl (by kernel_rfl) (fun _ _ _ h => h) (Or.inl ⟨by rfl, ?_⟩) ?_ ?_
          rotate_left
          · intro w'
            go_simp
            with_reducible rfl
          rotate_left
          · simp only [Act.put, List.setIfInBounds_toArray, List.set_cons_zero, List.set_cons_succ, i64_w, i32_w, IntKind.wrap_u32, IntKind.wrap_u8, IntKind.wrap_u16]
            rfl
          refine pure_ (i := 15) (N := some 118) (v := ?_) (a' := ?_) #[true, true, true, true, true, true, true, true, true, true, true, true, true, true, true, true, false, false, false, false, false, false, false, false, false, false, false] rfl rfl (by kernel_rfl) (fun _ _ _ h => h) (Or.inl ⟨by rfl, ?_⟩) ?_ ?_
          rotate_left
          · intro w'
            go_simp
            with_reducible rfl
          rotate_left
          · simp only [Act.put, List.setIfInBounds_toArray, List.set_cons_zero, List.set_cons_succ, i64_w, i32_w, IntKind.wrap_u32, IntKind.wrap_u8, IntKind.wrap_u16]
            rfl
          refine pure_ (i := 16) (N := some 119) (v := ?_) (a' := ?_) #[true, true, true, true, true, true, true, true, true, true, true, true, true, true, true, true, true, false, false, false, false, false, false, false, false, false, false] rfl rfl (by kernel_rfl) (fun _ _ _ h => h) (Or.inl ⟨by rfl, ?_⟩) ?_ ?_
          rotate_left
          · intro w'
            go_simp
            with_reducible rfl
          rotate_left
          · simp only [Act.put, List.setIfInBounds_toArray, List.set_cons_zero, List.set_cons_succ, i64_w, i32_w, IntKind.wrap_u32, IntKind.wrap_u8, IntKind.wrap_u16]
            rfl
          refine pure_ (i := 17) (N := some 120) (v := ?_) (a' := ?_) #[true, true, true, true, true, true, true, true, true, true, true, true, true, true, true, true, true, true, false, false, false, false, false, false, false, false, false] rfl rfl (by kernel_rfl) (fun _ _ _ h => h) (Or.inl ⟨by rfl, ?_⟩) ?_ ?_
          rotate_left
          · intro w'
            go_simp
            with_reducible rfl
          rotate_left
          · simp only [Act.put, List.setIfInBounds_toArray, List.set_cons_zero, List.set_cons_succ, i64_w, i32_w, IntKind.wrap_u32, IntKind.wrap_u8, IntKind.wrap_u16]
            rfl
          refine pure_ (i := 18) (N := some 121) (v := ?_) (a' := ?_) #[true, true, true, true, true, true, true, true, true, true, true, true, true, true, true, true, true, true, true, false, false, false, false, false, false, false, false] rfl rfl (by kernel_rfl) (fun _ _ _ h => h) (Or.inl ⟨by rfl, ?_⟩) ?_ ?_
          rotate_left
          · intro w'
            go_simp
            with_reducible rfl
          rotate_left
          · simp only [Act.put, List.setIfInBounds_toArray, List.set_cons_zero, List.set_cons_succ, i64_w, i32_w, IntKind.wrap_u32, IntKind.wrap_u8, IntKind.wrap_u16]
            rfl
          refine pure_ (i := 19) (N := some 122) (v := ?_) (a' := ?_) #[true, true, true, true, true, true, true, true, true, true, true, true, true, true, true, true, true, true, true, true, false, false, false, false, false, false, false] rfl rfl (by kernel_rfl) (fun _ _ _ h => h) (Or.inl ⟨by rfl, ?_⟩) ?_ ?_
          rotate_left
          · intro w'
            go_simp
            with_reducible rfl
          rotate_left
          · simp only [Act.put, List.setIfInBounds_toArray, List.set_cons_zero, List.set_cons_succ, i64_w, i32_w, IntKind.wrap_u32, IntKind.wrap_u8, IntKind.wrap_u16]
            rfl
          refine pure_ (i := 20) (N := some 123) (v := ?_) (a' := ?_) #[true, true, true, true, true, true, true, true, true, true, true, true, true, true, true, true, true, true, true, true, true, false, false, false, false, false, false] rfl rfl (by kernel_rfl) (fun _ _ _ h => h) (Or.inl ⟨by rfl, ?_⟩) ?_ ?_
          rotate_left
          · intro w'
            go_simp
            with_reducible rfl
          rotate_left
          · simp only [Act.put, List.setIfInBounds_toArray, List.set_cons_zero, List.set_cons_succ, i64_w, i32_w, IntKind.wrap_u32, IntKind.wrap_u8, IntKind.wrap_u16]
            rfl
          refine pure_ (i := 21) (N := some 124) (v := ?_) (a' := ?_) #[true, true, true, true, true, true, true, true, true, true, true, true, true, true, true, true, true, true, true, true, true, true, false, false, false, false, false] rfl rfl (by kernel_rfl) (fun _ _ _ h => h) (Or.inl ⟨by rfl, ?_⟩) ?_ ?_
          rotate_left
          · intro w'
            go_simp
            with_reducible rfl
          rotate_left
          · simp only [Act.put, List.setIfInBounds_toArray, List.set_cons_zero, List.set_cons_succ, i64_w, i32_w, IntKind.wrap_u32, IntKind.wrap_u8, IntKind.wrap_u16]
            rfl
          refine take_ (i := 23) (N := some 126) (v := ?_) (a' := ?_) #[true, true, true, true, true, true, true, true, true, true, true, true, true, true, true, true, true, true, true, true, true, true, false, true, false, false, false] rfl rfl (by kernel_rfl) (fun _ _ _ h => h) (Or.inl ⟨by rfl, ?_⟩) hHeld ?_ ?_
          rotate_left
          · rintro w' ⟨s0, s1, s2, s3, s4, s5, s6, s7, s8, s9, s10, s11⟩
            go_simp
            with_reducible rfl
          rotate_left
          · simp only [Act.put, List.setIfInBounds_toArray, List.set_cons_zero, List.set_cons_succ, i64_w, i32_w, IntKind.wrap_u32, IntKind.wrap_u8, IntKind.wrap_u16]
            rfl
          refine one_ (i := 22) (N := some 125) #[true, true, true, true, true, true, true, true, true, true, true, true, true, true, true, true, true, true, true, true, true, true, true, true, false, false, false] rfl rfl (by kernel_rfl) (by decide) (fun K hK => ?_)
          refine goes_ Try.func22 (by kernel_rfl) rfl #[.pointer (some ⟨g, 0, none⟩)] (by rfl) rfl rfl (by (try simp only [List.map_toArray, List.map_cons, List.map_nil]); first | done | rfl) ?_
          with_reducible refine (Configured_sl 0 rfl hHeld.2.2.2.2.2.2.2.2.2.2.2).mono ?_
          rintro e w7 ⟨rfl, rfl⟩
          refine ⟨_, rfl, ?_⟩
          refine hK.out _ _ ⟨(cell_b (sl_blk hHeld.2.2.2.2.2.2.2.2.2.2.2 2 rfl) rfl), (cell_b (sl_blk hHeld.2.2.2.2.2.2.2.2.2.2.2 2 rfl) rfl), (cell_b (sl_blk hHeld.2.2.2.2.2.2.2.2.2.2.2 2 rfl) rfl), (cell_b (sl_blk hHeld.2.2.2.2.2.2.2.2.2.2.2 3 rfl) rfl), (cell_b (sl_blk hHeld.2.2.2.2.2.2.2.2.2.2.2 3 rfl) rfl), (cell_b (sl_blk hHeld.2.2.2.2.2.2.2.2.2.2.2 3 rfl) rfl), (cell_b (sl_blk hHeld.2.2.2.2.2.2.2.2.2.2.2 3 rfl) rfl), (cell_b (sl_blk hHeld.2.2.2.2.2.2.2.2.2.2.2 4 rfl) rfl), (cell_b (sl_blk hHeld.2.2.2.2.2.2.2.2.2.2.2 4 rfl) rfl), (cell_b (sl_blk hHeld.2.2.2.2.2.2.2.2.2.2.2 4 rfl) rfl), (cell_b (sl_blk hHeld.2.2.2.2.2.2.2.2.2.2.2 4 rfl) rfl), hHeld.2.2.2.2.2.2.2.2.2.2.2⟩ (fun hHeld => ?_)
          clear hK K
          refine norm_ (a' := ?_) ?_ ?_
          rotate_left
          · show Act.put _ (some 125) _ = _
            simp only [Act.put, List.setIfInBounds_toArray, List.set_cons_zero, List.set_cons_succ, i64_w, i32_w, IntKind.wrap_u32, IntKind.wrap_u8, IntKind.wrap_u16]
            rfl
          refine one_ (i := 24) (N := some 127) #[true, true, true, true, true, true, true, true, true, true, true, true, true, true, true, true, true, true, true, true, true, true, true, true, true, false, false] rfl rfl (by kernel_rfl) (by decide) (fun K hK => ?_)
          refine goes_ Try.func23 (by kernel_rfl) rfl #[.agg #[.slice B1 n1 d1, .slice B2 n2 d2, .bool q2.conf]] (by rfl) rfl rfl (by (try simp only [List.map_toArray, List.map_cons, List.map_nil]); first | done | rfl) ?_
          with_reducible refine (rConfigured_sl 1 rfl hHeld.2.2.2.2.2.2.2.2.2.2.2).mono ?_
          rintro e w7 ⟨rfl, hs⟩
          refine ⟨_, rfl, ?_⟩
          refine hK.out _ _ ⟨(cell_b (sl_blk hs 2 rfl) rfl), (cell_b (sl_blk hs 2 rfl) rfl), (cell_b (sl_blk hs 2 rfl) rfl), (cell_b (sl_blk hs 3 rfl) rfl), (cell_b (sl_blk hs 3 rfl) rfl), (cell_b (sl_blk hs 3 rfl) rfl), (cell_b (sl_blk hs 3 rfl) rfl), (cell_b (sl_blk hs 4 rfl) rfl), (cell_b (sl_blk hs 4 rfl) rfl), (cell_b (sl_blk hs 4 rfl) rfl), (cell_b (sl_blk hs 4 rfl) rfl), hs⟩ (fun hHeld => ?_)
          clear hK K
          refine norm_ (a' := ?_) ?_ ?_
          rotate_left
          · show Act.put _ (some 127) _ = _
            simp only [Act.put, List.setIfInBounds_toArray, List.set_cons_zero, List.set_cons_succ, i64_w, i32_w, IntKind.wrap_u32, IntKind.wrap_u8, IntKind.wrap_u16]
            rfl
          refine pure_ (i := 25) (N := some 128) (v := ?_) (a' := ?_) #[true, true, true, true, true, true, true, true, true, true, true, true, true, true, true, true, true, true, true, true, true, true, true, true, true, true, false] rfl rfl (by kernel_rfl) (fun _ _ _ h => h) (Or.inl ⟨by rfl, ?_⟩) ?_ ?_
          rotate_left
          · intro w'
            go_simp
            with_reducible rfl
          rotate_left
          · simp only [Act.put, List.setIfInBounds_toArray, List.set_cons_zero, List.set_cons_succ, i64_w, i32_w, IntKind.wrap_u32, IntKind.wrap_u8, IntKind.wrap_u16]
            rfl
          refine pure_ (i := 26) (N := some 129) (v := ?_) (a' := ?_) #[true, true, true, true, true, true, true, true, true, true, true, true, true, true, true, true, true, true, true, true, true, true, true, true, true, true, true] rfl rfl (by kernel_rfl) (fun _ _ _ h => h) (Or.inl ⟨by rfl, ?_⟩) ?_ ?_
          rotate_left
          · intro w'
            go_simp
            with_reducible rfl
          rotate_left
          · simp only [Act.put, List.setIfInBounds_toArray, List.set_cons_zero, List.set_cons_succ, i64_w, i32_w, IntKind.wrap_u32, IntKind.wrap_u8, IntKind.wrap_u16]
            rfl
          refine done_ (by kernel_rfl) ?_
          have HF := Aside0.mk (sl_three hHeld.2.2.2.2.2.2.2.2.2.2.2)
          clear hHeld HS6 gbl
          go_wp2
          go_roundg kq
          case measure => omega
          case rel => exact ⟨i + 1, q2, (.slice B1 n1 d1), (.slice B2 n2 d2), rfl, ⟨by omega⟩, HV, HF⟩
        · have bk1 : (x.f0 == 1) = false := beq_eq_false_iff_ne.2 k1
          clear k0 k1
          go_upto_region 21 with (first
          | (go_at_call 10; refine (New_calls w _ _ (by repeat (with_reducible first | exact HS.out | apply sl_drewN | apply sl_drew | apply sl_box | apply sl_alloc))).mono ?_; rintro e w1 ⟨g, rfl, hs⟩; (try simp only [World.size_alloc] at hs); replace HS := Aside0.mk hs; clear hs; (try (have hb2 := sl_blk HS.out 2 (by rfl); (try simp only [World.size_alloc] at hb2); have lt2 := blk_lt hb2; have c2_0 := (blk_cell hb2 0).trans (show _ = some _ from rfl); have c2_1 := (blk_cell hb2 1).trans (show _ = some _ from rfl); have c2_2 := (blk_cell hb2 2).trans (show _ = some _ from rfl); clear hb2)); (try (have hb3 := sl_blk HS.out 3 (by rfl); (try simp only [World.size_alloc] at hb3); have lt3 := blk_lt hb3; have c3_0 := (blk_cell hb3 0).trans (show _ = some _ from rfl); have c3_1 := (blk_cell hb3 1).trans (show _ = some _ from rfl); have c3_2 := (blk_cell hb3 2).trans (show _ = some _ from rfl); have c3_3 := (blk_cell hb3 3).trans (show _ = some _ from rfl); have c3_4 := (blk_cell hb3 4).trans (show _ = some _ from rfl); clear hb3)); (try (have hb4 := sl_blk HS.out 4 (by rfl); (try simp only [World.size_alloc] at hb4); have lt4 := blk_lt hb4; have c4_0 := (blk_cell hb4 0).trans (show _ = some _ from rfl); have c4_1 := (blk_cell hb4 1).trans (show _ = some _ from rfl); have c4_2 := (blk_cell hb4 2).trans (show _ = some _ from rfl); have c4_3 := (blk_cell hb4 3).trans (show _ = some _ from rfl); clear hb4)); (try (have fz2_0 := blk_frozen (sl_blk HS.out 2 (by rfl)) 0; have fz2_1 := blk_frozen (sl_blk HS.out 2 (by rfl)) 1; have fz2_2 := blk_frozen (sl_blk HS.out 2 (by rfl)) 2)))
          | (go_at_call 12; refine (Send_sl 0 _ _ _ _ rfl (by repeat (with_reducible first | exact HS.out | apply sl_drewN | apply sl_drew | apply sl_box | apply sl_alloc))).mono ?_; rintro e w1 ⟨rfl, hs⟩; (try simp only [World.size_alloc] at hs); replace HS := Aside0.mk hs; clear hs; (try (have hb2 := sl_blk HS.out 2 (by rfl); (try simp only [World.size_alloc] at hb2); have lt2 := blk_lt hb2; have c2_0 := (blk_cell hb2 0).trans (show _ = some _ from rfl); have c2_1 := (blk_cell hb2 1).trans (show _ = some _ from rfl); have c2_2 := (blk_cell hb2 2).trans (show _ = some _ from rfl); clear hb2)); (try (have hb3 := sl_blk HS.out 3 (by rfl); (try simp only [World.size_alloc] at hb3); have lt3 := blk_lt hb3; have c3_0 := (blk_cell hb3 0).trans (show _ = some _ from rfl); have c3_1 := (blk_cell hb3 1).trans (show _ = some _ from rfl); have c3_2 := (blk_cell hb3 2).trans (show _ = some _ from rfl); have c3_3 := (blk_cell hb3 3).trans (show _ = some _ from rfl); have c3_4 := (blk_cell hb3 4).trans (show _ = some _ from rfl); clear hb3)); (try (have hb4 := sl_blk HS.out 4 (by rfl); (try simp only [World.size_alloc] at hb4); have lt4 := blk_lt hb4; have c4_0 := (blk_cell hb4 0).trans (show _ = some _ from rfl); have c4_1 := (blk_cell hb4 1).trans (show _ = some _ from rfl); have c4_2 := (blk_cell hb4 2).trans (show _ = some _ from rfl); have c4_3 := (blk_cell hb4 3).trans (show _ = some _ from rfl); clear hb4)); (try (have fz2_0 := blk_frozen (sl_blk HS.out 2 (by rfl)) 0; have fz2_1 := blk_frozen (sl_blk HS.out 2 (by rfl)) 1; have fz2_2 := blk_frozen (sl_blk HS.out 2 (by rfl)) 2)))
          | (go_at_call 14; refine (Ack_sl 0 _ rfl (by repeat (with_reducible first | exact HS.out | apply sl_drewN | apply sl_drew | apply sl_box | apply sl_alloc))).mono ?_; rintro e w1 ⟨rfl, hs⟩; (try simp only [World.size_alloc] at hs); replace HS := Aside0.mk hs; clear hs; (try (have hb2 := sl_blk HS.out 2 (by rfl); (try simp only [World.size_alloc] at hb2); have lt2 := blk_lt hb2; have c2_0 := (blk_cell hb2 0).trans (show _ = some _ from rfl); have c2_1 := (blk_cell hb2 1).trans (show _ = some _ from rfl); have c2_2 := (blk_cell hb2 2).trans (show _ = some _ from rfl); clear hb2)); (try (have hb3 := sl_blk HS.out 3 (by rfl); (try simp only [World.size_alloc] at hb3); have lt3 := blk_lt hb3; have c3_0 := (blk_cell hb3 0).trans (show _ = some _ from rfl); have c3_1 := (blk_cell hb3 1).trans (show _ = some _ from rfl); have c3_2 := (blk_cell hb3 2).trans (show _ = some _ from rfl); have c3_3 := (blk_cell hb3 3).trans (show _ = some _ from rfl); have c3_4 := (blk_cell hb3 4).trans (show _ = some _ from rfl); clear hb3)); (try (have hb4 := sl_blk HS.out 4 (by rfl); (try simp only [World.size_alloc] at hb4); have lt4 := blk_lt hb4; have c4_0 := (blk_cell hb4 0).trans (show _ = some _ from rfl); have c4_1 := (blk_cell hb4 1).trans (show _ = some _ from rfl); have c4_2 := (blk_cell hb4 2).trans (show _ = some _ from rfl); have c4_3 := (blk_cell hb4 3).trans (show _ = some _ from rfl); clear hb4)); (try (have fz2_0 := blk_frozen (sl_blk HS.out 2 (by rfl)) 0; have fz2_1 := blk_frozen (sl_blk HS.out 2 (by rfl)) 1; have fz2_2 := blk_frozen (sl_blk HS.out 2 (by rfl)) 2)))
          | (go_at_call 16; refine (Apply_sl 0 rfl (by repeat (with_reducible first | exact HS.out | apply sl_drewN | apply sl_drew | apply sl_box | apply sl_alloc))).mono ?_; rintro e w1 ⟨rfl, hs⟩; unfold rcfg; (try simp only [World.size_alloc] at hs); replace HS := Aside0.mk hs; clear hs; (try (have hb2 := sl_blk HS.out 2 (by rfl); (try simp only [World.size_alloc] at hb2); have lt2 := blk_lt hb2; have c2_0 := (blk_cell hb2 0).trans (show _ = some _ from rfl); have c2_1 := (blk_cell hb2 1).trans (show _ = some _ from rfl); have c2_2 := (blk_cell hb2 2).trans (show _ = some _ from rfl); clear hb2)); (try (have hb3 := sl_blk HS.out 3 (by rfl); (try simp only [World.size_alloc] at hb3); have lt3 := blk_lt hb3; have c3_0 := (blk_cell hb3 0).trans (show _ = some _ from rfl); have c3_1 := (blk_cell hb3 1).trans (show _ = some _ from rfl); have c3_2 := (blk_cell hb3 2).trans (show _ = some _ from rfl); have c3_3 := (blk_cell hb3 3).trans (show _ = some _ from rfl); have c3_4 := (blk_cell hb3 4).trans (show _ = some _ from rfl); clear hb3)); (try (have hb4 := sl_blk HS.out 4 (by rfl); (try simp only [World.size_alloc] at hb4); have lt4 := blk_lt hb4; have c4_0 := (blk_cell hb4 0).trans (show _ = some _ from rfl); have c4_1 := (blk_cell hb4 1).trans (show _ = some _ from rfl); have c4_2 := (blk_cell hb4 2).trans (show _ = some _ from rfl); have c4_3 := (blk_cell hb4 3).trans (show _ = some _ from rfl); clear hb4)); (try (have fz2_0 := blk_frozen (sl_blk HS.out 2 (by rfl)) 0; have fz2_1 := blk_frozen (sl_blk HS.out 2 (by rfl)) 1; have fz2_2 := blk_frozen (sl_blk HS.out 2 (by rfl)) 2)))
          | (go_at_call 18; refine (Acked_sl 0 rfl (by repeat (with_reducible first | exact HS.out | apply sl_drewN | apply sl_drew | apply sl_box | apply sl_alloc))).mono ?_; rintro e w1 ⟨rfl, hs⟩; unfold rcfg; (try simp only [World.size_alloc] at hs); replace HS := Aside0.mk hs; clear hs; (try (have hb2 := sl_blk HS.out 2 (by rfl); (try simp only [World.size_alloc] at hb2); have lt2 := blk_lt hb2; have c2_0 := (blk_cell hb2 0).trans (show _ = some _ from rfl); have c2_1 := (blk_cell hb2 1).trans (show _ = some _ from rfl); have c2_2 := (blk_cell hb2 2).trans (show _ = some _ from rfl); clear hb2)); (try (have hb3 := sl_blk HS.out 3 (by rfl); (try simp only [World.size_alloc] at hb3); have lt3 := blk_lt hb3; have c3_0 := (blk_cell hb3 0).trans (show _ = some _ from rfl); have c3_1 := (blk_cell hb3 1).trans (show _ = some _ from rfl); have c3_2 := (blk_cell hb3 2).trans (show _ = some _ from rfl); have c3_3 := (blk_cell hb3 3).trans (show _ = some _ from rfl); have c3_4 := (blk_cell hb3 4).trans (show _ = some _ from rfl); clear hb3)); (try (have hb4 := sl_blk HS.out 4 (by rfl); (try simp only [World.size_alloc] at hb4); have lt4 := blk_lt hb4; have c4_0 := (blk_cell hb4 0).trans (show _ = some _ from rfl); have c4_1 := (blk_cell hb4 1).trans (show _ = some _ from rfl); have c4_2 := (blk_cell hb4 2).trans (show _ = some _ from rfl); have c4_3 := (blk_cell hb4 3).trans (show _ = some _ from rfl); clear hb4)); (try (have fz2_0 := blk_frozen (sl_blk HS.out 2 (by rfl)) 0; have fz2_1 := blk_frozen (sl_blk HS.out 2 (by rfl)) 1; have fz2_2 := blk_frozen (sl_blk HS.out 2 (by rfl)) 2)))
          | (go_at_call 20; refine (Waiting_sl 0 rfl (by repeat (with_reducible first | exact HS.out | apply sl_drewN | apply sl_drew | apply sl_box | apply sl_alloc))).mono ?_; rintro e w1 ⟨rfl, rfl⟩)
          | (go_at_call 22; refine (Configured_sl 0 rfl (by repeat (with_reducible first | exact HS.out | apply sl_drewN | apply sl_drew | apply sl_box | apply sl_alloc))).mono ?_; rintro e w1 ⟨rfl, rfl⟩)
          | (go_at_call 11; refine (rNew_calls w _ _ (by repeat (with_reducible first | exact HS.out | apply sl_drewN | apply sl_drew | apply sl_box | apply sl_alloc))).mono ?_; rintro e w2 ⟨rfl, hs⟩; unfold rv; (try simp only [World.size_alloc] at hs); replace HS := Aside0.mk hs; clear hs; (try (have hb2 := sl_blk HS.out 2 (by rfl); (try simp only [World.size_alloc] at hb2); have lt2 := blk_lt hb2; have c2_0 := (blk_cell hb2 0).trans (show _ = some _ from rfl); have c2_1 := (blk_cell hb2 1).trans (show _ = some _ from rfl); have c2_2 := (blk_cell hb2 2).trans (show _ = some _ from rfl); clear hb2)); (try (have hb3 := sl_blk HS.out 3 (by rfl); (try simp only [World.size_alloc] at hb3); have lt3 := blk_lt hb3; have c3_0 := (blk_cell hb3 0).trans (show _ = some _ from rfl); have c3_1 := (blk_cell hb3 1).trans (show _ = some _ from rfl); have c3_2 := (blk_cell hb3 2).trans (show _ = some _ from rfl); have c3_3 := (blk_cell hb3 3).trans (show _ = some _ from rfl); have c3_4 := (blk_cell hb3 4).trans (show _ = some _ from rfl); clear hb3)); (try (have hb4 := sl_blk HS.out 4 (by rfl); (try simp only [World.size_alloc] at hb4); have lt4 := blk_lt hb4; have c4_0 := (blk_cell hb4 0).trans (show _ = some _ from rfl); have c4_1 := (blk_cell hb4 1).trans (show _ = some _ from rfl); have c4_2 := (blk_cell hb4 2).trans (show _ = some _ from rfl); have c4_3 := (blk_cell hb4 3).trans (show _ = some _ from rfl); clear hb4)); (try (have fz2_0 := blk_frozen (sl_blk HS.out 2 (by rfl)) 0; have fz2_1 := blk_frozen (sl_blk HS.out 2 (by rfl)) 1; have fz2_2 := blk_frozen (sl_blk HS.out 2 (by rfl)) 2)))
          | (go_at_call 13; refine (rSend_sl 1 _ _ _ _ rfl (by repeat (with_reducible first | exact HS.out | apply sl_drewN | apply sl_drew | apply sl_box | apply sl_alloc))).mono ?_; rintro e w2 ⟨⟨t1, t2⟩, rfl, hs⟩; obtain ⟨B1, n1, d1, B2, n2, d2, hb1_, hb2_⟩ := ref_slices hs 1 (by rfl); dsimp only at hb1_ hb2_; subst hb1_ hb2_; (try simp only [World.size_alloc] at hs); replace HS := Aside0.mk hs; clear hs; (try (have hb2 := sl_blk HS.out 2 (by rfl); (try simp only [World.size_alloc] at hb2); have lt2 := blk_lt hb2; have c2_0 := (blk_cell hb2 0).trans (show _ = some _ from rfl); have c2_1 := (blk_cell hb2 1).trans (show _ = some _ from rfl); have c2_2 := (blk_cell hb2 2).trans (show _ = some _ from rfl); clear hb2)); (try (have hb3 := sl_blk HS.out 3 (by rfl); (try simp only [World.size_alloc] at hb3); have lt3 := blk_lt hb3; have c3_0 := (blk_cell hb3 0).trans (show _ = some _ from rfl); have c3_1 := (blk_cell hb3 1).trans (show _ = some _ from rfl); have c3_2 := (blk_cell hb3 2).trans (show _ = some _ from rfl); have c3_3 := (blk_cell hb3 3).trans (show _ = some _ from rfl); have c3_4 := (blk_cell hb3 4).trans (show _ = some _ from rfl); clear hb3)); (try (have hb4 := sl_blk HS.out 4 (by rfl); (try simp only [World.size_alloc] at hb4); have lt4 := blk_lt hb4; have c4_0 := (blk_cell hb4 0).trans (show _ = some _ from rfl); have c4_1 := (blk_cell hb4 1).trans (show _ = some _ from rfl); have c4_2 := (blk_cell hb4 2).trans (show _ = some _ from rfl); have c4_3 := (blk_cell hb4 3).trans (show _ = some _ from rfl); clear hb4)); (try (have fz2_0 := blk_frozen (sl_blk HS.out 2 (by rfl)) 0; have fz2_1 := blk_frozen (sl_blk HS.out 2 (by rfl)) 1; have fz2_2 := blk_frozen (sl_blk HS.out 2 (by rfl)) 2)))
          | (go_at_call 15; refine (rAck_sl 1 _ rfl (by repeat (with_reducible first | exact HS.out | apply sl_drewN | apply sl_drew | apply sl_box | apply sl_alloc))).mono ?_; rintro e w2 ⟨⟨t1, t2⟩, rfl, hs⟩; obtain ⟨B1, n1, d1, B2, n2, d2, hb1_, hb2_⟩ := ref_slices hs 1 (by rfl); dsimp only at hb1_ hb2_; subst hb1_ hb2_; (try simp only [World.size_alloc] at hs); replace HS := Aside0.mk hs; clear hs; (try (have hb2 := sl_blk HS.out 2 (by rfl); (try simp only [World.size_alloc] at hb2); have lt2 := blk_lt hb2; have c2_0 := (blk_cell hb2 0).trans (show _ = some _ from rfl); have c2_1 := (blk_cell hb2 1).trans (show _ = some _ from rfl); have c2_2 := (blk_cell hb2 2).trans (show _ = some _ from rfl); clear hb2)); (try (have hb3 := sl_blk HS.out 3 (by rfl); (try simp only [World.size_alloc] at hb3); have lt3 := blk_lt hb3; have c3_0 := (blk_cell hb3 0).trans (show _ = some _ from rfl); have c3_1 := (blk_cell hb3 1).trans (show _ = some _ from rfl); have c3_2 := (blk_cell hb3 2).trans (show _ = some _ from rfl); have c3_3 := (blk_cell hb3 3).trans (show _ = some _ from rfl); have c3_4 := (blk_cell hb3 4).trans (show _ = some _ from rfl); clear hb3)); (try (have hb4 := sl_blk HS.out 4 (by rfl); (try simp only [World.size_alloc] at hb4); have lt4 := blk_lt hb4; have c4_0 := (blk_cell hb4 0).trans (show _ = some _ from rfl); have c4_1 := (blk_cell hb4 1).trans (show _ = some _ from rfl); have c4_2 := (blk_cell hb4 2).trans (show _ = some _ from rfl); have c4_3 := (blk_cell hb4 3).trans (show _ = some _ from rfl); clear hb4)); (try (have fz2_0 := blk_frozen (sl_blk HS.out 2 (by rfl)) 0; have fz2_1 := blk_frozen (sl_blk HS.out 2 (by rfl)) 1; have fz2_2 := blk_frozen (sl_blk HS.out 2 (by rfl)) 2)))
          | (go_at_call 17; refine (rApply_sl 1 HV.out rfl (by repeat (with_reducible first | exact HS.out | apply sl_drewN | apply sl_drew | apply sl_box | apply sl_alloc))).mono ?_; rintro e w2 ⟨rfl, hs⟩; (try simp only [World.size_alloc] at hs); replace HS := Aside0.mk hs; clear hs; (try (have hb2 := sl_blk HS.out 2 (by rfl); (try simp only [World.size_alloc] at hb2); have lt2 := blk_lt hb2; have c2_0 := (blk_cell hb2 0).trans (show _ = some _ from rfl); have c2_1 := (blk_cell hb2 1).trans (show _ = some _ from rfl); have c2_2 := (blk_cell hb2 2).trans (show _ = some _ from rfl); clear hb2)); (try (have hb3 := sl_blk HS.out 3 (by rfl); (try simp only [World.size_alloc] at hb3); have lt3 := blk_lt hb3; have c3_0 := (blk_cell hb3 0).trans (show _ = some _ from rfl); have c3_1 := (blk_cell hb3 1).trans (show _ = some _ from rfl); have c3_2 := (blk_cell hb3 2).trans (show _ = some _ from rfl); have c3_3 := (blk_cell hb3 3).trans (show _ = some _ from rfl); have c3_4 := (blk_cell hb3 4).trans (show _ = some _ from rfl); clear hb3)); (try (have hb4 := sl_blk HS.out 4 (by rfl); (try simp only [World.size_alloc] at hb4); have lt4 := blk_lt hb4; have c4_0 := (blk_cell hb4 0).trans (show _ = some _ from rfl); have c4_1 := (blk_cell hb4 1).trans (show _ = some _ from rfl); have c4_2 := (blk_cell hb4 2).trans (show _ = some _ from rfl); have c4_3 := (blk_cell hb4 3).trans (show _ = some _ from rfl); clear hb4)); (try (have fz2_0 := blk_frozen (sl_blk HS.out 2 (by rfl)) 0; have fz2_1 := blk_frozen (sl_blk HS.out 2 (by rfl)) 1; have fz2_2 := blk_frozen (sl_blk HS.out 2 (by rfl)) 2)))
          | (go_at_call 19; refine (rAcked_sl 1 HV.out rfl (by repeat (with_reducible first | exact HS.out | apply sl_drewN | apply sl_drew | apply sl_box | apply sl_alloc))).mono ?_; rintro e w2 ⟨rfl, hs⟩; unfold rcfg; (try simp only [World.size_alloc] at hs); replace HS := Aside0.mk hs; clear hs; (try (have hb2 := sl_blk HS.out 2 (by rfl); (try simp only [World.size_alloc] at hb2); have lt2 := blk_lt hb2; have c2_0 := (blk_cell hb2 0).trans (show _ = some _ from rfl); have c2_1 := (blk_cell hb2 1).trans (show _ = some _ from rfl); have c2_2 := (blk_cell hb2 2).trans (show _ = some _ from rfl); clear hb2)); (try (have hb3 := sl_blk HS.out 3 (by rfl); (try simp only [World.size_alloc] at hb3); have lt3 := blk_lt hb3; have c3_0 := (blk_cell hb3 0).trans (show _ = some _ from rfl); have c3_1 := (blk_cell hb3 1).trans (show _ = some _ from rfl); have c3_2 := (blk_cell hb3 2).trans (show _ = some _ from rfl); have c3_3 := (blk_cell hb3 3).trans (show _ = some _ from rfl); have c3_4 := (blk_cell hb3 4).trans (show _ = some _ from rfl); clear hb3)); (try (have hb4 := sl_blk HS.out 4 (by rfl); (try simp only [World.size_alloc] at hb4); have lt4 := blk_lt hb4; have c4_0 := (blk_cell hb4 0).trans (show _ = some _ from rfl); have c4_1 := (blk_cell hb4 1).trans (show _ = some _ from rfl); have c4_2 := (blk_cell hb4 2).trans (show _ = some _ from rfl); have c4_3 := (blk_cell hb4 3).trans (show _ = some _ from rfl); clear hb4)); (try (have fz2_0 := blk_frozen (sl_blk HS.out 2 (by rfl)) 0; have fz2_1 := blk_frozen (sl_blk HS.out 2 (by rfl)) 1; have fz2_2 := blk_frozen (sl_blk HS.out 2 (by rfl)) 2)))
          | (go_at_call 21; refine (rWaiting_sl 1 rfl (by repeat (with_reducible first | exact HS.out | apply sl_drewN | apply sl_drew | apply sl_box | apply sl_alloc))).mono ?_; rintro e w2 ⟨rfl, hs⟩; (try simp only [World.size_alloc] at hs); replace HS := Aside0.mk hs; clear hs; (try (have hb2 := sl_blk HS.out 2 (by rfl); (try simp only [World.size_alloc] at hb2); have lt2 := blk_lt hb2; have c2_0 := (blk_cell hb2 0).trans (show _ = some _ from rfl); have c2_1 := (blk_cell hb2 1).trans (show _ = some _ from rfl); have c2_2 := (blk_cell hb2 2).trans (show _ = some _ from rfl); clear hb2)); (try (have hb3 := sl_blk HS.out 3 (by rfl); (try simp only [World.size_alloc] at hb3); have lt3 := blk_lt hb3; have c3_0 := (blk_cell hb3 0).trans (show _ = some _ from rfl); have c3_1 := (blk_cell hb3 1).trans (show _ = some _ from rfl); have c3_2 := (blk_cell hb3 2).trans (show _ = some _ from rfl); have c3_3 := (blk_cell hb3 3).trans (show _ = some _ from rfl); have c3_4 := (blk_cell hb3 4).trans (show _ = some _ from rfl); clear hb3)); (try (have hb4 := sl_blk HS.out 4 (by rfl); (try simp only [World.size_alloc] at hb4); have lt4 := blk_lt hb4; have c4_0 := (blk_cell hb4 0).trans (show _ = some _ from rfl); have c4_1 := (blk_cell hb4 1).trans (show _ = some _ from rfl); have c4_2 := (blk_cell hb4 2).trans (show _ = some _ from rfl); have c4_3 := (blk_cell hb4 3).trans (show _ = some _ from rfl); clear hb4)); (try (have fz2_0 := blk_frozen (sl_blk HS.out 2 (by rfl)) 0; have fz2_1 := blk_frozen (sl_blk HS.out 2 (by rfl)) 1; have fz2_2 := blk_frozen (sl_blk HS.out 2 (by rfl)) 2)))
          | (go_at_call 23; refine (rConfigured_sl 1 rfl (by repeat (with_reducible first | exact HS.out | apply sl_drewN | apply sl_drew | apply sl_box | apply sl_alloc))).mono ?_; rintro e w2 ⟨rfl, hs⟩; (try simp only [World.size_alloc] at hs); replace HS := Aside0.mk hs; clear hs; (try (have hb2 := sl_blk HS.out 2 (by rfl); (try simp only [World.size_alloc] at hb2); have lt2 := blk_lt hb2; have c2_0 := (blk_cell hb2 0).trans (show _ = some _ from rfl); have c2_1 := (blk_cell hb2 1).trans (show _ = some _ from rfl); have c2_2 := (blk_cell hb2 2).trans (show _ = some _ from rfl); clear hb2)); (try (have hb3 := sl_blk HS.out 3 (by rfl); (try simp only [World.size_alloc] at hb3); have lt3 := blk_lt hb3; have c3_0 := (blk_cell hb3 0).trans (show _ = some _ from rfl); have c3_1 := (blk_cell hb3 1).trans (show _ = some _ from rfl); have c3_2 := (blk_cell hb3 2).trans (show _ = some _ from rfl); have c3_3 := (blk_cell hb3 3).trans (show _ = some _ from rfl); have c3_4 := (blk_cell hb3 4).trans (show _ = some _ from rfl); clear hb3)); (try (have hb4 := sl_blk HS.out 4 (by rfl); (try simp only [World.size_alloc] at hb4); have lt4 := blk_lt hb4; have c4_0 := (blk_cell hb4 0).trans (show _ = some _ from rfl); have c4_1 := (blk_cell hb4 1).trans (show _ = some _ from rfl); have c4_2 := (blk_cell hb4 2).trans (show _ = some _ from rfl); have c4_3 := (blk_cell hb4 3).trans (show _ = some _ from rfl); clear hb4)); (try (have fz2_0 := blk_frozen (sl_blk HS.out 2 (by rfl)) 0; have fz2_1 := blk_frozen (sl_blk HS.out 2 (by rfl)) 1; have fz2_2 := blk_frozen (sl_blk HS.out 2 (by rfl)) 2))))
          refine world_gen (F := fun w_ => Code.wp Try.prog _ _ _ w_) (fun w_ => SL w w_ [queueR g (apS q), refR (.slice Z1 z1 y1) (.slice none 0 0) (apS q), cellsR gb 28 #[.slice Z1 z1 y1, .slice none 0 0, .bool (apS q).conf]]) (sl_three (sl_alloc (sl_alloc (sl_put (sl_put (sl_put HS.out 2 rfl 0 _) 2 rfl 1 _) 2 rfl 2 _) _) _)) ?_
          have HV2 := Aside0.mk (HV.out.app)
          (try clear gbl); (try clear g0_)
          intro w5 hs
          generalize (apS q) = q2 at hs HV2 ⊢
          have bl : ((q2.wait.length : Int) != (q2.wait.length : Int)) = false := by simp
          have bl2 : (q2.wait.length != q2.wait.length) = false := by simp
          replace HS := Aside0.mk hs
          clear hs HV
          have HV := HV2
          clear HV2
          have gbl := blk_lt (sl_blk HS.out 2 rfl)
          have g0_ := (blk_cell (sl_blk HS.out 2 rfl) 0).trans (show _ = some (Value.slice Z1 z1 y1) from rfl)
          have g1_ := (blk_cell (sl_blk HS.out 2 rfl) 1).trans (show _ = some (Value.slice none 0 0) from rfl)
          have g2_ := (blk_cell (sl_blk HS.out 2 rfl) 2).trans (show _ = some (Value.bool q2.conf) from rfl)
          go_upto_region 23 with (first
            | (go_at_call 10; refine (New_calls w _ _ (by repeat (with_reducible first | exact HS.out | apply sl_drewN | apply sl_drew | apply sl_box | apply sl_alloc))).mono ?_; rintro e w1 ⟨g, rfl, hs⟩; (try simp only [World.size_alloc] at hs); replace HS := Aside0.mk hs; clear hs; (try (have hb2 := sl_blk HS.out 2 (by rfl); (try simp only [World.size_alloc] at hb2); have lt2 := blk_lt hb2; have c2_0 := (blk_cell hb2 0).trans (show _ = some _ from rfl); have c2_1 := (blk_cell hb2 1).trans (show _ = some _ from rfl); have c2_2 := (blk_cell hb2 2).trans (show _ = some _ from rfl); clear hb2)); (try (have hb3 := sl_blk HS.out 3 (by rfl); (try simp only [World.size_alloc] at hb3); have lt3 := blk_lt hb3; have c3_0 := (blk_cell hb3 0).trans (show _ = some _ from rfl); have c3_1 := (blk_cell hb3 1).trans (show _ = some _ from rfl); have c3_2 := (blk_cell hb3 2).trans (show _ = some _ from rfl); have c3_3 := (blk_cell hb3 3).trans (show _ = some _ from rfl); clear hb3)))
            | (go_at_call 12; refine (Send_sl 0 _ _ _ _ rfl (by repeat (with_reducible first | exact HS.out | apply sl_drewN | apply sl_drew | apply sl_box | apply sl_alloc))).mono ?_; rintro e w1 ⟨rfl, hs⟩; (try simp only [World.size_alloc] at hs); replace HS := Aside0.mk hs; clear hs; (try (have hb2 := sl_blk HS.out 2 (by rfl); (try simp only [World.size_alloc] at hb2); have lt2 := blk_lt hb2; have c2_0 := (blk_cell hb2 0).trans (show _ = some _ from rfl); have c2_1 := (blk_cell hb2 1).trans (show _ = some _ from rfl); have c2_2 := (blk_cell hb2 2).trans (show _ = some _ from rfl); clear hb2)); (try (have hb3 := sl_blk HS.out 3 (by rfl); (try simp only [World.size_alloc] at hb3); have lt3 := blk_lt hb3; have c3_0 := (blk_cell hb3 0).trans (show _ = some _ from rfl); have c3_1 := (blk_cell hb3 1).trans (show _ = some _ from rfl); have c3_2 := (blk_cell hb3 2).trans (show _ = some _ from rfl); have c3_3 := (blk_cell hb3 3).trans (show _ = some _ from rfl); clear hb3)))
            | (go_at_call 14; refine (Ack_sl 0 _ rfl (by repeat (with_reducible first | exact HS.out | apply sl_drewN | apply sl_drew | apply sl_box | apply sl_alloc))).mono ?_; rintro e w1 ⟨rfl, hs⟩; (try simp only [World.size_alloc] at hs); replace HS := Aside0.mk hs; clear hs; (try (have hb2 := sl_blk HS.out 2 (by rfl); (try simp only [World.size_alloc] at hb2); have lt2 := blk_lt hb2; have c2_0 := (blk_cell hb2 0).trans (show _ = some _ from rfl); have c2_1 := (blk_cell hb2 1).trans (show _ = some _ from rfl); have c2_2 := (blk_cell hb2 2).trans (show _ = some _ from rfl); clear hb2)); (try (have hb3 := sl_blk HS.out 3 (by rfl); (try simp only [World.size_alloc] at hb3); have lt3 := blk_lt hb3; have c3_0 := (blk_cell hb3 0).trans (show _ = some _ from rfl); have c3_1 := (blk_cell hb3 1).trans (show _ = some _ from rfl); have c3_2 := (blk_cell hb3 2).trans (show _ = some _ from rfl); have c3_3 := (blk_cell hb3 3).trans (show _ = some _ from rfl); clear hb3)))
            | (go_at_call 16; refine (Apply_sl 0 rfl (by repeat (with_reducible first | exact HS.out | apply sl_drewN | apply sl_drew | apply sl_box | apply sl_alloc))).mono ?_; rintro e w1 ⟨rfl, hs⟩; unfold rcfg; (try simp only [World.size_alloc] at hs); replace HS := Aside0.mk hs; clear hs; (try (have hb2 := sl_blk HS.out 2 (by rfl); (try simp only [World.size_alloc] at hb2); have lt2 := blk_lt hb2; have c2_0 := (blk_cell hb2 0).trans (show _ = some _ from rfl); have c2_1 := (blk_cell hb2 1).trans (show _ = some _ from rfl); have c2_2 := (blk_cell hb2 2).trans (show _ = some _ from rfl); clear hb2)); (try (have hb3 := sl_blk HS.out 3 (by rfl); (try simp only [World.size_alloc] at hb3); have lt3 := blk_lt hb3; have c3_0 := (blk_cell hb3 0).trans (show _ = some _ from rfl); have c3_1 := (blk_cell hb3 1).trans (show _ = some _ from rfl); have c3_2 := (blk_cell hb3 2).trans (show _ = some _ from rfl); have c3_3 := (blk_cell hb3 3).trans (show _ = some _ from rfl); clear hb3)))
            | (go_at_call 18; refine (Acked_sl 0 rfl (by repeat (with_reducible first | exact HS.out | apply sl_drewN | apply sl_drew | apply sl_box | apply sl_alloc))).mono ?_; rintro e w1 ⟨rfl, hs⟩; unfold rcfg; (try simp only [World.size_alloc] at hs); replace HS := Aside0.mk hs; clear hs; (try (have hb2 := sl_blk HS.out 2 (by rfl); (try simp only [World.size_alloc] at hb2); have lt2 := blk_lt hb2; have c2_0 := (blk_cell hb2 0).trans (show _ = some _ from rfl); have c2_1 := (blk_cell hb2 1).trans (show _ = some _ from rfl); have c2_2 := (blk_cell hb2 2).trans (show _ = some _ from rfl); clear hb2)); (try (have hb3 := sl_blk HS.out 3 (by rfl); (try simp only [World.size_alloc] at hb3); have lt3 := blk_lt hb3; have c3_0 := (blk_cell hb3 0).trans (show _ = some _ from rfl); have c3_1 := (blk_cell hb3 1).trans (show _ = some _ from rfl); have c3_2 := (blk_cell hb3 2).trans (show _ = some _ from rfl); have c3_3 := (blk_cell hb3 3).trans (show _ = some _ from rfl); clear hb3)))
            | (go_at_call 20; refine (Waiting_sl 0 rfl (by repeat (with_reducible first | exact HS.out | apply sl_drewN | apply sl_drew | apply sl_box | apply sl_alloc))).mono ?_; rintro e w1 ⟨rfl, rfl⟩)
            | (go_at_call 22; refine (Configured_sl 0 rfl (by repeat (with_reducible first | exact HS.out | apply sl_drewN | apply sl_drew | apply sl_box | apply sl_alloc))).mono ?_; rintro e w1 ⟨rfl, rfl⟩)
            | (go_at_call 11; refine (rNew_calls w _ _ (by repeat (with_reducible first | exact HS.out | apply sl_drewN | apply sl_drew | apply sl_box | apply sl_alloc))).mono ?_; rintro e w2 ⟨rfl, hs⟩; unfold rv; (try simp only [World.size_alloc] at hs); replace HS := Aside0.mk hs; clear hs; (try (have hb2 := sl_blk HS.out 2 (by rfl); (try simp only [World.size_alloc] at hb2); have lt2 := blk_lt hb2; have c2_0 := (blk_cell hb2 0).trans (show _ = some _ from rfl); have c2_1 := (blk_cell hb2 1).trans (show _ = some _ from rfl); have c2_2 := (blk_cell hb2 2).trans (show _ = some _ from rfl); clear hb2)); (try (have hb3 := sl_blk HS.out 3 (by rfl); (try simp only [World.size_alloc] at hb3); have lt3 := blk_lt hb3; have c3_0 := (blk_cell hb3 0).trans (show _ = some _ from rfl); have c3_1 := (blk_cell hb3 1).trans (show _ = some _ from rfl); have c3_2 := (blk_cell hb3 2).trans (show _ = some _ from rfl); have c3_3 := (blk_cell hb3 3).trans (show _ = some _ from rfl); clear hb3)))
            | (go_at_call 13; refine (rSend_sl 1 _ _ _ _ rfl (by repeat (with_reducible first | exact HS.out | apply sl_drewN | apply sl_drew | apply sl_box | apply sl_alloc))).mono ?_; rintro e w2 ⟨⟨t1, t2⟩, rfl, hs⟩; obtain ⟨B1, n1, d1, B2, n2, d2, hb1_, hb2_⟩ := ref_slices hs 1 (by rfl); dsimp only at hb1_ hb2_; subst hb1_ hb2_; (try simp only [World.size_alloc] at hs); replace HS := Aside0.mk hs; clear hs; (try (have hb2 := sl_blk HS.out 2 (by rfl); (try simp only [World.size_alloc] at hb2); have lt2 := blk_lt hb2; have c2_0 := (blk_cell hb2 0).trans (show _ = some _ from rfl); have c2_1 := (blk_cell hb2 1).trans (show _ = some _ from rfl); have c2_2 := (blk_cell hb2 2).trans (show _ = some _ from rfl); clear hb2)); (try (have hb3 := sl_blk HS.out 3 (by rfl); (try simp only [World.size_alloc] at hb3); have lt3 := blk_lt hb3; have c3_0 := (blk_cell hb3 0).trans (show _ = some _ from rfl); have c3_1 := (blk_cell hb3 1).trans (show _ = some _ from rfl); have c3_2 := (blk_cell hb3 2).trans (show _ = some _ from rfl); have c3_3 := (blk_cell hb3 3).trans (show _ = some _ from rfl); clear hb3)))
            | (go_at_call 15; refine (rAck_sl 1 _ rfl (by repeat (with_reducible first | exact HS.out | apply sl_drewN | apply sl_drew | apply sl_box | apply sl_alloc))).mono ?_; rintro e w2 ⟨⟨t1, t2⟩, rfl, hs⟩; obtain ⟨B1, n1, d1, B2, n2, d2, hb1_, hb2_⟩ := ref_slices hs 1 (by rfl); dsimp only at hb1_ hb2_; subst hb1_ hb2_; (try simp only [World.size_alloc] at hs); replace HS := Aside0.mk hs; clear hs; (try (have hb2 := sl_blk HS.out 2 (by rfl); (try simp only [World.size_alloc] at hb2); have lt2 := blk_lt hb2; have c2_0 := (blk_cell hb2 0).trans (show _ = some _ from rfl); have c2_1 := (blk_cell hb2 1).trans (show _ = some _ from rfl); have c2_2 := (blk_cell hb2 2).trans (show _ = some _ from rfl); clear hb2)); (try (have hb3 := sl_blk HS.out 3 (by rfl); (try simp only [World.size_alloc] at hb3); have lt3 := blk_lt hb3; have c3_0 := (blk_cell hb3 0).trans (show _ = some _ from rfl); have c3_1 := (blk_cell hb3 1).trans (show _ = some _ from rfl); have c3_2 := (blk_cell hb3 2).trans (show _ = some _ from rfl); have c3_3 := (blk_cell hb3 3).trans (show _ = some _ from rfl); clear hb3)))
            | (go_at_call 17; refine (rApply_sl 1 HV.out rfl (by repeat (with_reducible first | exact HS.out | apply sl_drewN | apply sl_drew | apply sl_box | apply sl_alloc))).mono ?_; rintro e w2 ⟨rfl, hs⟩; (try simp only [World.size_alloc] at hs); replace HS := Aside0.mk hs; clear hs; (try (have hb2 := sl_blk HS.out 2 (by rfl); (try simp only [World.size_alloc] at hb2); have lt2 := blk_lt hb2; have c2_0 := (blk_cell hb2 0).trans (show _ = some _ from rfl); have c2_1 := (blk_cell hb2 1).trans (show _ = some _ from rfl); have c2_2 := (blk_cell hb2 2).trans (show _ = some _ from rfl); clear hb2)); (try (have hb3 := sl_blk HS.out 3 (by rfl); (try simp only [World.size_alloc] at hb3); have lt3 := blk_lt hb3; have c3_0 := (blk_cell hb3 0).trans (show _ = some _ from rfl); have c3_1 := (blk_cell hb3 1).trans (show _ = some _ from rfl); have c3_2 := (blk_cell hb3 2).trans (show _ = some _ from rfl); have c3_3 := (blk_cell hb3 3).trans (show _ = some _ from rfl); clear hb3)))
            | (go_at_call 19; refine (rAcked_sl 1 HV.out rfl (by repeat (with_reducible first | exact HS.out | apply sl_drewN | apply sl_drew | apply sl_box | apply sl_alloc))).mono ?_; rintro e w2 ⟨rfl, hs⟩; unfold rcfg; (try simp only [World.size_alloc] at hs); replace HS := Aside0.mk hs; clear hs; (try (have hb2 := sl_blk HS.out 2 (by rfl); (try simp only [World.size_alloc] at hb2); have lt2 := blk_lt hb2; have c2_0 := (blk_cell hb2 0).trans (show _ = some _ from rfl); have c2_1 := (blk_cell hb2 1).trans (show _ = some _ from rfl); have c2_2 := (blk_cell hb2 2).trans (show _ = some _ from rfl); clear hb2)); (try (have hb3 := sl_blk HS.out 3 (by rfl); (try simp only [World.size_alloc] at hb3); have lt3 := blk_lt hb3; have c3_0 := (blk_cell hb3 0).trans (show _ = some _ from rfl); have c3_1 := (blk_cell hb3 1).trans (show _ = some _ from rfl); have c3_2 := (blk_cell hb3 2).trans (show _ = some _ from rfl); have c3_3 := (blk_cell hb3 3).trans (show _ = some _ from rfl); clear hb3)))
            | (go_at_call 21; refine (rWaiting_sl 1 rfl (by repeat (with_reducible first | exact HS.out | apply sl_drewN | apply sl_drew | apply sl_box | apply sl_alloc))).mono ?_; rintro e w2 ⟨rfl, hs⟩; (try simp only [World.size_alloc] at hs); replace HS := Aside0.mk hs; clear hs; (try (have hb2 := sl_blk HS.out 2 (by rfl); (try simp only [World.size_alloc] at hb2); have lt2 := blk_lt hb2; have c2_0 := (blk_cell hb2 0).trans (show _ = some _ from rfl); have c2_1 := (blk_cell hb2 1).trans (show _ = some _ from rfl); have c2_2 := (blk_cell hb2 2).trans (show _ = some _ from rfl); clear hb2)); (try (have hb3 := sl_blk HS.out 3 (by rfl); (try simp only [World.size_alloc] at hb3); have lt3 := blk_lt hb3; have c3_0 := (blk_cell hb3 0).trans (show _ = some _ from rfl); have c3_1 := (blk_cell hb3 1).trans (show _ = some _ from rfl); have c3_2 := (blk_cell hb3 2).trans (show _ = some _ from rfl); have c3_3 := (blk_cell hb3 3).trans (show _ = some _ from rfl); clear hb3)))
            | (go_at_call 23; refine (rConfigured_sl 1 rfl (by repeat (with_reducible first | exact HS.out | apply sl_drewN | apply sl_drew | apply sl_box | apply sl_alloc))).mono ?_; rintro e w2 ⟨rfl, hs⟩; (try simp only [World.size_alloc] at hs); replace HS := Aside0.mk hs; clear hs; (try (have hb2 := sl_blk HS.out 2 (by rfl); (try simp only [World.size_alloc] at hb2); have lt2 := blk_lt hb2; have c2_0 := (blk_cell hb2 0).trans (show _ = some _ from rfl); have c2_1 := (blk_cell hb2 1).trans (show _ = some _ from rfl); have c2_2 := (blk_cell hb2 2).trans (show _ = some _ from rfl); clear hb2)); (try (have hb3 := sl_blk HS.out 3 (by rfl); (try simp only [World.size_alloc] at hb3); have lt3 := blk_lt hb3; have c3_0 := (blk_cell hb3 0).trans (show _ = some _ from rfl); have c3_1 := (blk_cell hb3 1).trans (show _ = some _ from rfl); have c3_2 := (blk_cell hb3 2).trans (show _ = some _ from rfl); have c3_3 := (blk_cell hb3 3).trans (show _ = some _ from rfl); clear hb3))))
          obtain ⟨g14, h14⟩ : ∃ z, z = w1.heap.size := ⟨_, rfl⟩
          obtain ⟨g16, h16⟩ : ∃ z, z = w2.heap.size := ⟨_, rfl⟩
          have hs6 := sl_box HS.out #[.int .u32 q2.next.f0, .int .i64 q2.next.f1, .int .i64 q2.next.f2, .int .i64 q2.next.f3] 43
          rw [← h14, ← h16] at hs6
          rw [← h14, ← h16]
          refine world_gen (F := fun w_ => Code.wp Try.prog _ _ _ w_) (fun w_ => SL w w_ [queueR g q2, refR (.slice Z1 z1 y1) (.slice none 0 0) q2, cellsR gb 28 #[.slice Z1 z1 y1, .slice none 0 0, .bool q2.conf], cellsR g14 40 #[.int .u32 q2.next.f0, .int .i64 q2.next.f1, .int .i64 q2.next.f2, .int .i64 q2.next.f3], cellsR g16 43 #[.int .u32 q2.next.f0, .int .i64 q2.next.f1, .int .i64 q2.next.f2, .int .i64 q2.next.f3]]) hs6 ?_
          clear hs6 HS
          intro w6 hs6
          have HS6 := Aside0.mk hs6
          clear hs6 h14 h16
          refine start_ (n := 27) (S := fun w' => w'.cell? ⟨gb, 0, none⟩ = some (.slice Z1 z1 y1) ∧ w'.cell? ⟨gb, 1, none⟩ = some (.slice none 0 0) ∧ w'.cell? ⟨gb, 2, none⟩ = some (.bool q2.conf) ∧ w'.cell? ⟨g14, 0, none⟩ = some (.int .u32 q2.next.f0) ∧ w'.cell? ⟨g14, 1, none⟩ = some (.int .i64 q2.next.f1) ∧ w'.cell? ⟨g14, 2, none⟩ = some (.int .i64 q2.next.f2) ∧ w'.cell? ⟨g14, 3, none⟩ = some (.int .i64 q2.next.f3) ∧ w'.cell? ⟨g16, 0, none⟩ = some (.int .u32 q2.next.f0) ∧ w'.cell? ⟨g16, 1, none⟩ = some (.int .i64 q2.next.f1) ∧ w'.cell? ⟨g16, 2, none⟩ = some (.int .i64 q2.next.f2) ∧ w'.cell? ⟨g16, 3, none⟩ = some (.int .i64 q2.next.f3) ∧ SL w w' [queueR g q2, refR (.slice Z1 z1 y1) (.slice none 0 0) q2, cellsR gb 28 #[.slice Z1 z1 y1, .slice none 0 0, .bool q2.conf], cellsR g14 40 #[.int .u32 q2.next.f0, .int .i64 q2.next.f1, .int .i64 q2.next.f2, .int .i64 q2.next.f3], cellsR g16 43 #[.int .u32 q2.next.f0, .int .i64 q2.next.f1, .int .i64 q2.next.f2, .int .i64 q2.next.f3]]) (ds := []) #[false, false, false, false, false, false, false, false, false, false, false, false, false, false, false, false, false, false, false, false, false, false, false, false, false, false, false] (by kernel_rfl) rfl rfl ⟨(cell_b (sl_blk (sl_drew HS6.out) 2 rfl) rfl), (cell_b (sl_blk (sl_drew HS6.out) 2 rfl) rfl), (cell_b (sl_blk (sl_drew HS6.out) 2 rfl) rfl), (cell_b (sl_blk (sl_drew HS6.out) 3 rfl) rfl), (cell_b (sl_blk (sl_drew HS6.out) 3 rfl) rfl), (cell_b (sl_blk (sl_drew HS6.out) 3 rfl) rfl), (cell_b (sl_blk (sl_drew HS6.out) 3 rfl) rfl), (cell_b (sl_blk (sl_drew HS6.out) 4 rfl) rfl), (cell_b (sl_blk (sl_drew HS6.out) 4 rfl) rfl), (cell_b (sl_blk (sl_drew HS6.out) 4 rfl) rfl), (cell_b (sl_blk (sl_drew HS6.out) 4 rfl) rfl), (sl_drew HS6.out)⟩ (fun hHeld => ?_)
          refine pure_ (i := 0) (N := some 103) (v := ?_) (a' := ?_) #[true, false, false, false, false, false, false, false, false, false, false, false, false, false, false, false, false, false, false, false, false, false, false, false, false, false, false] rfl rfl (by kernel_rfl) (fun _ _ _ h => h) (Or.inl ⟨by rfl, ?_⟩) ?_ ?_
          rotate_left
          · intro w'
            go_simp
            with_reducible rfl
          rotate_left
          · simp only [Act.put, List.setIfInBounds_toArray, List.set_cons_zero, List.set_cons_succ, i64_w, i32_w, IntKind.wrap_u32, IntKind.wrap_u8, IntKind.wrap_u16]
            rfl
          refine pure_ (i := 1) (N := some 104) (v := ?_) (a' := ?_) #[true, true, false, false, false, false, false, false, false, false, false, false, false, false, false, false, false, false, false, false, false, false, false, false, false, false, false] rfl rfl (by kernel_rfl) (fun _ _ _ h => h) (Or.inl ⟨by rfl, ?_⟩) ?_ ?_
          rotate_left
          · intro w'
            go_simp
            with_reducible rfl
          rotate_left
          · simp only [Act.put, List.setIfInBounds_toArray, List.set_cons_zero, List.set_cons_succ, i64_w, i32_w, IntKind.wrap_u32, IntKind.wrap_u8, IntKind.wrap_u16]
            rfl
          refine pure_ (i := 2) (N := some 105) (v := ?_) (a' := ?_) #[true, true, true, false, false, false, false, false, false, false, false, false, false, false, false, false, false, false, false, false, false, false, false, false, false, false, false] rfl rfl (by kernel_rfl) (fun _ _ _ h => h) (Or.inl ⟨by rfl, ?_⟩) ?_ ?_
          rotate_left
          · intro w'
            go_simp
            with_reducible rfl
          rotate_left
          · simp only [Act.put, List.setIfInBounds_toArray, List.set_cons_zero, List.set_cons_succ, i64_w, i32_w, IntKind.wrap_u32, IntKind.wrap_u8, IntKind.wrap_u16]
            rfl
          refine pure_ (i := 3) (N := some 106) (v := ?_) (a' := ?_) #[true, true, true, true, false, false, false, false, false, false, false, false, false, false, false, false, false, false, false, false, false, false, false, false, false, false, false] rfl rfl (by kernel_rfl) (fun _ _ _ h => h) (Or.inl ⟨by rfl, ?_⟩) ?_ ?_
          rotate_left
          · intro w'
            go_simp
            with_reducible rfl
          rotate_left
          · simp only [Act.put, List.setIfInBounds_toArray, List.set_cons_zero, List.set_cons_succ, i64_w, i32_w, IntKind.wrap_u32, IntKind.wrap_u8, IntKind.wrap_u16]
            rfl
          refine pure_ (i := 4) (N := some 107) (v := ?_) (a' := ?_) #[true, true, true, true, true, false, false, false, false, false, false, false, false, false, false, false, false, false, false, false, false, false, false, false, false, false, false] rfl rfl (by kernel_rfl) (fun _ _ _ h => h) (Or.inl ⟨by rfl, ?_⟩) ?_ ?_
          rotate_left
          · intro w'
            go_simp
            with_reducible rfl
          rotate_left
          · simp only [Act.put, List.setIfInBounds_toArray, List.set_cons_zero, List.set_cons_succ, i64_w, i32_w, IntKind.wrap_u32, IntKind.wrap_u8, IntKind.wrap_u16]
            rfl
          refine take_ (i := 6) (N := some 109) (v := ?_) (a' := ?_) #[true, true, true, true, true, false, true, false, false, false, false, false, false, false, false, false, false, false, false, false, false, false, false, false, false, false, false] rfl rfl (by kernel_rfl) (fun _ _ _ h => h) (Or.inl ⟨by rfl, ?_⟩) hHeld ?_ ?_
          rotate_left
          · rintro w' ⟨s0, s1, s2, s3, s4, s5, s6, s7, s8, s9, s10, s11⟩
            go_simp
            with_reducible rfl
          rotate_left
          · simp only [Act.put, List.setIfInBounds_toArray, List.set_cons_zero, List.set_cons_succ, i64_w, i32_w, IntKind.wrap_u32, IntKind.wrap_u8, IntKind.wrap_u16]
            rfl
          refine one_ (i := 5) (N := some 108) #[true, true, true, true, true, true, true, false, false, false, false, false, false, false, false, false, false, false, false, false, false, false, false, false, false, false, false] rfl rfl (by kernel_rfl) (by decide) (fun K hK => ?_)
          refine goes_ Try.func20 (by kernel_rfl) rfl #[.pointer (some ⟨g, 0, none⟩)] (by rfl) rfl rfl (by (try simp only [List.map_toArray, List.map_cons, List.map_nil]); first | done | rfl) ?_
          with_reducible refine (Waiting_sl 0 rfl hHeld.2.2.2.2.2.2.2.2.2.2.2).mono ?_
          rintro e w7 ⟨rfl, rfl⟩
          refine ⟨_, rfl, ?_⟩
          refine hK.out _ _ ⟨(cell_b (sl_blk hHeld.2.2.2.2.2.2.2.2.2.2.2 2 rfl) rfl), (cell_b (sl_blk hHeld.2.2.2.2.2.2.2.2.2.2.2 2 rfl) rfl), (cell_b (sl_blk hHeld.2.2.2.2.2.2.2.2.2.2.2 2 rfl) rfl), (cell_b (sl_blk hHeld.2.2.2.2.2.2.2.2.2.2.2 3 rfl) rfl), (cell_b (sl_blk hHeld.2.2.2.2.2.2.2.2.2.2.2 3 rfl) rfl), (cell_b (sl_blk hHeld.2.2.2.2.2.2.2.2.2.2.2 3 rfl) rfl), (cell_b (sl_blk hHeld.2.2.2.2.2.2.2.2.2.2.2 3 rfl) rfl), (cell_b (sl_blk hHeld.2.2.2.2.2.2.2.2.2.2.2 4 rfl) rfl), (cell_b (sl_blk hHeld.2.2.2.2.2.2.2.2.2.2.2 4 rfl) rfl), (cell_b (sl_blk hHeld.2.2.2.2.2.2.2.2.2.2.2 4 rfl) rfl), (cell_b (sl_blk hHeld.2.2.2.2.2.2.2.2.2.2.2 4 rfl) rfl), hHeld.2.2.2.2.2.2.2.2.2.2.2⟩ (fun hHeld => ?_)
          clear hK K
          refine norm_ (a' := ?_) ?_ ?_
          rotate_left
          · show Act.put _ (some 108) _ = _
            simp only [Act.put, List.setIfInBounds_toArray, List.set_cons_zero, List.set_cons_succ, i64_w, i32_w, IntKind.wrap_u32, IntKind.wrap_u8, IntKind.wrap_u16]
            rfl
          refine one_ (i := 7) (N := some 110) #[true, true, true, true, true, true, true, true, false, false, false, false, false, false, false, false, false, false, false, false, false, false, false, false, false, false, false] rfl rfl (by kernel_rfl) (by decide) (fun K hK => ?_)
          refine goes_ Try.func21 (by kernel_rfl) rfl #[.agg #[.slice Z1 z1 y1, .slice none 0 0, .bool q2.conf]] (by rfl) rfl rfl (by (try simp only [List.map_toArray, List.map_cons, List.map_nil]); first | done | rfl) ?_
          with_reducible refine (rWaiting_sl 1 rfl hHeld.2.2.2.2.2.2.2.2.2.2.2).mono ?_
          rintro e w7 ⟨rfl, hs⟩
          refine ⟨_, rfl, ?_⟩
          refine hK.out _ _ ⟨(cell_b (sl_blk hs 2 rfl) rfl), (cell_b (sl_blk hs 2 rfl) rfl), (cell_b (sl_blk hs 2 rfl) rfl), (cell_b (sl_blk hs 3 rfl) rfl), (cell_b (sl_blk hs 3 rfl) rfl), (cell_b (sl_blk hs 3 rfl) rfl), (cell_b (sl_blk hs 3 rfl) rfl), (cell_b (sl_blk hs 4 rfl) rfl), (cell_b (sl_blk hs 4 rfl) rfl), (cell_b (sl_blk hs 4 rfl) rfl), (cell_b (sl_blk hs 4 rfl) rfl), hs⟩ (fun hHeld => ?_)
          clear hK K
          refine norm_ (a' := ?_) ?_ ?_
          rotate_left
          · show Act.put _ (some 110) _ = _
            simp only [Act.put, List.setIfInBounds_toArray, List.set_cons_zero, List.set_cons_succ, i64_w, i32_w, IntKind.wrap_u32, IntKind.wrap_u8, IntKind.wrap_u16]
            rfl
          refine pure_ (i := 8) (N := some 111) (v := ?_) (a' := ?_) #[true, true, true, true, true, true, true, true, true, false, false, false, false, false, false, false, false, false, false, false, false, false, false, false, false, false, false] rfl rfl (by kernel_rfl) (fun _ _ _ h => h) (Or.inl ⟨by rfl, ?_⟩) ?_ ?_
          rotate_left
          · intro w'
            go_simp
            with_reducible rfl
          rotate_left
          · simp only [Act.put, List.setIfInBounds_toArray, List.set_cons_zero, List.set_cons_succ, i64_w, i32_w, IntKind.wrap_u32, IntKind.wrap_u8, IntKind.wrap_u16]
            rfl
          refine pure_ (i := 9) (N := some 112) (v := ?_) (a' := ?_) #[true, true, true, true, true, true, true, true, true, true, false, false, false, false, false, false, false, false, false, false, false, false, false, false, false, false, false] rfl rfl (by kernel_rfl) (fun _ _ _ h => h) (Or.inl ⟨by rfl, ?_⟩) ?_ ?_
          rotate_left
          · intro w'
            go_simp
            with_reducible rfl
          rotate_left
          · simp only [Act.put, List.setIfInBounds_toArray, List.set_cons_zero, List.set_cons_succ, i64_w, i32_w, IntKind.wrap_u32, IntKind.wrap_u8, IntKind.wrap_u16]
            rfl
          refine pure_ (i := 10) (N := some 113) (v := ?_) (a' := ?_) #[true, true, true, true, true, true, true, true, true, true, true, false, false, false, false, false, false, false, false, false, false, false, false, false, false, false, false] rfl rfl (by kernel_rfl) (fun _ _ _ h => h) (Or.inl ⟨by rfl, ?_⟩) ?_ ?_
          rotate_left
          · intro w'
            go_simp
            with_reducible rfl
          rotate_left
          · simp only [Act.put, List.setIfInBounds_toArray, List.set_cons_zero, List.set_cons_succ, i64_w, i32_w, IntKind.wrap_u32, IntKind.wrap_u8, IntKind.wrap_u16]
            rfl
          refine take_ (i := 11) (N := some 114) (v := ?_) (a' := ?_) #[true, true, true, true, true, true, true, true, true, true, true, true, false, false, false, false, false, false, false, false, false, false, false, false, false, false, false] rfl rfl (by kernel_rfl) (fun _ _ _ h => h) (Or.inl ⟨by rfl, ?_⟩) hHeld ?_ ?_
          rotate_left
          · rintro w' ⟨s0, s1, s2, s3, s4, s5, s6, s7, s8, s9, s10, s11⟩
            go_simp
            with_reducible rfl
          rotate_left
          · simp only [Act.put, List.setIfInBounds_toArray, List.set_cons_zero, List.set_cons_succ, i64_w, i32_w, IntKind.wrap_u32, IntKind.wrap_u8, IntKind.wrap_u16]
            rfl
          refine take_ (i := 12) (N := some 115) (v := ?_) (a' := ?_) #[true, true, true, true, true, true, true, true, true, true, true, true, true, false, false, false, false, false, false, false, false, false, false, false, false, false, false] rfl rfl (by kernel_rfl) (fun _ _ _ h => h) (Or.inl ⟨by rfl, ?_⟩) hHeld ?_ ?_
          rotate_left
          · rintro w' ⟨s0, s1, s2, s3, s4, s5, s6, s7, s8, s9, s10, s11⟩
            go_simp
            with_reducible rfl
          rotate_left
          · simp only [Act.put, List.setIfInBounds_toArray, List.set_cons_zero, List.set_cons_succ, i64_w, i32_w, IntKind.wrap_u32, IntKind.wrap_u8, IntKind.wrap_u16]
            rfl
          refine pure_ (i := 13) (N := some 116) (v := ?_) (a' := ?_) #[true, true, true, true, true, true, true, true, true, true, true, true, true, true, false, false, false, false, false, false, false, false, false, false, false, false, false] rfl rfl (by kernel_rfl) (fun _ _ _ h => h) (Or.inl ⟨by rfl, ?_⟩) ?_ ?_
          rotate_left
          · intro w'
            go_simp
            with_reducible rfl
          rotate_left
          · simp only [Act.put, List.setIfInBounds_toArray, List.set_cons_zero, List.set_cons_succ, i64_w, i32_w, IntKind.wrap_u32, IntKind.wrap_u8, IntKind.wrap_u16]
            rfl
          refine pure_ (i := 14) (N := some 117) (v := ?_) (a' := ?_) #[true, true, true, true, true, true, true, true, true, true, true, true, true, true, true, false, false, false, false, false, false, false, false, false, false, false, false] rfl rfl (by kernel_rfl) (fun _ _ _ h => h) (Or.inl ⟨by rfl, ?_⟩) ?_ ?_
          rotate_left
          · intro w'
            go_simp
            with_reducible rfl
          rotate_left
          · simp only [Act.put, List.setIfInBounds_toArray, List.set_cons_zero, List.set_cons_succ, i64_w, i32_w, IntKind.wrap_u32, IntKind.wrap_u8, IntKind.wrap_u16]
            rfl
          refine pure_ (i := 15) (N := some 118) (v := ?_) (a' := ?_) #[true, true, true, true, true, true, true, true, true, true, true, true, true, true, true, true, false, false, false, false, false, false, false, false, false, false, false] rfl rfl (by kernel_rfl) (fun _ _ _ h => h) (Or.inl ⟨by rfl, ?_⟩) ?_ ?_
          rotate_left
          · intro w'
            go_simp
            with_reducible rfl
          rotate_left
          · simp only [Act.put, List.setIfInBounds_toArray, List.set_cons_zero, List.set_cons_succ, i64_w, i32_w, IntKind.wrap_u32, IntKind.wrap_u8, IntKind.wrap_u16]
            rfl
          refine pure_ (i := 16) (N := some 119) (v := ?_) (a' := ?_) #[true, true, true, true, true, true, true, true, true, true, true, true, true, true, true, true, true, false, false, false, false, false, false, false, false, false, false] rfl rfl (by kernel_rfl) (fun _ _ _ h => h) (Or.inl ⟨by rfl, ?_⟩) ?_ ?_
          rotate_left
          · intro w'
            go_simp
            with_reducible rfl
          rotate_left
          · simp only [Act.put, List.setIfInBounds_toArray, List.set_cons_zero, List.set_cons_succ, i64_w, i32_w, IntKind.wrap_u32, IntKind.wrap_u8, IntKind.wrap_u16]
            rfl
          refine pure_ (i := 17) (N := some 120) (v := ?_) (a' := ?_) #[true, true, true, true, true, true, true, true, true, true, true, true, true, true, true, true, true, true, false, false, false, false, false, false, false, false, false] rfl rfl (by kernel_rfl) (fun _ _ _ h => h) (Or.inl ⟨by rfl, ?_⟩) ?_ ?_
          rotate_left
          · intro w'
            go_simp
            with_reducible rfl
          rotate_left
          · simp only [Act.put, List.setIfInBounds_toArray, List.set_cons_zero, List.set_cons_succ, i64_w, i32_w, IntKind.wrap_u32, IntKind.wrap_u8, IntKind.wrap_u16]
            rfl
          refine pure_ (i := 18) (N := some 121) (v := ?_) (a' := ?_) #[true, true, true, true, true, true, true, true, true, true, true, true, true, true, true, true, true, true, true, false, false, false, false, false, false, false, false] rfl rfl (by kernel_rfl) (fun _ _ _ h => h) (Or.inl ⟨by rfl, ?_⟩) ?_ ?_
          rotate_left
          · intro w'
            go_simp
            with_reducible rfl
          rotate_left
          · simp only [Act.put, List.setIfInBounds_toArray, List.set_cons_zero, List.set_cons_succ, i64_w, i32_w, IntKind.wrap_u32, IntKind.wrap_u8, IntKind.wrap_u16]
            rfl
          refine pure_ (i := 19) (N := some 122) (v := ?_) (a' := ?_) #[true, true, true, true, true, true, true, true, true, true, true, true, true, true, true, true, true, true, true, true, false, false, false, false, false, false, false] rfl rfl (by kernel_rfl) (fun _ _ _ h => h) (Or.inl ⟨by rfl, ?_⟩) ?_ ?_
          rotate_left
          · intro w'
            go_simp
            with_reducible rfl
          rotate_left
          · simp only [Act.put, List.setIfInBounds_toArray, List.set_cons_zero, List.set_cons_succ, i64_w, i32_w, IntKind.wrap_u32, IntKind.wrap_u8, IntKind.wrap_u16]
            rfl
          refine pure_ (i := 20) (N := some 123) (v := ?_) (a' := ?_) #[true, true, true, true, true, true, true, true, true, true, true, true, true, true, true, true, true, true, true, true, true, false, false, false, false, false, false] rfl rfl (by kernel_rfl) (fun _ _ _ h => h) (Or.inl ⟨by rfl, ?_⟩) ?_ ?_
          rotate_left
          · intro w'
            go_simp
            with_reducible rfl
          rotate_left
          · simp only [Act.put, List.setIfInBounds_toArray, List.set_cons_zero, List.set_cons_succ, i64_w, i32_w, IntKind.wrap_u32, IntKind.wrap_u8, IntKind.wrap_u16]
            rfl
          refine pure_ (i := 21) (N := some 124) (v := ?_) (a' := ?_) #[true, true, true, true, true, true, true, true, true, true, true, true, true, true, true, true, true, true, true, true, true, true, false, false, false, false, false] rfl rfl (by kernel_rfl) (fun _ _ _ h => h) (Or.inl ⟨by rfl, ?_⟩) ?_ ?_
          rotate_left
          · intro w'
            go_simp
            with_reducible rfl
          rotate_left
          · simp only [Act.put, List.setIfInBounds_toArray, List.set_cons_zero, List.set_cons_succ, i64_w, i32_w, IntKind.wrap_u32, IntKind.wrap_u8, IntKind.wrap_u16]
            rfl
          refine take_ (i := 23) (N := some 126) (v := ?_) (a' := ?_) #[true, true, true, true, true, true, true, true, true, true, true, true, true, true, true, true, true, true, true, true, true, true, false, true, false, false, false] rfl rfl (by kernel_rfl) (fun _ _ _ h => h) (Or.inl ⟨by rfl, ?_⟩) hHeld ?_ ?_
          rotate_left
          · rintro w' ⟨s0, s1, s2, s3, s4, s5, s6, s7, s8, s9, s10, s11⟩
            go_simp
            with_reducible rfl
          rotate_left
          · simp only [Act.put, List.setIfInBounds_toArray, List.set_cons_zero, List.set_cons_succ, i64_w, i32_w, IntKind.wrap_u32, IntKind.wrap_u8, IntKind.wrap_u16]
            rfl
          refine one_ (i := 22) (N := some 125) #[true, true, true, true, true, true, true, true, true, true, true, true, true, true, true, true, true, true, true, true, true, true, true, true, false, false, false] rfl rfl (by kernel_rfl) (by decide) (fun K hK => ?_)
          refine goes_ Try.func22 (by kernel_rfl) rfl #[.pointer (some ⟨g, 0, none⟩)] (by rfl) rfl rfl (by (try simp only [List.map_toArray, List.map_cons, List.map_nil]); first | done | rfl) ?_
          with_reducible refine (Configured_sl 0 rfl hHeld.2.2.2.2.2.2.2.2.2.2.2).mono ?_
          rintro e w7 ⟨rfl, rfl⟩
          refine ⟨_, rfl, ?_⟩
          refine hK.out _ _ ⟨(cell_b (sl_blk hHeld.2.2.2.2.2.2.2.2.2.2.2 2 rfl) rfl), (cell_b (sl_blk hHeld.2.2.2.2.2.2.2.2.2.2.2 2 rfl) rfl), (cell_b (sl_blk hHeld.2.2.2.2.2.2.2.2.2.2.2 2 rfl) rfl), (cell_b (sl_blk hHeld.2.2.2.2.2.2.2.2.2.2.2 3 rfl) rfl), (cell_b (sl_blk hHeld.2.2.2.2.2.2.2.2.2.2.2 3 rfl) rfl), (cell_b (sl_blk hHeld.2.2.2.2.2.2.2.2.2.2.2 3 rfl) rfl), (cell_b (sl_blk hHeld.2.2.2.2.2.2.2.2.2.2.2 3 rfl) rfl), (cell_b (sl_blk hHeld.2.2.2.2.2.2.2.2.2.2.2 4 rfl) rfl), (cell_b (sl_blk hHeld.2.2.2.2.2.2.2.2.2.2.2 4 rfl) rfl), (cell_b (sl_blk hHeld.2.2.2.2.2.2.2.2.2.2.2 4 rfl) rfl), (cell_b (sl_blk hHeld.2.2.2.2.2.2.2.2.2.2.2 4 rfl) rfl), hHeld.2.2.2.2.2.2.2.2.2.2.2⟩ (fun hHeld => ?_)
          clear hK K
          refine norm_ (a' := ?_) ?_ ?_
          rotate_left
          · show Act.put _ (some 125) _ = _
            simp only [Act.put, List.setIfInBounds_toArray, List.set_cons_zero, List.set_cons_succ, i64_w, i32_w, IntKind.wrap_u32, IntKind.wrap_u8, IntKind.wrap_u16]
            rfl
          refine one_ (i := 24) (N := some 127) #[true, true, true, true, true, true, true, true, true, true, true, true, true, true, true, true, true, true, true, true, true, true, true, true, true, false, false] rfl rfl (by kernel_rfl) (by decide) (fun K hK => ?_)
          refine goes_ Try.func23 (by kernel_rfl) rfl #[.agg #[.slice Z1 z1 y1, .slice none 0 0, .bool q2.conf]] (by rfl) rfl rfl (by (try simp only [List.map_toArray, List.map_cons, List.map_nil]); first | done | rfl) ?_
          with_reducible refine (rConfigured_sl 1 rfl hHeld.2.2.2.2.2.2.2.2.2.2.2).mono ?_
          rintro e w7 ⟨rfl, hs⟩
          refine ⟨_, rfl, ?_⟩
          refine hK.out _ _ ⟨(cell_b (sl_blk hs 2 rfl) rfl), (cell_b (sl_blk hs 2 rfl) rfl), (cell_b (sl_blk hs 2 rfl) rfl), (cell_b (sl_blk hs 3 rfl) rfl), (cell_b (sl_blk hs 3 rfl) rfl), (cell_b (sl_blk hs 3 rfl) rfl), (cell_b (sl_blk hs 3 rfl) rfl), (cell_b (sl_blk hs 4 rfl) rfl), (cell_b (sl_blk hs 4 rfl) rfl), (cell_b (sl_blk hs 4 rfl) rfl), (cell_b (sl_blk hs 4 rfl) rfl), hs⟩ (fun hHeld => ?_)
          clear hK K
          refine norm_ (a' := ?_) ?_ ?_
          rotate_left
          · show Act.put _ (some 127) _ = _
            simp only [Act.put, List.setIfInBounds_toArray, List.set_cons_zero, List.set_cons_succ, i64_w, i32_w, IntKind.wrap_u32, IntKind.wrap_u8, IntKind.wrap_u16]
            rfl
          refine pure_ (i := 25) (N := some 128) (v := ?_) (a' := ?_) #[true, true, true, true, true, true, true, true, true, true, true, true, true, true, true, true, true, true, true, true, true, true, true, true, true, true, false] rfl rfl (by kernel_rfl) (fun _ _ _ h => h) (Or.inl ⟨by rfl, ?_⟩) ?_ ?_
          rotate_left
          · intro w'
            go_simp
            with_reducible rfl
          rotate_left
          · simp only [Act.put, List.setIfInBounds_toArray, List.set_cons_zero, List.set_cons_succ, i64_w, i32_w, IntKind.wrap_u32, IntKind.wrap_u8, IntKind.wrap_u16]
            rfl
          refine pure_ (i := 26) (N := some 129) (v := ?_) (a' := ?_) #[true, true, true, true, true, true, true, true, true, true, true, true, true, true, true, true, true, true, true, true, true, true, true, true, true, true, true] rfl rfl (by kernel_rfl) (fun _ _ _ h => h) (Or.inl ⟨by rfl, ?_⟩) ?_ ?_
          rotate_left
          · intro w'
            go_simp
            with_reducible rfl
          rotate_left
          · simp only [Act.put, List.setIfInBounds_toArray, List.set_cons_zero, List.set_cons_succ, i64_w, i32_w, IntKind.wrap_u32, IntKind.wrap_u8, IntKind.wrap_u16]
            rfl
          refine done_ (by kernel_rfl) ?_
          have HF := Aside0.mk (sl_three hHeld.2.2.2.2.2.2.2.2.2.2.2)
          clear hHeld HS6 gbl
          go_wp2
          go_roundg kq
          case measure => omega
          case rel => exact ⟨i + 1, q2, (.slice Z1 z1 y1), (.slice none 0 0), rfl, ⟨by omega⟩, HV, HF⟩
    · have b2 : decide (i < l.length) = false := decide_eq_false hlt
      go_wp2_with (first
    | (go_at_call 10; refine (New_calls w _ _ (by repeat (with_reducible first | exact HS.out | apply sl_drewN | apply sl_drew | apply sl_box | apply sl_alloc))).mono ?_; rintro e w1 ⟨g, rfl, hs⟩; (try simp only [World.size_alloc] at hs); replace HS := Aside0.mk hs; clear hs)
    | (go_at_call 12; refine (Send_sl 0 _ _ _ _ rfl (by repeat (with_reducible first | exact HS.out | apply sl_drewN | apply sl_drew | apply sl_box | apply sl_alloc))).mono ?_; rintro e w1 ⟨rfl, hs⟩; (try simp only [World.size_alloc] at hs); replace HS := Aside0.mk hs; clear hs)
    | (go_at_call 14; refine (Ack_sl 0 _ rfl (by repeat (with_reducible first | exact HS.out | apply sl_drewN | apply sl_drew | apply sl_box | apply sl_alloc))).mono ?_; rintro e w1 ⟨rfl, hs⟩; (try simp only [World.size_alloc] at hs); replace HS := Aside0.mk hs; clear hs)
    | (go_at_call 16; refine (Apply_sl 0 rfl (by repeat (with_reducible first | exact HS.out | apply sl_drewN | apply sl_drew | apply sl_box | apply sl_alloc))).mono ?_; rintro e w1 ⟨rfl, hs⟩; unfold rcfg; (try simp only [World.size_alloc] at hs); replace HS := Aside0.mk hs; clear hs)
    | (go_at_call 18; refine (Acked_sl 0 rfl (by repeat (with_reducible first | exact HS.out | apply sl_drewN | apply sl_drew | apply sl_box | apply sl_alloc))).mono ?_; rintro e w1 ⟨rfl, hs⟩; unfold rcfg; (try simp only [World.size_alloc] at hs); replace HS := Aside0.mk hs; clear hs)
    | (go_at_call 20; refine (Waiting_sl 0 rfl (by repeat (with_reducible first | exact HS.out | apply sl_drewN | apply sl_drew | apply sl_box | apply sl_alloc))).mono ?_; rintro e w1 ⟨rfl, rfl⟩)
    | (go_at_call 22; refine (Configured_sl 0 rfl (by repeat (with_reducible first | exact HS.out | apply sl_drewN | apply sl_drew | apply sl_box | apply sl_alloc))).mono ?_; rintro e w1 ⟨rfl, rfl⟩)
    | (go_at_call 11; refine (rNew_calls w _ _ (by repeat (with_reducible first | exact HS.out | apply sl_drewN | apply sl_drew | apply sl_box | apply sl_alloc))).mono ?_; rintro e w2 ⟨rfl, hs⟩; unfold rv; (try simp only [World.size_alloc] at hs); replace HS := Aside0.mk hs; clear hs)
    | (go_at_call 13; refine (rSend_sl 1 _ _ _ _ rfl (by repeat (with_reducible first | exact HS.out | apply sl_drewN | apply sl_drew | apply sl_box | apply sl_alloc))).mono ?_; rintro e w2 ⟨⟨t1, t2⟩, rfl, hs⟩; obtain ⟨B1, n1, d1, B2, n2, d2, hb1_, hb2_⟩ := ref_slices hs 1 (by rfl); dsimp only at hb1_ hb2_; subst hb1_ hb2_; (try simp only [World.size_alloc] at hs); replace HS := Aside0.mk hs; clear hs)
    | (go_at_call 15; refine (rAck_sl 1 _ rfl (by repeat (with_reducible first | exact HS.out | apply sl_drewN | apply sl_drew | apply sl_box | apply sl_alloc))).mono ?_; rintro e w2 ⟨⟨t1, t2⟩, rfl, hs⟩; obtain ⟨B1, n1, d1, B2, n2, d2, hb1_, hb2_⟩ := ref_slices hs 1 (by rfl); dsimp only at hb1_ hb2_; subst hb1_ hb2_; (try simp only [World.size_alloc] at hs); replace HS := Aside0.mk hs; clear hs)
    | (go_at_call 17; refine (rApply_sl 1 HV.out rfl (by repeat (with_reducible first | exact HS.out | apply sl_drewN | apply sl_drew | apply sl_box | apply sl_alloc))).mono ?_; rintro e w2 ⟨rfl, hs⟩; (try simp only [World.size_alloc] at hs); replace HS := Aside0.mk hs; clear hs)
    | (go_at_call 19; refine (rAcked_sl 1 HV.out rfl (by repeat (with_reducible first | exact HS.out | apply sl_drewN | apply sl_drew | apply sl_box | apply sl_alloc))).mono ?_; rintro e w2 ⟨rfl, hs⟩; unfold rcfg; (try simp only [World.size_alloc] at hs); replace HS := Aside0.mk hs; clear hs)
    | (go_at_call 21; refine (rWaiting_sl 1 rfl (by repeat (with_reducible first | exact HS.out | apply sl_drewN | apply sl_drew | apply sl_box | apply sl_alloc))).mono ?_; rintro e w2 ⟨rfl, hs⟩; (try simp only [World.size_alloc] at hs); replace HS := Aside0.mk hs; clear hs)
    | (go_at_call 23; refine (rConfigured_sl 1 rfl (by repeat (with_reducible first | exact HS.out | apply sl_drewN | apply sl_drew | apply sl_box | apply sl_alloc))).mono ?_; rintro e w2 ⟨rfl, hs⟩; (try simp only [World.size_alloc] at hs); replace HS := Aside0.mk hs; clear hs)
    | (go_at_call 9; refine (ex_calls w _ _ (by repeat (with_reducible first | exact HS.out | apply sl_drewN | apply sl_drew | apply sl_box | apply sl_alloc))).mono ?_; rintro e w1 ⟨rfl, hs⟩; (try simp only [World.size_alloc] at hs); replace HS := Aside0.mk hs; clear hs))
      go_ret
      exact ⟨rfl, sl_below0 HS.out⟩
end Go.Proofs.Ytockppikcghmoaa.Q
