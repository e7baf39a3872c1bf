import Derived.Test.YtlfediaeaaodpaaQu6
import Derived.Test.YtlfediaeaaodpaaQu3
namespace Go.Proofs.Ytlfediaeaaodpaa.Q
open Go.RowKit Go.Proofs.YtlfediaeaaodpaaW.PrintWords Go.Proofs.YtlfediaeaaodpaaW.PrintLast Go.Proofs.YtlfediaeaaodpaaW.PrintMore Go.Proofs.Ytlfediaeaaodpaa.Sl Go.Proofs.Ytlfediaeaaodpaa.Hand 
attribute [local go_sem] max2_int min2_int max_two min_two max_three min_three max_four min_four 
set_option linter.unusedVariables false
set_option linter.unusedSimpArgs false

theorem useS_ok {q : List S58} (h : Qok q) {k n : Int} : Qok (useS q k n) := by
  unfold useS
  split
  · exact h
  · rename_i hu
    have hu : useE q k n = 0 := by omega
    unfold useE at hu
    split at hu
    · omega
    · rename_i hc
      obtain ⟨p0, p1, p2⟩ := chk0 (show chkE q k n = 0 by omega)
      obtain ⟨x1, x2, x3⟩ := Qok_at h p0 p1
      refine ⟨by rw [List.length_set]; exact h.1, fun x hx => ?_⟩
      rcases List.mem_or_eq_of_mem_set hx with hx | rfl
      · exact h.2 x hx
      · split at hu
        · omega
        · exact ⟨by simp only; omega, by simp only; omega, x3⟩
theorem relS_ok {q : List S58} (h : Qok q) {k n : Int} : Qok (relS q k n) := by
  unfold relS
  split
  · exact h
  · rename_i hu
    have hu : relE q k n = 0 := by omega
    unfold relE at hu
    split at hu
    · omega
    · rename_i hc
      obtain ⟨p0, p1, p2⟩ := chk0 (show chkE q k n = 0 by omega)
      obtain ⟨x1, x2, x3⟩ := Qok_at h p0 p1
      refine ⟨by rw [List.length_set]; exact h.1, fun x hx => ?_⟩
      rcases List.mem_or_eq_of_mem_set hx with hx | rfl
      · exact h.2 x hx
      · split at hu
        · omega
        · exact ⟨by simp only; omega, by simp only; omega, x3⟩
theorem newQ_ok {l : List Int} (hl : l.length ≤ 1000) (h : ∀ x ∈ l, x ≤ 9223372036854775807) : Qok (newQ l) := by
  refine ⟨by unfold newQ; rw [List.length_map]; exact hl, fun x hx => ?_⟩
  obtain ⟨n, hn, rfl⟩ := List.mem_map.1 hx
  have := h n hn
  simp only [mx]
  split <;> omega
def encI (x : Int) : List Value := [.int .i64 x]
theorem flatI : Flat (Kd.int .i64) encI := ⟨fun w x => rfl, fun w x cs h => h⟩
/-- A literal of numbers that has just been made. -/
theorem lit_i {w : World} (xs : List Int) (cs : Array Value) (h : cs = (xs.flatMap encI).toArray) (hl : xs.length ≤ maxLen) : Kd.C (Kd.int .i64) (w.alloc (.cells cs 3)) (some ⟨w.heap.size, 0, none⟩) xs.length xs := by
  subst h
  exact ((LR.lit (e := 3) flatI (heap_alloc_new w _) hl).reads' flatI).2.2
theorem Use_h {w0 w : World} {L : List Res} (h : SL w0 w L) (i : Nat) {g : Nat} {q : List S58} (k n : Int) (hi : L[i]? = some (quotaR g q)) (hk : Qok q) :
    Calls Try.prog 26 #[.pointer (some ⟨g, 0, none⟩), .int .i64 k, .int .i64 n] w fun e w' => e = .returned (.int .i64 (useE q k n)) ∧ SL w0 w' (L.set i (quotaR g (useS q k n))) := Use_sl i k n hi h hk
theorem Rel_h {w0 w : World} {L : List Res} (h : SL w0 w L) (i : Nat) {g : Nat} {q : List S58} (k n : Int) (hi : L[i]? = some (quotaR g q)) (hk : Qok q) :
    Calls Try.prog 25 #[.pointer (some ⟨g, 0, none⟩), .int .i64 k, .int .i64 n] w fun e w' => e = .returned (.int .i64 (relE q k n)) ∧ SL w0 w' (L.set i (quotaR g (relS q k n))) := Rel_sl i k n hi h hk
theorem Used_h {w0 w : World} {L : List Res} (h : SL w0 w L) (i : Nat) {g : Nat} {q : List S58} (k : Int) (hi : L[i]? = some (quotaR g q)) :
    Calls Try.prog 23 #[.pointer (some ⟨g, 0, none⟩), .int .i64 k] w fun e w' => e = .returned (.int .i64 (usedE q k)) ∧ w = w' := Used_sl i k hi h
theorem Take_h {w0 w : World} {L : List Res} (h : SL w0 w L) (i : Nat) {g : Nat} {b : BSt} (t n : Int) (hi : L[i]? = some (bucketR g b)) (ho : Bok b) (h0 : -9223372036854775808 ≤ t) (h1 : t < 9223372036854775808) :
    Calls Try.prog 17 #[.pointer (some ⟨g, 0, none⟩), .int .i64 t, .int .i64 n] w fun e w' => e = .returned (.bool (takE b t n)) ∧ SL w0 w' (L.set i (bucketR g (takS b t n))) := Take_sl i t n hi h ho h0 h1
theorem Level_h {w0 w : World} {L : List Res} (h : SL w0 w L) (i : Nat) {g : Nat} {b : BSt} (t : Int) (hi : L[i]? = some (bucketR g b)) (ho : Bok b) (h0 : -9223372036854775808 ≤ t) (h1 : t < 9223372036854775808) :
    Calls Try.prog 15 #[.pointer (some ⟨g, 0, none⟩), .int .i64 t] w fun e w' => e = .returned (.int .i64 (levE b t)) ∧ SL w0 w' (L.set i (bucketR g (advB b t))) := Level_sl i t hi h ho h0 h1
def exq0 : List S58 := [⟨0, 2⟩, ⟨0, 0⟩]
def exb0 : BSt := newB 1000 5
set_option maxHeartbeats 4000000 in
set_option maxRecDepth 100000 in
theorem ex_calls (w0 w : World) (L : List Res) (h : SL w0 w L) : Calls Try.prog 11 #[] w fun e w' => e = .returned (.bool true) ∧ SL w0 w' L := by
  have H := Aside0.mk h
  clear h
  have HS := Aside0.mk (sl_start w)
  have newok : NewOk 1000 5 := by unfold NewOk; omega
  have HQ := Aside0.mk (show Qok (newQ [2, 0]) from newQ_ok (by decide) (by decide))
  have HB := Aside0.mk (newB_ok newok)
  have e1 : useE (newQ [2, 0]) 0 2 = 0 := by decide
  obtain ⟨q1, s1⟩ : ∃ q, useS (newQ [2, 0]) 0 2 = q := ⟨_, rfl⟩
  have hq1 : q1 = [⟨2, 2⟩, ⟨0, 0⟩] := by rw [← s1]; rfl
  have e2 : useE q1 0 1 = 5 := by rw [hq1]; decide
  have s2 : useS q1 0 1 = q1 := by rw [hq1]; rfl
  have e3 : useE q1 1 0 = 0 := by rw [hq1]; decide
  have s3 : useS q1 1 0 = q1 := by rw [hq1]; rfl
  have e4 : useE q1 2 0 = 8 := by rw [hq1]; decide
  have s4 : useS q1 2 0 = q1 := by rw [hq1]; rfl
  have e5 : relE q1 0 3 = 14 := by rw [hq1]; decide
  have s5 : relS q1 0 3 = q1 := by rw [hq1]; rfl
  have t1 : takE (newB 1000 5) 0 5 = true := by decide
  obtain ⟨b1, u1⟩ : ∃ b, takS (newB 1000 5) 0 5 = b := ⟨_, rfl⟩
  have hb1 : b1 = ⟨1000, 5, 0, true, 0⟩ := by rw [← u1]; rfl
  have t2 : takE b1 0 1 = false := by rw [hb1]; decide
  have u2 : takS b1 0 1 = b1 := by rw [hb1]; rfl
  have t3 : levE b1 2 = 2 := by rw [hb1]; decide
  obtain ⟨b2, u3⟩ : ∃ b, advB b1 2 = b := ⟨_, rfl⟩
  have hb2 : b2 = ⟨1000, 5, 2000, true, 2⟩ := by rw [← u3, hb1]; rfl
  have t4 : takE b2 1 2 = true := by rw [hb2]; decide
  obtain ⟨b3, u4⟩ : ∃ b, takS b2 1 2 = b := ⟨_, rfl⟩
  have hb3 : b3 = ⟨1000, 5, 0, true, 2⟩ := by rw [← u4, hb2]; rfl
  have t5 : levE b3 2 = 0 := by rw [hb3]; decide
  clear hq1 hb1 hb2 hb3
  go_enter Try.func11, Try.ntmps11
  go_wp2_with (first
    | (go_at_call 18; refine (QNew_sl _ _ [2, 0] (by repeat (with_reducible first | exact HS.out | apply sl_drewN | apply sl_drew | apply sl_alloc)) (lit_i [2, 0] _ rfl (by decide)) (by decide)).mono ?_; rintro e w1 ⟨gq, rfl, hs⟩; (try simp only [World.size_alloc] at hs); replace HS := Aside0.mk hs; clear hs)
    | (go_at_call 12; refine (New_sl _ _ (by repeat (with_reducible first | exact HS.out | apply sl_drewN | apply sl_drew | apply sl_alloc)) newok).mono ?_; rintro e w1 ⟨gb, rfl, hs⟩; (try simp only [World.size_alloc] at hs); replace HS := Aside0.mk hs; clear hs)
    | (go_at_call 26; refine (Use_h (by repeat (with_reducible first | exact HS.out | apply sl_drewN | apply sl_drew | apply sl_alloc)) 0 _ _ (by rfl) (by repeat (with_reducible first | exact HQ.out | exact HQ2.out | apply useS_ok | apply relS_ok))).mono ?_; rintro e w1 ⟨rfl, hs⟩; (try simp only [World.size_alloc] at hs); replace HS := Aside0.mk hs; clear hs)
    | (go_at_call 25; refine (Rel_h (by repeat (with_reducible first | exact HS.out | apply sl_drewN | apply sl_drew | apply sl_alloc)) 0 _ _ (by rfl) (by repeat (with_reducible first | exact HQ.out | exact HQ2.out | apply useS_ok | apply relS_ok))).mono ?_; rintro e w1 ⟨rfl, hs⟩; (try simp only [World.size_alloc] at hs); replace HS := Aside0.mk hs; clear hs)
    | (go_at_call 23; refine (Used_h (by repeat (with_reducible first | exact HS.out | apply sl_drewN | apply sl_drew | apply sl_alloc)) 0 _ (by rfl)).mono ?_; rintro e w1 ⟨rfl, rfl⟩)
    | (go_at_call 17; refine (Take_h (by repeat (with_reducible first | exact HS.out | apply sl_drewN | apply sl_drew | apply sl_alloc)) 1 _ _ (by rfl) (by repeat (with_reducible first | exact HB.out | exact HB2.out | refine takS_ok ?_ (by first | assumption | omega) (by first | assumption | omega) | refine advB_ok ?_ (by first | assumption | omega) (by first | assumption | omega))) (by first | assumption | omega) (by first | assumption | omega)).mono ?_; rintro e w1 ⟨rfl, hs⟩; (try simp only [World.size_alloc] at hs); replace HS := Aside0.mk hs; clear hs)
    | (go_at_call 15; refine (Level_h (by repeat (with_reducible first | exact HS.out | apply sl_drewN | apply sl_drew | apply sl_alloc)) 1 _ (by rfl) (by repeat (with_reducible first | exact HB.out | exact HB2.out | refine takS_ok ?_ (by first | assumption | omega) (by first | assumption | omega) | refine advB_ok ?_ (by first | assumption | omega) (by first | assumption | omega))) (by first | assumption | omega) (by first | assumption | omega)).mono ?_; rintro e w1 ⟨rfl, hs⟩; (try simp only [World.size_alloc] at hs); replace HS := Aside0.mk hs; clear hs))
  go_ret
  exact ⟨rfl, sl_below H.out (sl_below0 (by repeat (with_reducible first | exact HS.out | apply sl_drewN | apply sl_drew | apply sl_alloc)))⟩
end Go.Proofs.Ytlfediaeaaodpaa.Q
