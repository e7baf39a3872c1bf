import Derived.Test.YtlfediaeaaodpaaQu2
namespace Go.Proofs.Ytlfediaeaaodpaa.Q
open Go.RowKit Go.Proofs.YtlfediaeaaodpaaW.PrintWords Go.Proofs.YtlfediaeaaodpaaW.PrintLast Go.Proofs.YtlfediaeaaodpaaW.PrintMore Go.Proofs.Ytlfediaeaaodpaa.Sl Go.Proofs.Ytlfediaeaaodpaa.Hand 
attribute [local go_sem] max2_int min2_int max_two min_two max_three min_three max_four min_four 
set_option linter.unusedVariables false
set_option linter.unusedSimpArgs false

/-- Levels in thousandths and whole. -/
def levE (b : BSt) (t : Int) : Int := (advB b t).level / 1000
def takE (b : BSt) (t n : Int) : Bool := decide (0 ≤ n ∧ n * 1000 ≤ (advB b t).level)
def takS (b : BSt) (t n : Int) : BSt := if 0 ≤ n ∧ n * 1000 ≤ (advB b t).level then { advB b t with level := (advB b t).level - n * 1000 } else advB b t
theorem takS_ok {b : BSt} (h : Bok b) {t n : Int} (h0 : -9223372036854775808 ≤ t) (h1 : t < 9223372036854775808) : Bok (takS b t n) := by
  obtain ⟨a1, a2, a3, a4, a5, a6, a7, a8⟩ := advB_ok h h0 h1
  unfold takS
  split
  · exact ⟨a1, a2, a3, a4, by simp only; omega, by simp only; omega, a7, a8⟩
  · exact ⟨a1, a2, a3, a4, a5, a6, a7, a8⟩
theorem adv_sl {w0 w : World} {L : List Res} (i : Nat) {g : Nat} {b : BSt} (t : Int) (hi : L[i]? = some (bucketR g b)) (h : SL w0 w L) (ho : Bok b) (h0 : -9223372036854775808 ≤ t) (h1 : t < 9223372036854775808) :
    Calls Try.prog 28 #[.pointer (some ⟨g, 0, none⟩), .int .i64 t] w fun e w' => e = .returned (.tuple #[]) ∧ SL w0 w' (L.set i (bucketR g (advB b t))) :=
  sl_call1 h i hi fun F hP hF => adv_base g b t F w hP hF ho h0 h1
theorem bget {w0 w : World} {L : List Res} {g : Nat} {b : BSt} (h : SL w0 w L) (i : Nat) (hi : L[i]? = some (bucketR g b)) : w.heap[g]? = some (.cells (bcells b) 61 (0, 0)) := sl_blk h i hi
theorem getset {L : List Res} {A B : Res} {i : Nat} (hi : L[i]? = some A) : (L.set i B)[i]? = some B := List.getElem?_set_self (List.getElem?_eq_some_iff.1 hi).1
set_option maxHeartbeats 2000000 in
set_option maxRecDepth 100000 in
theorem Level_sl {w0 w : World} {L : List Res} (i : Nat) {g : Nat} {b : BSt} (t : Int) (hi : L[i]? = some (bucketR g b)) (h : SL w0 w L) (ho : Bok b) (h0 : -9223372036854775808 ≤ t) (h1 : t < 9223372036854775808) :
    Calls Try.prog 15 #[.pointer (some ⟨g, 0, none⟩), .int .i64 t] w fun e w' => e = .returned (.int .i64 (levE b t)) ∧ SL w0 w' (L.set i (bucketR g (advB b t))) := by
  have HS := Aside0.mk h
  have HO := Aside0.mk ho
  have HI := Aside0.mk hi
  have HI2 := Aside0.mk (getset (B := bucketR g (advB b t)) hi)
  have c1 := (blk_cell (bget h i hi) 1).trans (show _ = some (Value.int .i64 b.burst) from rfl)
  have b0 : (b.burst == 0) = false := beq_eq_false_iff_ne.2 (by have := ho.b0; omega)
  have ho2 := advB_ok ho h0 h1
  have l0 := ho2.l0
  have l1 := ho2.l1
  have l2 : (advB b t).burst ≤ 1048576 := ho2.b1
  clear h ho hi ho2
  go_enter Try.func15, Try.ntmps15
  go_wp2_with (first | (go_at_call 28; refine (adv_sl i _ HI.out HS.out HO.out h0 h1).mono ?_; rintro e w1 ⟨rfl, hs⟩; have c2 := (blk_cell (bget hs i HI2.out) 2).trans (show _ = some (Value.int .i64 (advB b t).level) from rfl); have HS1 := Aside0.mk hs; clear hs))
  go_ret
  refine ⟨ret_i ?_, HS1.out⟩
  unfold levE
  rfl
set_option maxHeartbeats 2000000 in
set_option maxRecDepth 100000 in
theorem Take_sl {w0 w : World} {L : List Res} (i : Nat) {g : Nat} {b : BSt} (t n : Int) (hi : L[i]? = some (bucketR g b)) (h : SL w0 w L) (ho : Bok b) (h0 : -9223372036854775808 ≤ t) (h1 : t < 9223372036854775808) :
    Calls Try.prog 17 #[.pointer (some ⟨g, 0, none⟩), .int .i64 t, .int .i64 n] w fun e w' => e = .returned (.bool (takE b t n)) ∧ SL w0 w' (L.set i (bucketR g (takS b t n))) := by
  have HS := Aside0.mk h
  have HO := Aside0.mk ho
  have HI := Aside0.mk hi
  have HI2 := Aside0.mk (getset (B := bucketR g (advB b t)) hi)
  have c1 := (blk_cell (bget h i hi) 1).trans (show _ = some (Value.int .i64 b.burst) from rfl)
  have b0 : (b.burst == 0) = false := beq_eq_false_iff_ne.2 (by have := ho.b0; omega)
  have ho2 := advB_ok ho h0 h1
  have l0 := ho2.l0
  have l1 := ho2.l1
  have l2 : (advB b t).burst ≤ 1048576 := ho2.b1
  clear h ho hi ho2
  by_cases hn : 0 ≤ n ∧ n * 1000 ≤ (advB b t).level
  · have E : takE b t n = true := decide_eq_true hn
    have S : takS b t n = { advB b t with level := (advB b t).level - n * 1000 } := if_pos hn
    obtain ⟨n0, n1⟩ := hn
    rw [E, S]
    clear E S
    go_enter Try.func17, Try.ntmps17
    go_wp2_with (first | (go_at_call 28; refine (adv_sl i _ HI.out HS.out HO.out h0 h1).mono ?_; rintro e w1 ⟨rfl, hs⟩; have c2 := (blk_cell (bget hs i HI2.out) 2).trans (show _ = some (Value.int .i64 (advB b t).level) from rfl); have f2 := blk_frozen (bget hs i HI2.out) 2; have HS1 := Aside0.mk hs; clear hs))
    all_goals first
      | (exfalso; omega)
      | (go_ret
         refine ⟨rfl, ?_⟩
         have := sl_put HS1.out i HI2.out 2 (.int .i64 ((advB b t).level - n * 1000))
         rw [List.set_set] at this
         exact this)
  · have E : takE b t n = false := decide_eq_false hn
    have S : takS b t n = advB b t := if_neg hn
    rw [E, S]
    clear E S
    go_enter Try.func17, Try.ntmps17
    go_wp2_with (first | (go_at_call 28; refine (adv_sl i _ HI.out HS.out HO.out h0 h1).mono ?_; rintro e w1 ⟨rfl, hs⟩; have c2 := (blk_cell (bget hs i HI2.out) 2).trans (show _ = some (Value.int .i64 (advB b t).level) from rfl); have f2 := blk_frozen (bget hs i HI2.out) 2; have HS1 := Aside0.mk hs; clear hs))
    all_goals first
      | (exfalso; omega)
      | (go_ret
         exact ⟨rfl, HS1.out⟩)
theorem no_Level (t : Int) (w : World) : Calls Try.prog 15 #[.pointer none, .int .i64 t] w fun e w' => e = .returned (.int .i64 0) ∧ w = w' := by
  go_enter Try.func15, Try.ntmps15
  go_wp2
  go_ret
  exact ⟨rfl, rfl⟩
theorem no_Take (t n : Int) (w : World) : Calls Try.prog 17 #[.pointer none, .int .i64 t, .int .i64 n] w fun e w' => e = .returned (.bool false) ∧ w = w' := by
  go_enter Try.func17, Try.ntmps17
  go_wp2
  go_ret
  exact ⟨rfl, rfl⟩
def newB (r b : Int) : BSt := ⟨r, b, b * 1000, false, 0⟩
def NewOk (r b : Int) : Prop := 0 ≤ r ∧ r ≤ 1048576 ∧ 1 ≤ b ∧ b ≤ 1048576
theorem newB_ok {r b : Int} (h : NewOk r b) : Bok (newB r b) := by
  obtain ⟨h1, h2, h3, h4⟩ := h
  exact ⟨h1, h2, h3, h4, by show 0 ≤ b * 1000; omega, Int.le_refl _, by show (-9223372036854775808 : Int) ≤ 0; decide, by show (0 : Int) < 9223372036854775808; decide⟩
theorem New_sl {w0 w : World} {L : List Res} (r b : Int) (h : SL w0 w L) (hn : NewOk r b) :
    Calls Try.prog 12 #[.int .i64 r, .int .i64 b] w fun e w' => ∃ g : Nat, e = .returned (.pointer (some ⟨g, 0, none⟩)) ∧ SL w0 w' (L ++ [bucketR g (newB r b)]) := by
  have HS := Aside0.mk h
  obtain ⟨h1, h2, h3, h4⟩ := hn
  clear h
  go_enter Try.func12, Try.ntmps12
  go_wp2
  go_ret
  exact ⟨_, rfl, sl_box HS.out _ _⟩
theorem New_no {w : World} (r b : Int) (hn : ¬ NewOk r b) :
    Calls Try.prog 12 #[.int .i64 r, .int .i64 b] w fun e w' => e = .returned (.pointer none) ∧ w = w' := by
  unfold NewOk at hn
  by_cases d1 : r < 0
  · go_enter Try.func12, Try.ntmps12
    go_wp2
    go_ret
    exact ⟨rfl, rfl⟩
  by_cases d2 : 1048576 < r
  · go_enter Try.func12, Try.ntmps12
    go_wp2
    go_ret
    exact ⟨rfl, rfl⟩
  by_cases d3 : b < 1
  · go_enter Try.func12, Try.ntmps12
    go_wp2
    go_ret
    exact ⟨rfl, rfl⟩
  have d4 : 1048576 < b := by omega
  go_enter Try.func12, Try.ntmps12
  go_wp2
  go_ret
  exact ⟨rfl, rfl⟩
end Go.Proofs.Ytlfediaeaaodpaa.Q
