import Derived.Test.YtckpgccbhaejgaaT12
namespace Go.Proofs.Ytckpgccbhaejgaa.Q
open Go.RowKit Go.Proofs.YtckpgccbhaejgaaW.PrintWords Go.Proofs.YtckpgccbhaejgaaW.PrintLast Go.Proofs.YtckpgccbhaejgaaW.PrintMore Go.Proofs.Ytckpgccbhaejgaa.Sl Go.Proofs.Ytckpgccbhaejgaa.Hand 
attribute [local go_sem] max2_int min2_int max_two min_two max_three min_three max_four min_four 
set_option linter.unusedVariables false
set_option linter.unusedSimpArgs false

/-! ### Windows that New did not make -/
def NoUse (p : Value) (A : Res) : Prop := ∀ {w0 w : World} {L : List Res}, SL w0 w L → ∀ i : Nat, L[i]? = some A → Calls Try.prog 25 #[p] w fun e w' => e = .returned (.bool false) ∧ SL w0 w' L
abbrev zeroR (g : Nat) : Res := cellsR g 55 #[.bool false, .map none, .int .i64 0, .int .i64 0, .int .i64 0, .int .i64 0, .int .i64 0, .int .i64 0, .int .i64 0, .int .i64 0, .int .i64 0, .int .i64 0]
theorem nouse_nil : NoUse (.pointer none) noneR := by
  intro w0 w L h i hi
  have HS := Aside0.mk h
  clear h
  go_enter Try.func25, Try.ntmps25
  go_wp2_with (fail)
  go_ret
  exact ⟨rfl, by repeat (with_reducible first | exact HS.out | apply sl_drewN | apply sl_drew)⟩
theorem nouse_zero (g : Nat) : NoUse (.pointer (some ⟨g, 0, none⟩)) (zeroR g) := by
  intro w0 w L h i hi
  have m0 := c_at h i hi 0 rfl
  have HS := Aside0.mk h
  clear h hi
  go_enter Try.func25, Try.ntmps25
  go_wp2_with (fail)
  go_ret
  exact ⟨rfl, by repeat (with_reducible first | exact HS.out | apply sl_drewN | apply sl_drew)⟩
section
variable {w0 w : World} {L : List Res} {p : Value} {A : Res}
theorem no_Min (hu : NoUse p A) (h : SL w0 w L) (i : Nat) (hi : L[i]? = some A) (x y : Int) : Calls Try.prog 22 #[p, .int .i64 x, .int .i64 y] w fun e w' => e = .returned (.int .i64 1) ∧ SL w0 w' L := by
  have HS := Aside0.mk h
  have HU := Aside0.mk (show ∀ {w' : World}, SL w0 w' L → Calls Try.prog 25 #[p] w' fun e w'' => e = .returned (.bool false) ∧ SL w0 w'' L from fun h => hu h i hi)
  clear h hi hu
  go_enter Try.func22, Try.ntmps22
  go_wp2_with (first
    | (go_at_call 25; refine (HU.out (by repeat (with_reducible first | exact HS.out | apply sl_drewN | apply sl_drew | apply sl_alloc))).mono ?_; rintro e w1 ⟨rfl, hs⟩; (try simp only [World.size_alloc] at hs); replace HS := Aside0.mk hs; clear hs))
  try rw [Exit.noGoto_ret]
  go_ret
  exact ⟨rfl, HS.out⟩
theorem no_Max (hu : NoUse p A) (h : SL w0 w L) (i : Nat) (hi : L[i]? = some A) (x y : Int) : Calls Try.prog 23 #[p, .int .i64 x, .int .i64 y] w fun e w' => e = .returned (.int .i64 1) ∧ SL w0 w' L := by
  have HS := Aside0.mk h
  have HU := Aside0.mk (show ∀ {w' : World}, SL w0 w' L → Calls Try.prog 25 #[p] w' fun e w'' => e = .returned (.bool false) ∧ SL w0 w'' L from fun h => hu h i hi)
  clear h hi hu
  go_enter Try.func23, Try.ntmps23
  go_wp2_with (first
    | (go_at_call 25; refine (HU.out (by repeat (with_reducible first | exact HS.out | apply sl_drewN | apply sl_drew | apply sl_alloc))).mono ?_; rintro e w1 ⟨rfl, hs⟩; (try simp only [World.size_alloc] at hs); replace HS := Aside0.mk hs; clear hs))
  try rw [Exit.noGoto_ret]
  go_ret
  exact ⟨rfl, HS.out⟩
theorem no_Acc (hu : NoUse p A) (h : SL w0 w L) (i : Nat) (hi : L[i]? = some A) (x y : Int) : Calls Try.prog 11 #[p, .int .i64 x, .int .i64 y] w fun e w' => e = .returned (.int .i64 1) ∧ SL w0 w' L := by
  have HS := Aside0.mk h
  have HU := Aside0.mk (show ∀ {w' : World}, SL w0 w' L → Calls Try.prog 25 #[p] w' fun e w'' => e = .returned (.bool false) ∧ SL w0 w'' L from fun h => hu h i hi)
  clear h hi hu
  go_enter Try.func11, Try.ntmps11
  go_wp2_with (first
    | (go_at_call 25; refine (HU.out (by repeat (with_reducible first | exact HS.out | apply sl_drewN | apply sl_drew | apply sl_alloc))).mono ?_; rintro e w1 ⟨rfl, hs⟩; (try simp only [World.size_alloc] at hs); replace HS := Aside0.mk hs; clear hs))
  try rw [Exit.noGoto_ret]
  go_ret
  exact ⟨rfl, HS.out⟩
theorem no_Rsz (hu : NoUse p A) (h : SL w0 w L) (i : Nat) (hi : L[i]? = some A) (k x y : Int) : Calls Try.prog 10 #[p, .int .i64 k, .int .i64 x, .int .i64 y] w fun e w' => e = .returned (.tuple #[.int .i64 0, .int .i64 0, .int .i64 1]) ∧ SL w0 w' L := by
  have HS := Aside0.mk h
  have HU := Aside0.mk (show ∀ {w' : World}, SL w0 w' L → Calls Try.prog 25 #[p] w' fun e w'' => e = .returned (.bool false) ∧ SL w0 w'' L from fun h => hu h i hi)
  clear h hi hu
  go_enter Try.func10, Try.ntmps10
  go_wp2_with (first
    | (go_at_call 25; refine (HU.out (by repeat (with_reducible first | exact HS.out | apply sl_drewN | apply sl_drew | apply sl_alloc))).mono ?_; rintro e w1 ⟨rfl, hs⟩; (try simp only [World.size_alloc] at hs); replace HS := Aside0.mk hs; clear hs))
  try rw [Exit.noGoto_ret]
  go_ret3
  exact ⟨rfl, HS.out⟩
theorem no_Req (hu : NoUse p A) (h : SL w0 w L) (i : Nat) (hi : L[i]? = some A) (k : Int) (on : Bool) (x0 y0 x1 y1 : Int) : Calls Try.prog 12 #[p, .int .i64 k, .bool on, .agg #[.int .i64 x0, .int .i64 y0, .int .i64 x1, .int .i64 y1]] w fun e w' => e = .returned (.tuple #[.int .i64 0, .int .i64 0, .int .i64 0, .int .i64 1]) ∧ SL w0 w' L := by
  have HS := Aside0.mk h
  have HU := Aside0.mk (show ∀ {w' : World}, SL w0 w' L → Calls Try.prog 25 #[p] w' fun e w'' => e = .returned (.bool false) ∧ SL w0 w'' L from fun h => hu h i hi)
  clear h hi hu
  go_enter Try.func12, Try.ntmps12
  go_wp2_with (first
    | (go_at_call 25; refine (HU.out (by repeat (with_reducible first | exact HS.out | apply sl_drewN | apply sl_drew | apply sl_alloc))).mono ?_; rintro e w1 ⟨rfl, hs⟩; (try simp only [World.size_alloc] at hs); replace HS := Aside0.mk hs; clear hs))
  refine bodyPost_ret (results_list (rs := [.tmp 8, .tmp 9, .tmp 10, .tmp 11]) rfl (by simp) (.tmp (.tmp (.tmp (.tmp .nil))))) rfl ?_
  exact ⟨rfl, HS.out⟩
theorem no_Tit (hu : NoUse p A) (h : SL w0 w L) (i : Nat) (hi : L[i]? = some A) (t : ByteArray) : Calls Try.prog 36 #[p, .string t] w fun e w' => e = .returned (.int .i64 1) ∧ SL w0 w' L := by
  have HS := Aside0.mk h
  have HU := Aside0.mk (show ∀ {w' : World}, SL w0 w' L → Calls Try.prog 25 #[p] w' fun e w'' => e = .returned (.bool false) ∧ SL w0 w'' L from fun h => hu h i hi)
  clear h hi hu
  go_enter Try.func36, Try.ntmps36
  go_wp2_with (first
    | (go_at_call 25; refine (HU.out (by repeat (with_reducible first | exact HS.out | apply sl_drewN | apply sl_drew | apply sl_alloc))).mono ?_; rintro e w1 ⟨rfl, hs⟩; (try simp only [World.size_alloc] at hs); replace HS := Aside0.mk hs; clear hs))
  try rw [Exit.noGoto_ret]
  go_ret
  exact ⟨rfl, HS.out⟩
theorem no_Sta (hu : NoUse p A) (h : SL w0 w L) (i : Nat) (hi : L[i]? = some A) : Calls Try.prog 18 #[p] w fun e w' => e = .returned (.int .i64 0) ∧ SL w0 w' L := by
  have HS := Aside0.mk h
  have HU := Aside0.mk (show ∀ {w' : World}, SL w0 w' L → Calls Try.prog 25 #[p] w' fun e w'' => e = .returned (.bool false) ∧ SL w0 w'' L from fun h => hu h i hi)
  clear h hi hu
  go_enter Try.func18, Try.ntmps18
  go_wp2_with (first
    | (go_at_call 25; refine (HU.out (by repeat (with_reducible first | exact HS.out | apply sl_drewN | apply sl_drew | apply sl_alloc))).mono ?_; rintro e w1 ⟨rfl, hs⟩; (try simp only [World.size_alloc] at hs); replace HS := Aside0.mk hs; clear hs))
  try rw [Exit.noGoto_ret]
  go_ret
  exact ⟨rfl, HS.out⟩
theorem no_Geo (hu : NoUse p A) (h : SL w0 w L) (i : Nat) (hi : L[i]? = some A) : Calls Try.prog 20 #[p] w fun e w' => e = .returned (.tuple #[.int .i64 0, .int .i64 0]) ∧ SL w0 w' L := by
  have HS := Aside0.mk h
  have HU := Aside0.mk (show ∀ {w' : World}, SL w0 w' L → Calls Try.prog 25 #[p] w' fun e w'' => e = .returned (.bool false) ∧ SL w0 w'' L from fun h => hu h i hi)
  clear h hi hu
  go_enter Try.func20, Try.ntmps20
  go_wp2_with (first
    | (go_at_call 25; refine (HU.out (by repeat (with_reducible first | exact HS.out | apply sl_drewN | apply sl_drew | apply sl_alloc))).mono ?_; rintro e w1 ⟨rfl, hs⟩; (try simp only [World.size_alloc] at hs); replace HS := Aside0.mk hs; clear hs))
  try rw [Exit.noGoto_ret]
  go_ret2
  exact ⟨rfl, HS.out⟩
theorem no_Flt (hu : NoUse p A) (h : SL w0 w L) (i : Nat) (hi : L[i]? = some A) : Calls Try.prog 21 #[p] w fun e w' => e = .returned (.tuple #[.int .i64 0, .int .i64 0]) ∧ SL w0 w' L := by
  have HS := Aside0.mk h
  have HU := Aside0.mk (show ∀ {w' : World}, SL w0 w' L → Calls Try.prog 25 #[p] w' fun e w'' => e = .returned (.bool false) ∧ SL w0 w'' L from fun h => hu h i hi)
  clear h hi hu
  go_enter Try.func21, Try.ntmps21
  go_wp2_with (first
    | (go_at_call 25; refine (HU.out (by repeat (with_reducible first | exact HS.out | apply sl_drewN | apply sl_drew | apply sl_alloc))).mono ?_; rintro e w1 ⟨rfl, hs⟩; (try simp only [World.size_alloc] at hs); replace HS := Aside0.mk hs; clear hs))
  try rw [Exit.noGoto_ret]
  go_ret2
  exact ⟨rfl, HS.out⟩
end
section
variable {w0 w : World} {R A : Res} {p : Value}
theorem call_no_in (hu : NoUse p A) (x : S46) (hs : SL w0 w [A, R]) : Calls Try.prog 16 #[p, ag46 x] w fun e w' => e = .returned (.agg #[.int .i64 0, .int .i64 0, .int .i64 0, .int .i64 1]) ∧ SL w0 w' [A, R] := by
  have HS := Aside0.mk (sl_box hs (cs46 x) 46)
  have HU := Aside0.mk @hu
  clear hs hu
  by_cases h0 : x.f0 = 0
  · have d0 : (x.f0 == 0) = true := beq_iff_eq.2 h0
    clear h0
    go_enter Try.func16, Try.ntmps16
    go_wp2_with (first
    | (go_at_call 22; refine (no_Min HU.out (by repeat (with_reducible first | exact (sl_box HS.out #[.int .i64 0, .int .i64 0, .int .i64 0, .int .i64 0] 42) | apply sl_drewN | apply sl_drew)) 0 (by rfl) x.f2 x.f3).mono ?_; rintro e w1 ⟨rfl, hs⟩; (try simp only [World.size_alloc] at hs); replace HS := Aside0.mk hs; clear hs; have q0 := c_at HS.out 3 rfl 0 rfl; have q1 := c_at HS.out 3 rfl 1 rfl; have q2 := c_at HS.out 3 rfl 2 rfl; have q3 := c_at HS.out 3 rfl 3 rfl; have f0 := f_at HS.out 3 rfl 0; have f1 := f_at HS.out 3 rfl 1; have f2 := f_at HS.out 3 rfl 2; have f3 := f_at HS.out 3 rfl 3; have hl1 := blk_lt (sl_blk HS.out 3 rfl)))
    have hs := sl_put (sl_put (sl_put (sl_put HS.out 3 rfl 0 (.int .i64 0)) 3 rfl 1 (.int .i64 0)) 3 rfl 2 (.int .i64 0)) 3 rfl 3 (.int .i64 1)
    refine bodyPost_ret (results_cell_row rfl _ _ (w.heap.size + 1) 42 #[.int .i64 0, .int .i64 0, .int .i64 0, .int .i64 1] (0, 0) _ (by rfl) (by exact sl_blk hs 3 rfl) (by exact Try.underlying42) (by rfl) (by kernel_rfl)) rfl ?_
    exact ⟨rfl, sl_take hs 2⟩
  have d0 : (x.f0 == 0) = false := beq_eq_false_iff_ne.2 h0
  by_cases h1 : x.f0 = 1
  · have d1 : (x.f0 == 1) = true := beq_iff_eq.2 h1
    clear h0 h1
    go_enter Try.func16, Try.ntmps16
    go_wp2_with (first
    | (go_at_call 23; refine (no_Max HU.out (by repeat (with_reducible first | exact (sl_box HS.out #[.int .i64 0, .int .i64 0, .int .i64 0, .int .i64 0] 42) | apply sl_drewN | apply sl_drew)) 0 (by rfl) x.f2 x.f3).mono ?_; rintro e w1 ⟨rfl, hs⟩; (try simp only [World.size_alloc] at hs); replace HS := Aside0.mk hs; clear hs; have q0 := c_at HS.out 3 rfl 0 rfl; have q1 := c_at HS.out 3 rfl 1 rfl; have q2 := c_at HS.out 3 rfl 2 rfl; have q3 := c_at HS.out 3 rfl 3 rfl; have f0 := f_at HS.out 3 rfl 0; have f1 := f_at HS.out 3 rfl 1; have f2 := f_at HS.out 3 rfl 2; have f3 := f_at HS.out 3 rfl 3; have hl1 := blk_lt (sl_blk HS.out 3 rfl)))
    have hs := sl_put (sl_put (sl_put (sl_put HS.out 3 rfl 0 (.int .i64 0)) 3 rfl 1 (.int .i64 0)) 3 rfl 2 (.int .i64 0)) 3 rfl 3 (.int .i64 1)
    refine bodyPost_ret (results_cell_row rfl _ _ (w.heap.size + 1) 42 #[.int .i64 0, .int .i64 0, .int .i64 0, .int .i64 1] (0, 0) _ (by rfl) (by exact sl_blk hs 3 rfl) (by exact Try.underlying42) (by rfl) (by kernel_rfl)) rfl ?_
    exact ⟨rfl, sl_take hs 2⟩
  have d1 : (x.f0 == 1) = false := beq_eq_false_iff_ne.2 h1
  by_cases h2 : x.f0 = 2
  · have d2 : (x.f0 == 2) = true := beq_iff_eq.2 h2
    clear h0 h1 h2
    go_enter Try.func16, Try.ntmps16
    go_wp2_with (first
    | (go_at_call 12; refine (no_Req HU.out (by repeat (with_reducible first | exact (sl_box HS.out #[.int .i64 0, .int .i64 0, .int .i64 0, .int .i64 0] 42) | apply sl_drewN | apply sl_drew)) 0 (by rfl) x.f1 x.f4 x.f5.f0 x.f5.f1 x.f5.f2 x.f5.f3).mono ?_; rintro e w1 ⟨rfl, hs⟩; (try simp only [World.size_alloc] at hs); replace HS := Aside0.mk hs; clear hs; have q0 := c_at HS.out 3 rfl 0 rfl; have q1 := c_at HS.out 3 rfl 1 rfl; have q2 := c_at HS.out 3 rfl 2 rfl; have q3 := c_at HS.out 3 rfl 3 rfl; have f0 := f_at HS.out 3 rfl 0; have f1 := f_at HS.out 3 rfl 1; have f2 := f_at HS.out 3 rfl 2; have f3 := f_at HS.out 3 rfl 3; have hl1 := blk_lt (sl_blk HS.out 3 rfl)))
    have hs := sl_put (sl_put (sl_put (sl_put HS.out 3 rfl 0 (.int .i64 0)) 3 rfl 1 (.int .i64 0)) 3 rfl 2 (.int .i64 0)) 3 rfl 3 (.int .i64 1)
    refine bodyPost_ret (results_cell_row rfl _ _ (w.heap.size + 1) 42 #[.int .i64 0, .int .i64 0, .int .i64 0, .int .i64 1] (0, 0) _ (by rfl) (by exact sl_blk hs 3 rfl) (by exact Try.underlying42) (by rfl) (by kernel_rfl)) rfl ?_
    exact ⟨rfl, sl_take hs 2⟩
  have d2 : (x.f0 == 2) = false := beq_eq_false_iff_ne.2 h2
  by_cases h3 : x.f0 = 3
  · have d3 : (x.f0 == 3) = true := beq_iff_eq.2 h3
    clear h0 h1 h2 h3
    go_enter Try.func16, Try.ntmps16
    go_wp2_with (first
    | (go_at_call 10; refine (no_Rsz HU.out (by repeat (with_reducible first | exact (sl_box HS.out #[.int .i64 0, .int .i64 0, .int .i64 0, .int .i64 0] 42) | apply sl_drewN | apply sl_drew)) 0 (by rfl) x.f1 x.f2 x.f3).mono ?_; rintro e w1 ⟨rfl, hs⟩; (try simp only [World.size_alloc] at hs); replace HS := Aside0.mk hs; clear hs; have q0 := c_at HS.out 3 rfl 0 rfl; have q1 := c_at HS.out 3 rfl 1 rfl; have q2 := c_at HS.out 3 rfl 2 rfl; have q3 := c_at HS.out 3 rfl 3 rfl; have f0 := f_at HS.out 3 rfl 0; have f1 := f_at HS.out 3 rfl 1; have f2 := f_at HS.out 3 rfl 2; have f3 := f_at HS.out 3 rfl 3; have hl1 := blk_lt (sl_blk HS.out 3 rfl)))
    have hs := sl_put (sl_put (sl_put (sl_put HS.out 3 rfl 0 (.int .i64 0)) 3 rfl 1 (.int .i64 0)) 3 rfl 2 (.int .i64 0)) 3 rfl 3 (.int .i64 1)
    refine bodyPost_ret (results_cell_row rfl _ _ (w.heap.size + 1) 42 #[.int .i64 0, .int .i64 0, .int .i64 0, .int .i64 1] (0, 0) _ (by rfl) (by exact sl_blk hs 3 rfl) (by exact Try.underlying42) (by rfl) (by kernel_rfl)) rfl ?_
    exact ⟨rfl, sl_take hs 2⟩
  have d3 : (x.f0 == 3) = false := beq_eq_false_iff_ne.2 h3
  by_cases h4 : x.f0 = 4
  · have d4 : (x.f0 == 4) = true := beq_iff_eq.2 h4
    clear h0 h1 h2 h3 h4
    go_enter Try.func16, Try.ntmps16
    go_wp2_with (first
    | (go_at_call 36; refine (no_Tit HU.out (by repeat (with_reducible first | exact (sl_box HS.out #[.int .i64 0, .int .i64 0, .int .i64 0, .int .i64 0] 42) | apply sl_drewN | apply sl_drew)) 0 (by rfl) x.f6).mono ?_; rintro e w1 ⟨rfl, hs⟩; (try simp only [World.size_alloc] at hs); replace HS := Aside0.mk hs; clear hs; have q0 := c_at HS.out 3 rfl 0 rfl; have q1 := c_at HS.out 3 rfl 1 rfl; have q2 := c_at HS.out 3 rfl 2 rfl; have q3 := c_at HS.out 3 rfl 3 rfl; have f0 := f_at HS.out 3 rfl 0; have f1 := f_at HS.out 3 rfl 1; have f2 := f_at HS.out 3 rfl 2; have f3 := f_at HS.out 3 rfl 3; have hl1 := blk_lt (sl_blk HS.out 3 rfl)))
    have hs := sl_put (sl_put (sl_put (sl_put HS.out 3 rfl 0 (.int .i64 0)) 3 rfl 1 (.int .i64 0)) 3 rfl 2 (.int .i64 0)) 3 rfl 3 (.int .i64 1)
    refine bodyPost_ret (results_cell_row rfl _ _ (w.heap.size + 1) 42 #[.int .i64 0, .int .i64 0, .int .i64 0, .int .i64 1] (0, 0) _ (by rfl) (by exact sl_blk hs 3 rfl) (by exact Try.underlying42) (by rfl) (by kernel_rfl)) rfl ?_
    exact ⟨rfl, sl_take hs 2⟩
  have d4 : (x.f0 == 4) = false := beq_eq_false_iff_ne.2 h4
  · have dd := 0
    clear h0 h1 h2 h3 h4
    go_enter Try.func16, Try.ntmps16
    go_wp2_with (first
    | (go_at_call 11; refine (no_Acc HU.out (by repeat (with_reducible first | exact (sl_box HS.out #[.int .i64 0, .int .i64 0, .int .i64 0, .int .i64 0] 42) | apply sl_drewN | apply sl_drew)) 0 (by rfl) x.f2 x.f3).mono ?_; rintro e w1 ⟨rfl, hs⟩; (try simp only [World.size_alloc] at hs); replace HS := Aside0.mk hs; clear hs; have q0 := c_at HS.out 3 rfl 0 rfl; have q1 := c_at HS.out 3 rfl 1 rfl; have q2 := c_at HS.out 3 rfl 2 rfl; have q3 := c_at HS.out 3 rfl 3 rfl; have f0 := f_at HS.out 3 rfl 0; have f1 := f_at HS.out 3 rfl 1; have f2 := f_at HS.out 3 rfl 2; have f3 := f_at HS.out 3 rfl 3; have hl1 := blk_lt (sl_blk HS.out 3 rfl)))
    have hs := sl_put (sl_put (sl_put (sl_put HS.out 3 rfl 0 (.int .i64 0)) 3 rfl 1 (.int .i64 0)) 3 rfl 2 (.int .i64 0)) 3 rfl 3 (.int .i64 1)
    refine bodyPost_ret (results_cell_row rfl _ _ (w.heap.size + 1) 42 #[.int .i64 0, .int .i64 0, .int .i64 0, .int .i64 1] (0, 0) _ (by rfl) (by exact sl_blk hs 3 rfl) (by exact Try.underlying42) (by rfl) (by kernel_rfl)) rfl ?_
    exact ⟨rfl, sl_take hs 2⟩
theorem call_no {w0 w : World} {L : List Res} (hu : NoUse p A) (h : SL w0 w L) (i : Nat) (hi : L[i]? = some A) (x : S46) : Calls Try.prog 16 #[p, ag46 x] w fun e w' => e = .returned (.agg #[.int .i64 0, .int .i64 0, .int .i64 0, .int .i64 1]) ∧ SL w0 w' L := lift0 h i hi fun h => call_no_in hu x h
end
end Go.Proofs.Ytckpgccbhaejgaa.Q
