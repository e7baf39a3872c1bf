import Derived.WalkSpells
import Derived.Test.YtmihibikhmldgaaW16
namespace Go.Proofs.Ytmihibikhmldgaa.Q
open Go.RowKit Go.Proofs.YtmihibikhmldgaaW.PrintWords Go.Proofs.YtmihibikhmldgaaW.PrintLast Go.Proofs.YtmihibikhmldgaaW.PrintMore Go.Proofs.Ytmihibikhmldgaa.Sl Go.Proofs.Ytmihibikhmldgaa.Hand 
attribute [local go_sem] max2_int min2_int max_two min_two max_three min_three max_four min_four 
set_option linter.unusedVariables false
set_option linter.unusedSimpArgs false

set_option maxHeartbeats 8000000 in
set_option maxRecDepth 100000 in
theorem Nil_law (m : Int) (w : World) : Calls Try.prog 9 #[.int .i64 m] w fun e w' => e = .returned (.bool true) ∧ Below w.heap.size w w' := by
  have HS := Aside0.mk (sl_start w)
  go_enter Try.func9, Try.ntmps9
  go_wp2_with (fail)
  go_loopg [6] 2 (fun kq v6 wr => ∃ i : Nat, v6 = .int .i64 (i : Int) ∧ Aside0 (i + kq = 2) ∧ Aside0 (SL w wr [cellsR w.heap.size 68 #[.slice none 0 0, .int .i64 0, .bool false], cellsR (w.heap.size + 1) 36 #[.pointer none, .pointer (some ⟨w.heap.size, 0, none⟩)]]))
  case atStart =>
    have hs := sl_box (sl_box HS.out #[.slice none 0 0, .int .i64 0, .bool false] 68) #[.pointer none, .pointer (some ⟨w.heap.size, 0, none⟩)] 36
    simp only [World.size_alloc] at hs
    exact ⟨0, rfl, ⟨by omega⟩, ⟨hs⟩⟩
  case round =>
    obtain ⟨i, rfl, HI, HW⟩ := hrel
    have hi := HI.out
    clear HS
    have HS := Aside0.mk HW.out
    have l0 := (blk_cell (sl_blk HS.out 1 rfl) 0).trans (show _ = some (Value.pointer none) from rfl)
    have l1 := (blk_cell (sl_blk HS.out 1 rfl) 1).trans (show _ = some (Value.pointer (some ⟨w.heap.size, 0, none⟩)) from rfl)
    have hcase : i = 0 ∨ i = 1 ∨ i = 2 := by omega
    rcases hcase with rfl | rfl | rfl
    · obtain ⟨kq, rfl⟩ : ∃ m, gk = m + 1 := ⟨gk - 1, by omega⟩
      have HN := Aside0.mk (show ∀ {w' : World}, SL w w' [cellsR w.heap.size 68 #[.slice none 0 0, .int .i64 0, .bool false], cellsR (w.heap.size + 1) 36 #[.pointer none, .pointer (some ⟨w.heap.size, 0, none⟩)]] → NoRd (.pointer none) w' from fun _ => .inl rfl)
      go_wp2_with (first
      | (go_at_call 20; refine (nr_Uint _ _ (HN.out (by repeat (with_reducible first | exact HS.out | apply sl_drewN | apply sl_drew)))).mono ?_; rintro e w1 ⟨rfl, ⟨nd, rfl⟩⟩)
      | (go_at_call 22; refine (nr_Int _ _ (HN.out (by repeat (with_reducible first | exact HS.out | apply sl_drewN | apply sl_drew)))).mono ?_; rintro e w1 ⟨rfl, ⟨nd, rfl⟩⟩)
      | (go_at_call 24; refine (nr_String _ _ _ (HN.out (by repeat (with_reducible first | exact HS.out | apply sl_drewN | apply sl_drew)))).mono ?_; rintro e w1 ⟨rfl, ⟨nd, rfl⟩⟩)
      | (go_at_call 26; refine (nr_Array _ _ _ (HN.out (by repeat (with_reducible first | exact HS.out | apply sl_drewN | apply sl_drew)))).mono ?_; rintro e w1 ⟨rfl, ⟨nd, rfl⟩⟩)
      | (go_at_call 27; refine (nr_Left _ _ (HN.out (by repeat (with_reducible first | exact HS.out | apply sl_drewN | apply sl_drew)))).mono ?_; rintro e w1 ⟨rfl, ⟨nd, rfl⟩⟩)
      | (go_at_call 29; refine (nr_Err _ _ (HN.out (by repeat (with_reducible first | exact HS.out | apply sl_drewN | apply sl_drew)))).mono ?_; rintro e w1 ⟨rfl, rfl⟩)
      | (go_at_call 31; refine (nr_End _ _ (HN.out (by repeat (with_reducible first | exact HS.out | apply sl_drewN | apply sl_drew)))).mono ?_; rintro e w1 ⟨rfl, rfl⟩))
      go_roundg kq
      case measure => omega
      case rel => exact ⟨1, rfl, ⟨by omega⟩, ⟨(by repeat (with_reducible first | exact HS.out | apply sl_drewN | apply sl_drew))⟩⟩
    · obtain ⟨kq, rfl⟩ : ∃ m, gk = m + 1 := ⟨gk - 1, by omega⟩
      have HN := Aside0.mk (show ∀ {w' : World}, SL w w' [cellsR w.heap.size 68 #[.slice none 0 0, .int .i64 0, .bool false], cellsR (w.heap.size + 1) 36 #[.pointer none, .pointer (some ⟨w.heap.size, 0, none⟩)]] → NoRd (.pointer (some ⟨w.heap.size, 0, none⟩)) w' from fun hs => .inr ⟨_, rfl, sl_blk hs 0 rfl⟩)
      go_wp2_with (first
      | (go_at_call 20; refine (nr_Uint _ _ (HN.out (by repeat (with_reducible first | exact HS.out | apply sl_drewN | apply sl_drew)))).mono ?_; rintro e w1 ⟨rfl, ⟨nd, rfl⟩⟩)
      | (go_at_call 22; refine (nr_Int _ _ (HN.out (by repeat (with_reducible first | exact HS.out | apply sl_drewN | apply sl_drew)))).mono ?_; rintro e w1 ⟨rfl, ⟨nd, rfl⟩⟩)
      | (go_at_call 24; refine (nr_String _ _ _ (HN.out (by repeat (with_reducible first | exact HS.out | apply sl_drewN | apply sl_drew)))).mono ?_; rintro e w1 ⟨rfl, ⟨nd, rfl⟩⟩)
      | (go_at_call 26; refine (nr_Array _ _ _ (HN.out (by repeat (with_reducible first | exact HS.out | apply sl_drewN | apply sl_drew)))).mono ?_; rintro e w1 ⟨rfl, ⟨nd, rfl⟩⟩)
      | (go_at_call 27; refine (nr_Left _ _ (HN.out (by repeat (with_reducible first | exact HS.out | apply sl_drewN | apply sl_drew)))).mono ?_; rintro e w1 ⟨rfl, ⟨nd, rfl⟩⟩)
      | (go_at_call 29; refine (nr_Err _ _ (HN.out (by repeat (with_reducible first | exact HS.out | apply sl_drewN | apply sl_drew)))).mono ?_; rintro e w1 ⟨rfl, rfl⟩)
      | (go_at_call 31; refine (nr_End _ _ (HN.out (by repeat (with_reducible first | exact HS.out | apply sl_drewN | apply sl_drew)))).mono ?_; rintro e w1 ⟨rfl, rfl⟩))
      go_roundg kq
      case measure => omega
      case rel => exact ⟨2, rfl, ⟨by omega⟩, ⟨(by repeat (with_reducible first | exact HS.out | apply sl_drewN | apply sl_drew))⟩⟩
    · go_wp2_with (first | (go_at_call 11; refine (ex_c (by repeat (with_reducible first | exact HS.out | apply sl_drewN | apply sl_drew))).mono ?_; rintro e w1 ⟨rfl, hs⟩; replace HS := Aside0.mk hs; clear hs))
      try rw [Exit.noGoto_ret]
      go_ret
      exact ⟨rfl, sl_below0 (show SL w _ _ from (by repeat (with_reducible first | exact HS.out | apply sl_drewN | apply sl_drew)))⟩
end Go.Proofs.Ytmihibikhmldgaa.Q
