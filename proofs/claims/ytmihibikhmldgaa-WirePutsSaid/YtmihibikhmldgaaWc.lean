import Derived.WalkSpells
import Derived.Test.YtmihibikhmldgaaWb
import Derived.Test.YtmihibikhmldgaaQx1
namespace Go.Proofs.Ytmihibikhmldgaa.Q
open Go.RowKit Go.Proofs.YtmihibikhmldgaaW.PrintWords Go.Proofs.YtmihibikhmldgaaW.PrintLast Go.Proofs.YtmihibikhmldgaaW.PrintMore Go.Proofs.Ytmihibikhmldgaa.Sl Go.Proofs.Ytmihibikhmldgaa.Hand 
attribute [local go_sem] max2_int min2_int max_two min_two max_three min_three max_four min_four 
set_option linter.unusedVariables false
set_option linter.unusedSimpArgs false

theorem rd_get {l : List Int} {i : Nat} (h : i < l.length) : rd l (i : Int) = l[i] := by
  unfold rd
  rw [Int.toNat_natCast, List.getD_eq_getElem?_getD, List.getElem?_eq_getElem h]
  rfl
theorem same_l (x y : List Int) (hl : x.length = y.length) (hb : x.length ≤ 1000000000) (d : Nat) : ∀ i : Nat, i + d = x.length → (∀ j : Nat, j < i → rd x (j : Int) = rd y (j : Int)) → compositorlaw01_same.l0 (d + 1) x y (i : Int) = some (decide (x = y)) := by
  induction d with
  | zero =>
    intro i hi hj
    unfold compositorlaw01_same.l0
    rw [if_neg (by omega)]
    have : x = y := List.ext_getElem hl fun j h1 h2 => by
      have := hj j (by omega)
      rw [rd_get h1, rd_get h2] at this
      exact this
    rw [decide_eq_true this]
  | succ d ih =>
    intro i hi hj
    unfold compositorlaw01_same.l0
    rw [if_pos (by omega), if_pos (by omega), if_pos (by omega)]
    by_cases he : rd x (i : Int) = rd y (i : Int)
    · rw [if_pos he]
      have hw : wrap64 ((i : Int) + 1) = ((i + 1 : Nat) : Int) := by unfold wrap64; omega
      rw [hw]
      refine ih (i + 1) (by omega) fun j hj2 => ?_
      by_cases h3 : j < i
      · exact hj j h3
      · obtain rfl : j = i := by omega
        exact he
    · rw [if_neg he, decide_eq_false (fun h => he (by rw [h]))]
theorem same_f (x y : List Int) (hb : x.length ≤ 1000000000) : ∃ k, compositorlaw01_same.f k x y = some (decide (x = y)) := by
  by_cases hl : x.length = y.length
  · refine ⟨x.length + 1, ?_⟩
    unfold compositorlaw01_same.f
    rw [if_pos (by omega)]
    exact same_l x y hl hb x.length 0 (by omega) fun j hj => by omega
  · refine ⟨0, ?_⟩
    unfold compositorlaw01_same.f
    rw [if_neg (by omega), decide_eq_false (fun h => hl (by rw [h]))]
theorem same_c {w0 w : World} {L : List Res} (h : SL w0 w L) (A B : Option Addr) (c e n m : Nat) (x y : List Int) (hn : n = x.length) (hm : m = y.length) (hx : Kd.C (Kd.int .u8) w A x.length x) (hc : x.length ≤ c) (hy : Kd.C (Kd.int .u8) w B y.length y) (he : y.length ≤ e) (hb : x.length ≤ 1000000000) :
    Calls Try.prog 13 #[.slice A n c, .slice B m e] w fun e w' => e = .returned (.bool (decide (x = y))) ∧ SL w0 w' L := by
  subst hn
  subst hm
  obtain ⟨k, hk⟩ := same_f x y hb
  refine (compositorlaw01_same.calls k A c x B e y _ w hx hc hy he hk).mono ?_
  rintro e w' ⟨rfl, n, rfl⟩
  exact ⟨rfl, sl_drewN h n⟩
theorem lit8 (w : World) (xs : List Int) (cs : Array Value) (hc : (xs.flatMap enc8).toArray = cs) (hl : xs.length ≤ 1000) : Kd.C (Kd.int .u8) (w.alloc (.cells cs 5)) (some ⟨w.heap.size, 0, none⟩) xs.length xs := by
  subst hc
  exact lit_C (heap_alloc_new w _) (by unfold maxLen; omega)
theorem exU1 : uintV ⟨[1, 0, 0, 0, 5], 0⟩ = 1 ∧ uintS ⟨[1, 0, 0, 0, 5], 0⟩ = ⟨[5], 0⟩ := by constructor <;> kernel_rfl
theorem exU2 : uintV ⟨[5], 0⟩ = 0 ∧ uintS ⟨[5], 0⟩ = ⟨[], 4⟩ := by constructor <;> kernel_rfl
theorem exS : strV ⟨[2, 0, 0, 0, 97, 0, 0, 0], 0⟩ 9 = [] ∧ strS ⟨[2, 0, 0, 0, 97, 0, 0, 0], 0⟩ 9 = ⟨[], 3⟩ := by constructor <;> kernel_rfl
theorem exR : RdOk ⟨[2, 0, 0, 0, 97, 0, 0, 0], 0⟩ := ⟨by decide, by have : uintV ⟨[2, 0, 0, 0, 97, 0, 0, 0], 0⟩ = 2 := (by kernel_rfl); omega, by have : uintV ⟨[2, 0, 0, 0, 97, 0, 0, 0], 0⟩ = 2 := (by kernel_rfl); omega⟩
theorem litB1 (w : World) : Kd.C (Kd.int .u8) (w.alloc (.cells #[.int .u8 1, .int .u8 0, .int .u8 0, .int .u8 0, .int .u8 5] 5)) (some ⟨w.heap.size, 0, none⟩) 5 [1, 0, 0, 0, 5] := lit8 w [1, 0, 0, 0, 5] _ (by simp [enc8]) (by decide)
theorem litB2 (w : World) : Kd.C (Kd.int .u8) (w.alloc (.cells #[.int .u8 2, .int .u8 0, .int .u8 0, .int .u8 0, .int .u8 97, .int .u8 0, .int .u8 0, .int .u8 0] 5)) (some ⟨w.heap.size, 0, none⟩) 8 [2, 0, 0, 0, 97, 0, 0, 0] := lit8 w [2, 0, 0, 0, 97, 0, 0, 0] _ (by simp [enc8]) (by decide)
theorem litO1 (w : World) : Kd.C (Kd.int .u8) (w.alloc (.cells #[.int .u8 2, .int .u8 0, .int .u8 0, .int .u8 0, .int .u8 97, .int .u8 98, .int .u8 0, .int .u8 0] 5)) (some ⟨w.heap.size, 0, none⟩) 8 [2, 0, 0, 0, 97, 98, 0, 0] := lit8 w [2, 0, 0, 0, 97, 98, 0, 0] _ (by simp [enc8]) (by decide)
theorem litO2 (w : World) : Kd.C (Kd.int .u8) (w.alloc (.cells #[.int .u8 254, .int .u8 255, .int .u8 255, .int .u8 255] 5)) (some ⟨w.heap.size, 0, none⟩) 4 [254, 255, 255, 255] := lit8 w [254, 255, 255, 255] _ (by simp [enc8]) (by decide)
section
variable {w w' : World} {g1 g2 : Nat}
theorem ex1 (hs : SL w w' [rdR g1 [1, 0, 0, 0, 5] 0]) : Calls Try.prog 20 #[.pointer (some ⟨g1, 0, none⟩)] w' fun e w'' => e = .returned (.int .u32 1) ∧ SL w w'' [rdR g1 [5] 0] := by
  have := Uint_sl (s := ⟨[1, 0, 0, 0, 5], 0⟩) hs 0 rfl
  rw [exU1.1, exU1.2] at this
  exact this
theorem ex2 (hs : SL w w' [rdR g1 [5] 0]) : Calls Try.prog 20 #[.pointer (some ⟨g1, 0, none⟩)] w' fun e w'' => e = .returned (.int .u32 0) ∧ SL w w'' [rdR g1 [] 4] := by
  have := Uint_sl (s := ⟨[5], 0⟩) hs 0 rfl
  rw [exU2.1, exU2.2] at this
  exact this
theorem ex3 (hs : SL w w' [rdR g1 [] 4, rdR g2 [2, 0, 0, 0, 97, 0, 0, 0] 0]) : Calls Try.prog 24 #[.pointer (some ⟨g2, 0, none⟩), .int .i64 9] w' fun e w'' => e = .returned (.string ⟨#[]⟩) ∧ SL w w'' [rdR g1 [] 4, rdR g2 [] 3] := by
  have := String_sl (s := ⟨[2, 0, 0, 0, 97, 0, 0, 0], 0⟩) hs 1 rfl 9 exR
  rw [exS.1, exS.2] at this
  exact this
theorem ex4 (hs : SL w w' [rdR g1 [5] 0]) : Calls Try.prog 27 #[.pointer (some ⟨g1, 0, none⟩)] w' fun e w'' => e = .returned (.int .i64 1) ∧ SL w w'' [rdR g1 [5] 0] := Left_sl (u := [5]) (er := 0) hs 0 rfl
theorem ex5 {M : List Res} (hs : SL w w' (rdR g1 [] 4 :: M)) : Calls Try.prog 27 #[.pointer (some ⟨g1, 0, none⟩)] w' fun e w'' => e = .returned (.int .i64 0) ∧ SL w w'' (rdR g1 [] 4 :: M) := Left_sl (u := []) (er := 4) hs 0 rfl
theorem ex6 (hs : SL w w' [rdR g1 [5] 0]) : Calls Try.prog 31 #[.pointer (some ⟨g1, 0, none⟩)] w' fun e w'' => e = .returned (.int .i64 3) ∧ w' = w'' := End_sl (s := ⟨[5], 0⟩) hs 0 rfl
theorem ex7 {M : List Res} (hs : SL w w' (rdR g1 [] 4 :: M)) : Calls Try.prog 29 #[.pointer (some ⟨g1, 0, none⟩)] w' fun e w'' => e = .returned (.int .i64 4) ∧ w' = w'' := Err_sl (u := []) (er := 4) hs 0 rfl
theorem ex8 {A : Res} {M : List Res} (hs : SL w w' (A :: rdR g2 [] 3 :: M)) : Calls Try.prog 29 #[.pointer (some ⟨g2, 0, none⟩)] w' fun e w'' => e = .returned (.int .i64 3) ∧ w' = w'' := Err_sl (u := []) (er := 3) hs 1 rfl
theorem ex9 (hs : SL w w' []) (hr : Kd.C (Kd.int .u8) w' (some ⟨g1, 0, none⟩) 5 [1, 0, 0, 0, 5]) : Calls Try.prog 17 #[.slice (some ⟨g1, 0, none⟩) 5 5] w' fun e w'' => ∃ g : Nat, e = .returned (.pointer (some ⟨g, 0, none⟩)) ∧ SL w w'' [rdR g [1, 0, 0, 0, 5] 0] := From_sl hs (some ⟨g1, 0, none⟩) 5 [1, 0, 0, 0, 5] hr (by decide)
theorem ex10 {A : Res} (hs : SL w w' [A]) (hr : Kd.C (Kd.int .u8) w' (some ⟨g1, 0, none⟩) 8 [2, 0, 0, 0, 97, 0, 0, 0]) : Calls Try.prog 17 #[.slice (some ⟨g1, 0, none⟩) 8 8] w' fun e w'' => ∃ g : Nat, e = .returned (.pointer (some ⟨g, 0, none⟩)) ∧ SL w w'' [A, rdR g [2, 0, 0, 0, 97, 0, 0, 0] 0] := From_sl hs (some ⟨g1, 0, none⟩) 8 [2, 0, 0, 0, 97, 0, 0, 0] hr (by decide)
theorem exq : quad 2 ++ bytesL ⟨#[97, 98]⟩ ++ padL 2 = [2, 0, 0, 0, 97, 98, 0, 0] ∧ quad ((-2) % 4294967296) = [254, 255, 255, 255] ∧ (padN 2).toNat = 2 := by refine ⟨?_, ?_, ?_⟩ <;> kernel_rfl
theorem ex11 {A B : Res} (hs : SL w w' [A, B]) : Calls Try.prog 35 #[.slice none 0 0, .string ⟨#[97, 98]⟩] w' fun e w'' => ∃ A' c', e = .returned (.slice A' 8 c') ∧ SL w w'' [A, B, rowO (.slice A' 8 c') [2, 0, 0, 0, 97, 98, 0, 0]] := by
  have := PutString_sl hs none 0 [] ⟨#[97, 98]⟩ (Kd.C_nil _ _) (by decide) (by decide) (by decide)
  have e1 : ([] : List Int) ++ quad ((⟨#[97, 98]⟩ : ByteArray).size) ++ bytesL ⟨#[97, 98]⟩ ++ padL (⟨#[97, 98]⟩ : ByteArray).size = [2, 0, 0, 0, 97, 98, 0, 0] := exq.1
  have e2 : ([] : List Int).length + 4 + (⟨#[97, 98]⟩ : ByteArray).size + (padN ((⟨#[97, 98]⟩ : ByteArray).size : Int)).toNat = 8 := by kernel_rfl
  rw [e1, e2] at this
  exact this
theorem ex12 {A B C : Res} (hs : SL w w' [A, B, C]) : Calls Try.prog 36 #[.slice none 0 0, .int .i32 (-2)] w' fun e w'' => ∃ A' c', e = .returned (.slice A' 4 c') ∧ SL w w'' [A, B, C, rowO (.slice A' 4 c') [254, 255, 255, 255]] := by
  have := PutIntO hs none 0 [] (-2) (Kd.C_nil _ _) (by decide) (by decide) (by decide) (by decide)
  have e1 : ([] : List Int) ++ quad ((-2) % 4294967296) = [254, 255, 255, 255] := exq.2.1
  have e2 : ([] : List Int).length + 4 = 4 := rfl
  rw [e1, e2] at this
  exact this
theorem ex13 {A B : Res} {A3 : Option Addr} {c3 : Nat} (hs : SL w w' [A, B, rowO (.slice A3 8 c3) [2, 0, 0, 0, 97, 98, 0, 0]]) (hr : Kd.C (Kd.int .u8) w' (some ⟨g1, 0, none⟩) 8 [2, 0, 0, 0, 97, 98, 0, 0]) : Calls Try.prog 13 #[.slice A3 8 c3, .slice (some ⟨g1, 0, none⟩) 8 8] w' fun e w'' => e = .returned (.bool true) ∧ SL w w'' [A, B, rowO (.slice A3 8 c3) [2, 0, 0, 0, 97, 98, 0, 0]] := by
  obtain ⟨h1, h2, h3⟩ := sl_readO hs 2 rfl
  exact same_c hs A3 (some ⟨g1, 0, none⟩) c3 8 8 8 [2, 0, 0, 0, 97, 98, 0, 0] [2, 0, 0, 0, 97, 98, 0, 0] rfl rfl h3 h2 hr (by decide) (by decide)
theorem ex14 {A B C : Res} {A3 : Option Addr} {c3 : Nat} (hs : SL w w' [A, B, C, rowO (.slice A3 4 c3) [254, 255, 255, 255]]) (hr : Kd.C (Kd.int .u8) w' (some ⟨g1, 0, none⟩) 4 [254, 255, 255, 255]) : Calls Try.prog 13 #[.slice A3 4 c3, .slice (some ⟨g1, 0, none⟩) 4 4] w' fun e w'' => e = .returned (.bool true) ∧ SL w w'' [A, B, C, rowO (.slice A3 4 c3) [254, 255, 255, 255]] := by
  obtain ⟨h1, h2, h3⟩ := sl_readO hs 3 rfl
  exact same_c hs A3 (some ⟨g1, 0, none⟩) c3 4 4 4 [254, 255, 255, 255] [254, 255, 255, 255] rfl rfl h3 h2 hr (by decide) (by decide)
end
set_option maxHeartbeats 8000000 in
set_option maxRecDepth 100000 in
theorem ex_c {w0 w : World} {L : List Res} (h : SL w0 w L) : Calls Try.prog 11 #[] w fun e w' => e = .returned (.bool true) ∧ SL w0 w' L := by
  have H := Aside0.mk h
  have HS := Aside0.mk (sl_start w)
  clear h
  go_enter Try.func11, Try.ntmps11
  go_wp2_with (first
    | (go_at_call 17; (first | (with_reducible show Calls _ _ #[Value.slice _ 5 5] _ _; with_reducible refine (ex9 (by repeat (with_reducible first | exact HS.out | apply sl_drewN | apply sl_drew | apply sl_alloc)) (litB1 _)).mono ?_) | (with_reducible show Calls _ _ #[Value.slice _ 8 8] _ _; with_reducible refine (ex10 (by repeat (with_reducible first | exact HS.out | apply sl_drewN | apply sl_drew | apply sl_alloc)) (litB2 _)).mono ?_)); rintro e w1 ⟨gn, rfl, hs⟩; replace HS := Aside0.mk hs; clear hs)
    | (go_at_call 20; (first | with_reducible refine (ex1 (by repeat (with_reducible first | exact HS.out | apply sl_drewN | apply sl_drew | apply sl_alloc))).mono ?_ | with_reducible refine (ex2 (by repeat (with_reducible first | exact HS.out | apply sl_drewN | apply sl_drew | apply sl_alloc))).mono ?_); rintro e w1 ⟨rfl, hs⟩; replace HS := Aside0.mk hs; clear hs)
    | (go_at_call 24; (first | with_reducible refine (ex3 (by repeat (with_reducible first | exact HS.out | apply sl_drewN | apply sl_drew | apply sl_alloc))).mono ?_); rintro e w1 ⟨rfl, hs⟩; replace HS := Aside0.mk hs; clear hs)
    | (go_at_call 27; (first | with_reducible refine (ex4 (by repeat (with_reducible first | exact HS.out | apply sl_drewN | apply sl_drew | apply sl_alloc))).mono ?_ | with_reducible refine (ex5 (by repeat (with_reducible first | exact HS.out | apply sl_drewN | apply sl_drew | apply sl_alloc))).mono ?_); rintro e w1 ⟨rfl, hs⟩; replace HS := Aside0.mk hs; clear hs)
    | (go_at_call 31; (first | with_reducible refine (ex6 (by repeat (with_reducible first | exact HS.out | apply sl_drewN | apply sl_drew | apply sl_alloc))).mono ?_); rintro e w1 ⟨rfl, rfl⟩)
    | (go_at_call 29; (first | with_reducible refine (ex7 (by repeat (with_reducible first | exact HS.out | apply sl_drewN | apply sl_drew | apply sl_alloc))).mono ?_ | with_reducible refine (ex8 (by repeat (with_reducible first | exact HS.out | apply sl_drewN | apply sl_drew | apply sl_alloc))).mono ?_); rintro e w1 ⟨rfl, rfl⟩)
    | (go_at_call 35; (first | with_reducible refine (ex11 (by repeat (with_reducible first | exact HS.out | apply sl_drewN | apply sl_drew | apply sl_alloc))).mono ?_); rintro e w1 ⟨A3, c3, rfl, hs⟩; replace HS := Aside0.mk hs; clear hs)
    | (go_at_call 36; (first | with_reducible refine (ex12 (by repeat (with_reducible first | exact HS.out | apply sl_drewN | apply sl_drew | apply sl_alloc))).mono ?_); rintro e w1 ⟨A4, c4, rfl, hs⟩; replace HS := Aside0.mk hs; clear hs)
    | (go_at_call 13; (first | (with_reducible show Calls _ _ #[Value.slice _ 8 _, _] _ _; with_reducible refine (ex13 (by repeat (with_reducible first | exact HS.out | apply sl_drewN | apply sl_drew | apply sl_alloc)) (litO1 _)).mono ?_) | (with_reducible show Calls _ _ #[Value.slice _ 4 _, _] _ _; with_reducible refine (ex14 (by repeat (with_reducible first | exact HS.out | apply sl_drewN | apply sl_drew | apply sl_alloc)) (litO2 _)).mono ?_)); rintro e w1 ⟨rfl, hs⟩; replace HS := Aside0.mk hs; clear hs))
  go_ret
  exact ⟨rfl, sl_below H.out (sl_below0 (show SL w _ _ from (by repeat (with_reducible first | exact HS.out | apply sl_drewN | apply sl_drew | apply sl_alloc))))⟩
set_option maxHeartbeats 8000000 in
set_option maxRecDepth 100000 in
theorem Nil_law (m : Int) (w : World) : Calls Try.prog 9 #[.int .i64 m] w fun e w' => e = .returned (.bool true) ∧ Below w.heap.size w w' := by
  have HS := Aside0.mk (sl_start w)
  go_enter Try.func9, Try.ntmps9
  go_wp2_with (fail)
  go_loopg [6] 2 (fun kq v6 wr => ∃ i : Nat, v6 = .int .i64 (i : Int) ∧ Aside0 (i + kq = 2) ∧ Aside0 (SL w wr [cellsR w.heap.size 68 #[.slice none 0 0, .int .i64 0, .bool false], cellsR (w.heap.size + 1) 36 #[.pointer none, .pointer (some ⟨w.heap.size, 0, none⟩)]]))
  case atStart =>
    have hs := sl_box (sl_box HS.out #[.slice none 0 0, .int .i64 0, .bool false] 68) #[.pointer none, .pointer (some ⟨w.heap.size, 0, none⟩)] 36
    simp only [World.size_alloc] at hs
    exact ⟨0, rfl, ⟨by omega⟩, ⟨hs⟩⟩
  case round =>
    obtain ⟨i, rfl, HI, HW⟩ := hrel
    have hi := HI.out
    clear HS
    have HS := Aside0.mk HW.out
    have l0 := (blk_cell (sl_blk HS.out 1 rfl) 0).trans (show _ = some (Value.pointer none) from rfl)
    have l1 := (blk_cell (sl_blk HS.out 1 rfl) 1).trans (show _ = some (Value.pointer (some ⟨w.heap.size, 0, none⟩)) from rfl)
    have hcase : i = 0 ∨ i = 1 ∨ i = 2 := by omega
    rcases hcase with rfl | rfl | rfl
    · obtain ⟨kq, rfl⟩ : ∃ m, gk = m + 1 := ⟨gk - 1, by omega⟩
      have HN := Aside0.mk (show ∀ {w' : World}, SL w w' [cellsR w.heap.size 68 #[.slice none 0 0, .int .i64 0, .bool false], cellsR (w.heap.size + 1) 36 #[.pointer none, .pointer (some ⟨w.heap.size, 0, none⟩)]] → NoRd (.pointer none) w' from fun _ => .inl rfl)
      go_wp2_with (first
      | (go_at_call 20; refine (nr_Uint _ _ (HN.out (by repeat (with_reducible first | exact HS.out | apply sl_drewN | apply sl_drew)))).mono ?_; rintro e w1 ⟨rfl, ⟨nd, rfl⟩⟩)
      | (go_at_call 22; refine (nr_Int _ _ (HN.out (by repeat (with_reducible first | exact HS.out | apply sl_drewN | apply sl_drew)))).mono ?_; rintro e w1 ⟨rfl, ⟨nd, rfl⟩⟩)
      | (go_at_call 24; refine (nr_String _ _ _ (HN.out (by repeat (with_reducible first | exact HS.out | apply sl_drewN | apply sl_drew)))).mono ?_; rintro e w1 ⟨rfl, ⟨nd, rfl⟩⟩)
      | (go_at_call 26; refine (nr_Array _ _ _ (HN.out (by repeat (with_reducible first | exact HS.out | apply sl_drewN | apply sl_drew)))).mono ?_; rintro e w1 ⟨rfl, ⟨nd, rfl⟩⟩)
      | (go_at_call 27; refine (nr_Left _ _ (HN.out (by repeat (with_reducible first | exact HS.out | apply sl_drewN | apply sl_drew)))).mono ?_; rintro e w1 ⟨rfl, ⟨nd, rfl⟩⟩)
      | (go_at_call 29; refine (nr_Err _ _ (HN.out (by repeat (with_reducible first | exact HS.out | apply sl_drewN | apply sl_drew)))).mono ?_; rintro e w1 ⟨rfl, rfl⟩)
      | (go_at_call 31; refine (nr_End _ _ (HN.out (by repeat (with_reducible first | exact HS.out | apply sl_drewN | apply sl_drew)))).mono ?_; rintro e w1 ⟨rfl, rfl⟩))
      go_roundg kq
      case measure => omega
      case rel => exact ⟨1, rfl, ⟨by omega⟩, ⟨(by repeat (with_reducible first | exact HS.out | apply sl_drewN | apply sl_drew))⟩⟩
    · obtain ⟨kq, rfl⟩ : ∃ m, gk = m + 1 := ⟨gk - 1, by omega⟩
      have HN := Aside0.mk (show ∀ {w' : World}, SL w w' [cellsR w.heap.size 68 #[.slice none 0 0, .int .i64 0, .bool false], cellsR (w.heap.size + 1) 36 #[.pointer none, .pointer (some ⟨w.heap.size, 0, none⟩)]] → NoRd (.pointer (some ⟨w.heap.size, 0, none⟩)) w' from fun hs => .inr ⟨_, rfl, sl_blk hs 0 rfl⟩)
      go_wp2_with (first
      | (go_at_call 20; refine (nr_Uint _ _ (HN.out (by repeat (with_reducible first | exact HS.out | apply sl_drewN | apply sl_drew)))).mono ?_; rintro e w1 ⟨rfl, ⟨nd, rfl⟩⟩)
      | (go_at_call 22; refine (nr_Int _ _ (HN.out (by repeat (with_reducible first | exact HS.out | apply sl_drewN | apply sl_drew)))).mono ?_; rintro e w1 ⟨rfl, ⟨nd, rfl⟩⟩)
      | (go_at_call 24; refine (nr_String _ _ _ (HN.out (by repeat (with_reducible first | exact HS.out | apply sl_drewN | apply sl_drew)))).mono ?_; rintro e w1 ⟨rfl, ⟨nd, rfl⟩⟩)
      | (go_at_call 26; refine (nr_Array _ _ _ (HN.out (by repeat (with_reducible first | exact HS.out | apply sl_drewN | apply sl_drew)))).mono ?_; rintro e w1 ⟨rfl, ⟨nd, rfl⟩⟩)
      | (go_at_call 27; refine (nr_Left _ _ (HN.out (by repeat (with_reducible first | exact HS.out | apply sl_drewN | apply sl_drew)))).mono ?_; rintro e w1 ⟨rfl, ⟨nd, rfl⟩⟩)
      | (go_at_call 29; refine (nr_Err _ _ (HN.out (by repeat (with_reducible first | exact HS.out | apply sl_drewN | apply sl_drew)))).mono ?_; rintro e w1 ⟨rfl, rfl⟩)
      | (go_at_call 31; refine (nr_End _ _ (HN.out (by repeat (with_reducible first | exact HS.out | apply sl_drewN | apply sl_drew)))).mono ?_; rintro e w1 ⟨rfl, rfl⟩))
      go_roundg kq
      case measure => omega
      case rel => exact ⟨2, rfl, ⟨by omega⟩, ⟨(by repeat (with_reducible first | exact HS.out | apply sl_drewN | apply sl_drew))⟩⟩
    · go_wp2_with (first | (go_at_call 11; refine (ex_c (by repeat (with_reducible first | exact HS.out | apply sl_drewN | apply sl_drew))).mono ?_; rintro e w1 ⟨rfl, hs⟩; replace HS := Aside0.mk hs; clear hs))
      try rw [Exit.noGoto_ret]
      go_ret
      exact ⟨rfl, sl_below0 (show SL w _ _ from (by repeat (with_reducible first | exact HS.out | apply sl_drewN | apply sl_drew)))⟩
end Go.Proofs.Ytmihibikhmldgaa.Q
