import Derived.Test.YtckpgccbhaejgaaT10
namespace Go.Proofs.Ytckpgccbhaejgaa.Q
open Go.RowKit Go.Proofs.YtckpgccbhaejgaaW.PrintWords Go.Proofs.YtckpgccbhaejgaaW.PrintLast Go.Proofs.YtckpgccbhaejgaaW.PrintMore Go.Proofs.Ytckpgccbhaejgaa.Sl Go.Proofs.Ytckpgccbhaejgaa.Hand 
attribute [local go_sem] max2_int min2_int max_two min_two max_three min_three max_four min_four 
set_option linter.unusedVariables false
set_option linter.unusedSimpArgs false

section
variable {w0 w : World} {L : List Res} {g : Nat} {s s' : WSt}
theorem Min_eq (h : SL w0 w L) (i : Nat) (x y : Int) {E : Int} (hE : minE s x y = E) (hS : minS s x y = s') (hi : L[i]? = some (winR g s)) : Calls Try.prog 22 #[.pointer (some ⟨g, 0, none⟩), .int .i64 x, .int .i64 y] w fun e w' => e = .returned (.int .i64 E) ∧ SL w0 w' (L.set i (winR g s')) := by
  subst hE; subst hS
  exact lift1 h i hi fun h => SetMin_in g s x y h
theorem Max_eq (h : SL w0 w L) (i : Nat) (x y : Int) {E : Int} (hE : maxE s x y = E) (hS : maxS s x y = s') (hi : L[i]? = some (winR g s)) : Calls Try.prog 23 #[.pointer (some ⟨g, 0, none⟩), .int .i64 x, .int .i64 y] w fun e w' => e = .returned (.int .i64 E) ∧ SL w0 w' (L.set i (winR g s')) := by
  subst hE; subst hS
  exact lift1 h i hi fun h => SetMax_in g s x y h
theorem Acc_eq (h : SL w0 w L) (i : Nat) (x y : Int) {E : Int} (hE : accE s x y = E) (hS : accS s x y = s') (hi : L[i]? = some (winR g s)) : Calls Try.prog 11 #[.pointer (some ⟨g, 0, none⟩), .int .i64 x, .int .i64 y] w fun e w' => e = .returned (.int .i64 E) ∧ SL w0 w' (L.set i (winR g s')) := by
  subst hE; subst hS
  exact lift1 h i hi fun h => Accept_in g s x y h
theorem Req_eq (h : SL w0 w L) (i : Nat) (k : Int) (on : Bool) (x0 y0 x1 y1 : Int) {V : Value} (hE : rqV s k on x0 y0 x1 y1 = V) (hS : rqS s k on x0 y0 x1 y1 = s') (hi : L[i]? = some (winR g s)) : Calls Try.prog 12 #[.pointer (some ⟨g, 0, none⟩), .int .i64 k, .bool on, .agg #[.int .i64 x0, .int .i64 y0, .int .i64 x1, .int .i64 y1]] w fun e w' => e = .returned V ∧ SL w0 w' (L.set i (winR g s')) := by
  subst hE; subst hS
  exact lift1 h i hi fun h => Request_in g s k on x0 y0 x1 y1 h
theorem Rsz_eq (h : SL w0 w L) (i : Nat) (k x y : Int) {A B E : Int} (hA : rszA s k x y = A) (hB : rszB s k x y = B) (hE : rszE s k x y = E) (hS : rszS s k x y = s') (hi : L[i]? = some (winR g s)) : Calls Try.prog 10 #[.pointer (some ⟨g, 0, none⟩), .int .i64 k, .int .i64 x, .int .i64 y] w fun e w' => e = .returned (.tuple #[.int .i64 A, .int .i64 B, .int .i64 E]) ∧ SL w0 w' (L.set i (winR g s')) := by
  subst hE; subst hS; subst hA; subst hB
  exact lift1 h i hi fun h => Resize_in g s k x y h
theorem Sta_sl (h : SL w0 w L) (i : Nat) {M : Int} (hM : mskI s.b = M) (hi : L[i]? = some (winR g s)) : Calls Try.prog 18 #[.pointer (some ⟨g, 0, none⟩)] w fun e w' => e = .returned (.int .i64 M) ∧ SL w0 w' L := by
  subst hM
  exact lift0 h i hi fun h => States_in g s h
theorem Geo_eq (h : SL w0 w L) (i : Nat) {A B : Int} (hA : s.gx = A ∧ s.gy = B) (hi : L[i]? = some (winR g s)) : Calls Try.prog 20 #[.pointer (some ⟨g, 0, none⟩)] w fun e w' => e = .returned (.tuple #[.int .i64 A, .int .i64 B]) ∧ SL w0 w' L := by
  rw [← hA.1, ← hA.2]
  exact lift0 h i hi fun h => Geo_in g s h
theorem Flt_eq (h : SL w0 w L) (i : Nat) {A B : Int} (hA : s.fx = A ∧ s.fy = B) (hi : L[i]? = some (winR g s)) : Calls Try.prog 21 #[.pointer (some ⟨g, 0, none⟩)] w fun e w' => e = .returned (.tuple #[.int .i64 A, .int .i64 B]) ∧ SL w0 w' L := by
  rw [← hA.1, ← hA.2]
  exact lift0 h i hi fun h => Flt_in g s h
theorem Geo_sl (h : SL w0 w L) (i : Nat) (hi : L[i]? = some (winR g s)) : Calls Try.prog 20 #[.pointer (some ⟨g, 0, none⟩)] w fun e w' => e = .returned (.tuple #[.int .i64 s.gx, .int .i64 s.gy]) ∧ SL w0 w' L :=
  lift0 h i hi fun h => Geo_in g s h
theorem Flt_sl (h : SL w0 w L) (i : Nat) (hi : L[i]? = some (winR g s)) : Calls Try.prog 21 #[.pointer (some ⟨g, 0, none⟩)] w fun e w' => e = .returned (.tuple #[.int .i64 s.fx, .int .i64 s.fy]) ∧ SL w0 w' L :=
  lift0 h i hi fun h => Flt_in g s h
theorem Tit_eq (h : SL w0 w L) (i : Nat) (t : ByteArray) {E : Int} (hE : titE t = E) (hi : L[i]? = some (winR g s)) : Calls Try.prog 36 #[.pointer (some ⟨g, 0, none⟩), .string t] w fun e w' => e = .returned (.int .i64 E) ∧ SL w0 w' L := by
  subst hE
  exact lift0 h i hi fun h => Title_in g s t h
theorem screen_c (h : SL w0 w L) (a b : Int) : Calls Try.prog 24 #[.int .i64 a, .int .i64 b] w fun e w' => e = .returned (.agg #[.int .i64 0, .int .i64 0, .int .i64 a, .int .i64 b]) ∧ SL w0 w' L := by
  refine (compositorlaw22_screen.calls a b 0 0 a b w rfl).mono ?_
  rintro e w' ⟨rfl, hb⟩
  exact ⟨rfl, sl_below h hb⟩
end
def b0 : Bits := ⟨false, false, false, false⟩
def b1 : Bits := ⟨true, false, false, false⟩
theorem ex_facts : ∃ S1 S2 S4 S6 S8 S9 : WSt, (minE wz 100 50 = 0 ∧ minS wz 100 50 = S1) ∧ (maxE S1 300 0 = 0 ∧ maxS S1 300 0 = S2) ∧ (maxE S2 90 0 = 2 ∧ maxS S2 90 0 = S2) ∧ (accE S2 200 1000 = 0 ∧ accS S2 200 1000 = S4) ∧ (accE S4 301 60 = 6 ∧ accS S4 301 60 = S4) ∧
    (rqV S4 1 true 0 0 800 600 = .tuple #[.int .i64 800, .int .i64 600, .int .i64 1, .int .i64 0] ∧ rqS S4 1 true 0 0 800 600 = S6) ∧ (accE S6 700 600 = 14 ∧ accS S6 700 600 = S6) ∧ (accE S6 800 600 = 0 ∧ accS S6 800 600 = S8) ∧ (S8.gx = 800 ∧ S8.gy = 600) ∧ (S8.fx = 200 ∧ S8.fy = 1000) ∧
    (rqV S8 1 false 0 0 0 0 = .tuple #[.int .i64 200, .int .i64 1000, .int .i64 0, .int .i64 0] ∧ rqS S8 1 false 0 0 0 0 = S9) ∧ (rszA S9 8 500 7 = 0 ∧ rszB S9 8 500 7 = 0 ∧ rszE S9 8 500 7 = 14 ∧ rszS S9 8 500 7 = S9) :=
  ⟨⟨100, 50, 0, 0, 0, 0, 0, 0, 0, 0, b0⟩, ⟨100, 50, 300, 0, 0, 0, 0, 0, 0, 0, b0⟩, ⟨100, 50, 300, 0, 200, 1000, 200, 1000, 0, 0, b0⟩, ⟨100, 50, 300, 0, 200, 1000, 200, 1000, 800, 600, b1⟩, ⟨100, 50, 300, 0, 800, 600, 200, 1000, 800, 600, b1⟩, ⟨100, 50, 300, 0, 800, 600, 200, 1000, 200, 1000, b0⟩,
    ⟨by kernel_rfl, by kernel_rfl⟩, ⟨by kernel_rfl, by kernel_rfl⟩, ⟨by kernel_rfl, by kernel_rfl⟩, ⟨by kernel_rfl, by kernel_rfl⟩, ⟨by kernel_rfl, by kernel_rfl⟩, ⟨by kernel_rfl, by kernel_rfl⟩, ⟨by kernel_rfl, by kernel_rfl⟩, ⟨by kernel_rfl, by kernel_rfl⟩, ⟨by kernel_rfl, by kernel_rfl⟩, ⟨by kernel_rfl, by kernel_rfl⟩, ⟨by kernel_rfl, by kernel_rfl⟩, ⟨by kernel_rfl, by kernel_rfl, by kernel_rfl, by kernel_rfl⟩⟩
set_option maxHeartbeats 1000000 in
theorem ex_c {w0 w : World} {L : List Res} (h : SL w0 w L) : Calls Try.prog 8 #[] w fun e w' => e = .returned (.bool true) ∧ SL w0 w' L := by
  have HL := Aside0.mk h
  have HS := Aside0.mk (sl_start w)
  clear h
  obtain ⟨S1, S2, S4, S6, S8, S9, f1, f2, f3, f4, f5, f6, f7, f8, f9, f10, f11, f12⟩ := ex_facts
  have HW := Aside0.mk (show ∀ {w' : World} {L : List Res}, SL w w' L → Calls Try.prog 9 #[] w' fun e w'' => ∃ g : Nat, e = .returned (.pointer (some ⟨g, 0, none⟩)) ∧ SL w w'' (L ++ [winR g wz]) from fun h => New_c h)
  obtain ⟨S0, hS0⟩ : ∃ S0, wz = S0 := ⟨_, rfl⟩
  rw [hS0] at f1 HW
  have H1 := Aside0.mk f1
  have H2 := Aside0.mk f2
  have H3 := Aside0.mk f3
  have H4 := Aside0.mk f4
  have H5 := Aside0.mk f5
  have H6 := Aside0.mk f6
  have H7 := Aside0.mk f7
  have H8 := Aside0.mk f8
  have H9 := Aside0.mk f9
  have H10 := Aside0.mk f10
  have H11 := Aside0.mk f11
  have H12 := Aside0.mk f12
  clear f1 f2 f3 f4 f5 f6 f7 f8 f9 f10 f11 f12 hS0
  go_enter Try.func8, Try.ntmps8
  go_wp2_with (first
    | (go_at_call 9; refine (HW.out (by repeat (with_reducible first | exact HS.out | apply sl_drewN | apply sl_drew | apply sl_box | apply sl_alloc))).mono ?_; rintro e w1 ⟨g, rfl, hs⟩; (try simp only [World.size_alloc] at hs); replace HS := Aside0.mk hs; clear hs)
    | (go_at_call 22; refine (Min_eq (s := S0) (by repeat (with_reducible first | exact HS.out | apply sl_drewN | apply sl_drew | apply sl_box | apply sl_alloc)) 0 100 50 H1.out.1 H1.out.2 (by rfl)).mono ?_; rintro e w1 ⟨rfl, hs⟩; (try simp only [World.size_alloc] at hs); replace HS := Aside0.mk hs; clear hs)
    | (go_at_call 23; with_reducible refine (Max_eq (s := S1) (by repeat (with_reducible first | exact HS.out | apply sl_drewN | apply sl_drew | apply sl_box | apply sl_alloc)) 0 300 0 H2.out.1 H2.out.2 rfl).mono ?_; rintro e w1 ⟨rfl, hs⟩; (try simp only [World.size_alloc] at hs); replace HS := Aside0.mk hs; clear hs)
    | (go_at_call 23; with_reducible refine (Max_eq (s := S2) (by repeat (with_reducible first | exact HS.out | apply sl_drewN | apply sl_drew | apply sl_box | apply sl_alloc)) 0 90 0 H3.out.1 H3.out.2 rfl).mono ?_; rintro e w1 ⟨rfl, hs⟩; (try simp only [World.size_alloc] at hs); replace HS := Aside0.mk hs; clear hs)
    | (go_at_call 11; with_reducible refine (Acc_eq (s := S2) (by repeat (with_reducible first | exact HS.out | apply sl_drewN | apply sl_drew | apply sl_box | apply sl_alloc)) 0 200 1000 H4.out.1 H4.out.2 rfl).mono ?_; rintro e w1 ⟨rfl, hs⟩; (try simp only [World.size_alloc] at hs); replace HS := Aside0.mk hs; clear hs)
    | (go_at_call 11; with_reducible refine (Acc_eq (s := S4) (by repeat (with_reducible first | exact HS.out | apply sl_drewN | apply sl_drew | apply sl_box | apply sl_alloc)) 0 301 60 H5.out.1 H5.out.2 rfl).mono ?_; rintro e w1 ⟨rfl, hs⟩; (try simp only [World.size_alloc] at hs); replace HS := Aside0.mk hs; clear hs)
    | (go_at_call 11; with_reducible refine (Acc_eq (s := S6) (by repeat (with_reducible first | exact HS.out | apply sl_drewN | apply sl_drew | apply sl_box | apply sl_alloc)) 0 700 600 H7.out.1 H7.out.2 rfl).mono ?_; rintro e w1 ⟨rfl, hs⟩; (try simp only [World.size_alloc] at hs); replace HS := Aside0.mk hs; clear hs)
    | (go_at_call 11; with_reducible refine (Acc_eq (s := S6) (by repeat (with_reducible first | exact HS.out | apply sl_drewN | apply sl_drew | apply sl_box | apply sl_alloc)) 0 800 600 H8.out.1 H8.out.2 rfl).mono ?_; rintro e w1 ⟨rfl, hs⟩; (try simp only [World.size_alloc] at hs); replace HS := Aside0.mk hs; clear hs)
    | (go_at_call 24; refine (screen_c (by repeat (with_reducible first | exact HS.out | apply sl_drewN | apply sl_drew | apply sl_box | apply sl_alloc)) 800 600).mono ?_; rintro e w1 ⟨rfl, hs⟩; (try simp only [World.size_alloc] at hs); replace HS := Aside0.mk hs; clear hs)
    | (go_at_call 12; with_reducible refine (Req_eq (s := S4) (by repeat (with_reducible first | exact HS.out | apply sl_drewN | apply sl_drew | apply sl_box | apply sl_alloc)) 0 1 true 0 0 800 600 H6.out.1 H6.out.2 rfl).mono ?_; rintro e w1 ⟨rfl, hs⟩; (try simp only [World.size_alloc] at hs); replace HS := Aside0.mk hs; clear hs)
    | (go_at_call 12; with_reducible refine (Req_eq (s := S8) (by repeat (with_reducible first | exact HS.out | apply sl_drewN | apply sl_drew | apply sl_box | apply sl_alloc)) 0 1 false 0 0 0 0 H11.out.1 H11.out.2 rfl).mono ?_; rintro e w1 ⟨rfl, hs⟩; (try simp only [World.size_alloc] at hs); replace HS := Aside0.mk hs; clear hs)
    | (go_at_call 20; refine (Geo_eq (s := S8) (by repeat (with_reducible first | exact HS.out | apply sl_drewN | apply sl_drew | apply sl_box | apply sl_alloc)) 0 H9.out (by rfl)).mono ?_; rintro e w1 ⟨rfl, hs⟩; (try simp only [World.size_alloc] at hs); replace HS := Aside0.mk hs; clear hs)
    | (go_at_call 21; refine (Flt_eq (s := S8) (by repeat (with_reducible first | exact HS.out | apply sl_drewN | apply sl_drew | apply sl_box | apply sl_alloc)) 0 H10.out (by rfl)).mono ?_; rintro e w1 ⟨rfl, hs⟩; (try simp only [World.size_alloc] at hs); replace HS := Aside0.mk hs; clear hs)
    | (go_at_call 10; refine (Rsz_eq (s := S9) (by repeat (with_reducible first | exact HS.out | apply sl_drewN | apply sl_drew | apply sl_box | apply sl_alloc)) 0 8 500 7 H12.out.1 H12.out.2.1 H12.out.2.2.1 H12.out.2.2.2 (by rfl)).mono ?_; rintro e w1 ⟨rfl, hs⟩; (try simp only [World.size_alloc] at hs); replace HS := Aside0.mk hs; clear hs))
  go_ret
  exact ⟨rfl, sl_below HL.out (sl_below0 HS.out)⟩
end Go.Proofs.Ytckpgccbhaejgaa.Q
