import Derived.Test.YtckpgccbhaejgaaT6
namespace Go.Proofs.Ytckpgccbhaejgaa.Q
open Go.RowKit Go.Proofs.YtckpgccbhaejgaaW.PrintWords Go.Proofs.YtckpgccbhaejgaaW.PrintLast Go.Proofs.YtckpgccbhaejgaaW.PrintMore Go.Proofs.Ytckpgccbhaejgaa.Sl Go.Proofs.Ytckpgccbhaejgaa.Hand 
attribute [local go_sem] max2_int min2_int max_two min_two max_three min_three max_four min_four 
set_option linter.unusedVariables false
set_option linter.unusedSimpArgs false

section
variable {w0 w : World} {L : List Res}
theorem lift1 {P : Program} {f : FuncId} {args : Array Value} {r : Ending} {A B : Res} (h : SL w0 w L) (i : Nat) (hi : L[i]? = some A) (hc : ∀ {R : Res}, SL w0 w [A, R] → Calls P f args w fun e w' => e = r ∧ SL w0 w' [B, R]) :
    Calls P f args w fun e w' => e = r ∧ SL w0 w' (L.set i B) := by
  obtain ⟨S, h1, h2⟩ := sl_lift h hi
  refine (hc h1).mono ?_
  rintro e w' ⟨rfl, h4⟩
  have := h2 _ _ [] h4
  rw [List.append_nil] at this
  exact ⟨rfl, this⟩
theorem set_self (L : List Res) (i : Nat) (A : Res) (hi : L[i]? = some A) : L.set i A = L := by
  refine List.ext_getElem? fun j => ?_
  by_cases h : j = i
  · subst h
    rw [List.getElem?_set_self (List.getElem?_eq_some_iff.1 hi).1, hi]
  · rw [List.getElem?_set_ne (Ne.symm h)]
theorem lift0 {P : Program} {f : FuncId} {args : Array Value} {r : Ending} {A : Res} (h : SL w0 w L) (i : Nat) (hi : L[i]? = some A) (hc : ∀ {R : Res}, SL w0 w [A, R] → Calls P f args w fun e w' => e = r ∧ SL w0 w' [A, R]) :
    Calls P f args w fun e w' => e = r ∧ SL w0 w' L := by
  have := lift1 h i hi hc
  rwa [set_self L i _ hi] at this
theorem usable_w (h : SL w0 w L) (i : Nat) {g : Nat} {s : WSt} (hi : L[i]? = some (winR g s)) : Calls Try.prog 25 #[.pointer (some ⟨g, 0, none⟩)] w fun e w' => e = .returned (.bool true) ∧ SL w0 w' L :=
  lift0 h i hi fun h => by
    obtain ⟨m, h1⟩ := win_open h
    refine (usable_c h1 0 rfl).mono ?_
    rintro e w' ⟨rfl, h2⟩
    exact ⟨rfl, win_close s h2⟩
theorem mask_w (h : SL w0 w L) (i : Nat) {g : Nat} {s : WSt} {M : Int} (hM : mskI s.b = M) (hi : L[i]? = some (winR g s)) : Calls Try.prog 26 #[.pointer (some ⟨g, 0, none⟩)] w fun e w' => e = .returned (.int .i64 M) ∧ SL w0 w' L := by
  subst hM
  refine lift0 h i hi fun h => ?_
  obtain ⟨m, h1⟩ := win_open h
  refine (mask_in g m s h1).mono ?_
  rintro e w' ⟨rfl, h2⟩
  exact ⟨rfl, win_close s h2⟩
theorem limited_w (h : SL w0 w L) (i : Nat) {g : Nat} {s : WSt} (x y : Int) {a b : Int} (ha : limI s.lx s.mx x = a) (hb : limI s.ly s.my y = b) (hi : L[i]? = some (winR g s)) : Calls Try.prog 28 #[.pointer (some ⟨g, 0, none⟩), .agg #[.int .i64 x, .int .i64 y]] w fun e w' => e = .returned (.agg #[.int .i64 a, .int .i64 b]) ∧ SL w0 w' L := by
  subst ha; subst hb
  refine lift0 h i hi fun h => ?_
  obtain ⟨m, h1⟩ := win_open h
  refine (limited_in g m s x y h1).mono ?_
  rintro e w' ⟨rfl, h2⟩
  exact ⟨rfl, win_close s h2⟩
end
def edgeB (e : Int) : Bool := (e == 1) || (e == 2) || (e == 4) || (e == 5) || (e == 6) || (e == 8) || (e == 9) || (e == 10)
def edX (e : Int) : Bool := decide (4 ≤ e)
def edY (e : Int) : Bool := (e == 1) || (e == 2) || (e == 5) || (e == 6) || (e == 9) || (e == 10)
def rszE (s : WSt) (e x y : Int) : Int := if edgeB e = true then (if s.b.c = true ∧ s.b.a = false ∧ s.b.b = false then (if valB 1 x y = true then 0 else 6) else 14) else 2
def rszX (s : WSt) (e x : Int) : Int := limI s.lx s.mx (if edX e = true then x else s.gx)
def rszY (s : WSt) (e y : Int) : Int := limI s.ly s.my (if edY e = true then y else s.gy)
def rszS (s : WSt) (e x y : Int) : WSt := if rszE s e x y = 0 then { s with sx := rszX s e x, sy := rszY s e y } else s
section
variable {w0 w : World} {R : Res}
theorem rsz_bad (g : Nat) (s : WSt) (k x y : Int) (hk : edgeB k = false) (hs : SL w0 w [winR g s, R]) : Calls Try.prog 10 #[.pointer (some ⟨g, 0, none⟩), .int .i64 k, .int .i64 x, .int .i64 y] w fun e w' => e = .returned (.tuple #[.int .i64 0, .int .i64 0, .int .i64 2]) ∧ SL w0 w' [winR g s, R] := by
  have HS := Aside0.mk hs
  clear hs
  by_cases c1 : k < 1
  · have d1 : decide (k < 1) = true := decide_eq_true c1
    clear c1 hk
    obtain ⟨V, hV⟩ : ∃ V, Go.bits .and .i64 k 3 = V := ⟨_, rfl⟩
    obtain ⟨H, hH⟩ : ∃ H, Go.bits .and .i64 k 12 = H := ⟨_, rfl⟩
    go_enter Try.func10, Try.ntmps10
    go_wp2_with (first
    | (go_at_call 25; refine (usable_w (by repeat (with_reducible first | exact HS.out | apply sl_drewN | apply sl_drew | apply sl_box | apply sl_alloc)) 0 (by rfl)).mono ?_; rintro e w1 ⟨rfl, hs⟩; (try simp only [World.size_alloc] at hs); replace HS := Aside0.mk hs; clear hs))
    go_ret3
    exact ⟨rfl, HS.out⟩
  by_cases c2 : 12 < k
  · have d1 : decide (k < 1) = false := decide_eq_false c1
    have d2 : decide (12 < k) = true := decide_eq_true c2
    clear c1 c2 hk
    obtain ⟨V, hV⟩ : ∃ V, Go.bits .and .i64 k 3 = V := ⟨_, rfl⟩
    obtain ⟨H, hH⟩ : ∃ H, Go.bits .and .i64 k 12 = H := ⟨_, rfl⟩
    go_enter Try.func10, Try.ntmps10
    go_wp2_with (first
    | (go_at_call 25; refine (usable_w (by repeat (with_reducible first | exact HS.out | apply sl_drewN | apply sl_drew | apply sl_box | apply sl_alloc)) 0 (by rfl)).mono ?_; rintro e w1 ⟨rfl, hs⟩; (try simp only [World.size_alloc] at hs); replace HS := Aside0.mk hs; clear hs))
    go_ret3
    exact ⟨rfl, HS.out⟩
  have h3 : k = 3 ∨ k = 7 ∨ k = 11 ∨ k = 12 := by
    unfold edgeB at hk
    simp only [Bool.or_eq_false_iff, beq_eq_false_iff_ne] at hk
    omega
  clear c1 c2 hk
  rcases h3 with rfl | rfl | rfl | rfl
  · go_enter Try.func10, Try.ntmps10
    go_wp2_with (first
    | (go_at_call 25; refine (usable_w (by repeat (with_reducible first | exact HS.out | apply sl_drewN | apply sl_drew | apply sl_box | apply sl_alloc)) 0 (by rfl)).mono ?_; rintro e w1 ⟨rfl, hs⟩; (try simp only [World.size_alloc] at hs); replace HS := Aside0.mk hs; clear hs))
    go_ret3
    exact ⟨rfl, HS.out⟩
  · go_enter Try.func10, Try.ntmps10
    go_wp2_with (first
    | (go_at_call 25; refine (usable_w (by repeat (with_reducible first | exact HS.out | apply sl_drewN | apply sl_drew | apply sl_box | apply sl_alloc)) 0 (by rfl)).mono ?_; rintro e w1 ⟨rfl, hs⟩; (try simp only [World.size_alloc] at hs); replace HS := Aside0.mk hs; clear hs))
    go_ret3
    exact ⟨rfl, HS.out⟩
  · go_enter Try.func10, Try.ntmps10
    go_wp2_with (first
    | (go_at_call 25; refine (usable_w (by repeat (with_reducible first | exact HS.out | apply sl_drewN | apply sl_drew | apply sl_box | apply sl_alloc)) 0 (by rfl)).mono ?_; rintro e w1 ⟨rfl, hs⟩; (try simp only [World.size_alloc] at hs); replace HS := Aside0.mk hs; clear hs))
    go_ret3
    exact ⟨rfl, HS.out⟩
  · go_enter Try.func10, Try.ntmps10
    go_wp2_with (first
    | (go_at_call 25; refine (usable_w (by repeat (with_reducible first | exact HS.out | apply sl_drewN | apply sl_drew | apply sl_box | apply sl_alloc)) 0 (by rfl)).mono ?_; rintro e w1 ⟨rfl, hs⟩; (try simp only [World.size_alloc] at hs); replace HS := Aside0.mk hs; clear hs))
    go_ret3
    exact ⟨rfl, HS.out⟩
theorem and4 (b : Bits) : (Go.bits .and .i64 (mskI b) 4 == 0) = !b.c := by obtain ⟨b1, b2, b3, b4⟩ := b; cases b1 <;> cases b2 <;> cases b3 <;> cases b4 <;> kernel_rfl
theorem and3 (b : Bits) : (Go.bits .and .i64 (mskI b) 3 == 0) = !(b.a || b.b) := by obtain ⟨b1, b2, b3, b4⟩ := b; cases b1 <;> cases b2 <;> cases b3 <;> cases b4 <;> kernel_rfl
theorem rsz_no (g : Nat) (s : WSt) (k x y V H : Int) (hV : Go.bits .and .i64 k 3 = V) (hH : Go.bits .and .i64 k 12 = H) (hVH : Go.bits .or .i64 V H = k) (h3 : (V == 3) = false) (h12 : (H == 12) = false) (q1 : decide (k < 1) = false) (q2 : decide (12 < k) = false) (hb : ¬ (s.b.c = true ∧ s.b.a = false ∧ s.b.b = false)) (hs : SL w0 w [winR g s, R]) : Calls Try.prog 10 #[.pointer (some ⟨g, 0, none⟩), .int .i64 k, .int .i64 x, .int .i64 y] w fun e w' => e = .returned (.tuple #[.int .i64 0, .int .i64 0, .int .i64 14]) ∧ SL w0 w' [winR g s, R] := by
  have HS := Aside0.mk hs
  clear hs
  obtain ⟨M, hM⟩ : ∃ M, mskI s.b = M := ⟨_, rfl⟩
  have a4 := and4 s.b
  have a3 := and3 s.b
  rw [hM] at a4 a3
  have HM := Aside0.mk hM
  clear hM
  obtain ⟨X4, h4⟩ : ∃ X, Go.bits .and .i64 M 4 = X := ⟨_, rfl⟩
  obtain ⟨X3, h33⟩ : ∃ X, Go.bits .and .i64 M 3 = X := ⟨_, rfl⟩
  rw [h4] at a4
  rw [h33] at a3
  by_cases c1 : s.b.c = false
  · replace a4 : (X4 == 0) = true := by rw [a4, c1]; rfl
    clear a3 hb c1
    go_enter Try.func10, Try.ntmps10
    go_wp2_with (first
    | (go_at_call 25; refine (usable_w (by repeat (with_reducible first | exact HS.out | apply sl_drewN | apply sl_drew | apply sl_box | apply sl_alloc)) 0 (by rfl)).mono ?_; rintro e w1 ⟨rfl, hs⟩; (try simp only [World.size_alloc] at hs); replace HS := Aside0.mk hs; clear hs)
    | (go_at_call 26; refine (mask_w (by repeat (with_reducible first | exact HS.out | apply sl_drewN | apply sl_drew | apply sl_box | apply sl_alloc)) 0 HM.out (by rfl)).mono ?_; rintro e w1 ⟨rfl, hs⟩; (try simp only [World.size_alloc] at hs); replace HS := Aside0.mk hs; clear hs))
    go_ret3
    exact ⟨rfl, HS.out⟩
  have c1 := (Bool.not_eq_false _).mp c1
  have c2 : (s.b.a || s.b.b) = true := by
    cases hA : s.b.a <;> cases hB : s.b.b <;> simp_all
  replace a4 : (X4 == 0) = false := by rw [a4, c1]; rfl
  replace a3 : (X3 == 0) = false := by rw [a3, c2]; rfl
  have a3' : (X3 != 0) = true := by unfold bne; rw [a3]; rfl
  clear hb c1 c2
  go_enter Try.func10, Try.ntmps10
  go_wp2_with (first
    | (go_at_call 25; refine (usable_w (by repeat (with_reducible first | exact HS.out | apply sl_drewN | apply sl_drew | apply sl_box | apply sl_alloc)) 0 (by rfl)).mono ?_; rintro e w1 ⟨rfl, hs⟩; (try simp only [World.size_alloc] at hs); replace HS := Aside0.mk hs; clear hs)
    | (go_at_call 26; refine (mask_w (by repeat (with_reducible first | exact HS.out | apply sl_drewN | apply sl_drew | apply sl_box | apply sl_alloc)) 0 HM.out (by rfl)).mono ?_; rintro e w1 ⟨rfl, hs⟩; (try simp only [World.size_alloc] at hs); replace HS := Aside0.mk hs; clear hs))
  go_ret3
  exact ⟨rfl, HS.out⟩
end
end Go.Proofs.Ytckpgccbhaejgaa.Q
