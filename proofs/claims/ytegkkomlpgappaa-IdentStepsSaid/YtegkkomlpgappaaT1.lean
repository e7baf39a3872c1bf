import Derived.Test.YtegkkomlpgappaaMs
import Derived.Test.YtegkkomlpgappaaQx0
namespace Go.Proofs.Ytegkkomlpgappaa.Q
open Go.RowKit Go.Proofs.YtegkkomlpgappaaW.PrintWords Go.Proofs.YtegkkomlpgappaaW.PrintLast Go.Proofs.YtegkkomlpgappaaW.PrintMore Go.Proofs.Ytegkkomlpgappaa.Sl Go.Proofs.Ytegkkomlpgappaa.Hand 
attribute [local go_sem] max2_int min2_int max_two min_two max_three min_three max_four min_four 
set_option linter.unusedVariables false
set_option linter.unusedSimpArgs false

/-! ### A table -/
abbrev setI (b : Nat) (xs : List Int) : Res := setR Try.prog 24 4 .u32 b xs
structure TSt where
  srv : Bool
  live : List Int
  rel : List Int
  lar : Int
abbrev tabC (g a b : Nat) (s : TSt) : Res := cellsR g 52 #[.bool true, .bool s.srv, .map (some a), .map (some b), .int .u64 s.lar]
/-- A table that lies at block g. -/
def tabR (g : Nat) (s : TSt) : Res := exR (X := Nat × Nat) (fun m => tabC g m.1 m.2 s) (fun m => exR (X := Unit) (fun _ => setI m.1 s.live) (fun _ => setI m.2 s.rel))
theorem tab_open {w0 w : World} {R : Res} {g : Nat} {s : TSt} (h : SL w0 w [tabR g s, R]) : ∃ a b, SL w0 w [tabC g a b s, R, setI a s.live, setI b s.rel] := by
  obtain ⟨⟨a, b⟩, h1⟩ := sl_open h 0 rfl
  obtain ⟨_, h2⟩ := sl_open h1 2 rfl
  exact ⟨a, b, h2⟩
theorem tab_close {w0 w : World} {R : Res} {g a b : Nat} (s : TSt) (h : SL w0 w [tabC g a b s, R, setI a s.live, setI b s.rel]) : SL w0 w [tabR g s, R] := by
  have h1 := sl_close (X := Unit) (A := fun _ => setI a s.live) (B := fun _ => setI b s.rel) () h 2 3 (by decide) rfl rfl
  have h2 := sl_close (X := Nat × Nat) (A := fun m => tabC g m.1 m.2 s) (B := fun m => exR (X := Unit) (fun _ => setI m.1 s.live) (fun _ => setI m.2 s.rel)) (a, b) h1 0 2 (by decide) rfl rfl
  exact sl_pick h2 [0, 1] (by decide) rfl
theorem usable_c (g a b : Nat) (s : TSt) (w : World) (hb : w.heap[g]? = some (.cells #[.bool true, .bool s.srv, .map (some a), .map (some b), .int .u64 s.lar] 52 (0, 0))) : Calls Try.prog 23 #[.pointer (some ⟨g, 0, none⟩)] w fun e w' => e = .returned (.bool true) ∧ Drawn0 w w' := by
  have m0 := (blk_cell hb 0).trans (show _ = some (Value.bool true) from rfl)
  clear hb
  go_enter Try.func23, Try.ntmps23
  go_wp2
  go_ret
  exact ⟨rfl, by repeat (first | exact Drawn0.refl _ | apply Drawn0.step)⟩
def fstI (srv : Bool) : Int := if srv = true then 4278190080 else 1
theorem first_c (g a b : Nat) (s : TSt) (w : World) (hb : w.heap[g]? = some (.cells #[.bool true, .bool s.srv, .map (some a), .map (some b), .int .u64 s.lar] 52 (0, 0))) : Calls Try.prog 24 #[.pointer (some ⟨g, 0, none⟩)] w fun e w' => e = .returned (.int .u32 (fstI s.srv)) ∧ Drawn0 w w' := by
  have m1 := (blk_cell hb 1).trans (show _ = some (Value.bool s.srv) from rfl)
  clear hb
  obtain ⟨srv, live, rel, lar⟩ := s
  cases srv
  · have E := Aside0.mk (show fstI false = 1 from rfl)
    go_enter Try.func24, Try.ntmps24
    go_wp2
    try rw [Exit.noGoto_ret]
    go_ret
    exact ⟨by rw [E.out]; rfl, by repeat (first | exact Drawn0.refl _ | apply Drawn0.step)⟩
  · have E := Aside0.mk (show fstI true = 4278190080 from rfl)
    go_enter Try.func24, Try.ntmps24
    go_wp2
    try rw [Exit.noGoto_ret]
    go_ret
    exact ⟨by rw [E.out]; rfl, by repeat (first | exact Drawn0.refl _ | apply Drawn0.step)⟩
theorem zero4 (w : World) : (zeroValue 4).run Try.prog w = .ok (.bool false) w := by kernel_rfl
theorem wf32 {k : Int} (h0 : 0 ≤ k) (h1 : k < 4294967296) : (Lit.int .u32 k).wf = true := by
  simp [Lit.wf, IntKind.min, IntKind.max, IntKind.signed, IntKind.bits]
  omega
def mxI (a b : Int) : Int := if b < a then a else b
/-- What take leaves. -/
def used (s : TSt) (id : Int) : TSt := ⟨s.srv, addS s.live id, s.rel, mxI s.lar id⟩
theorem take_in {w0 w : World} {R : Res} (g a b : Nat) (s : TSt) (id : Int) (hs : SL w0 w [tabC g a b s, R, setI a s.live, setI b s.rel]) (h0 : 0 ≤ id) (h1 : id < 4294967296) (hl : s.live.length ≤ 100000) (l0 : 0 ≤ s.lar) (l1 : s.lar < 18446744073709551615) :
    Calls Try.prog 25 #[.pointer (some ⟨g, 0, none⟩), .int .u32 id] w fun e w' => e = .returned (.tuple #[]) ∧ SL w0 w' [tabC g a b (used s id), R, setI a (addS s.live id), setI b s.rel] := by
  have HS := Aside0.mk hs
  have HW := Aside0.mk (wf32 h0 h1)
  have HL := Aside0.mk (show s.live.length < maxLen by unfold maxLen; omega)
  have hm2 := c_at HS.out 0 rfl 2 rfl
  have hm4 := c_at HS.out 0 rfl 4 rfl
  have hf4 := f_at HS.out 0 rfl 4
  clear hs hl
  go_enter Try.func25, Try.ntmps25
  go_wp2_with (first | (at_mapUpdate; refine sl_mput (q := .u32) HS.out 2 (by rfl) rfl _ _ _ rfl Try.underlying24 Try.underlying49 Try.underlying4 rfl id rfl rfl HW.out HL.out ?_; intro w1 hs; replace HS := Aside0.mk hs; clear hs hm2 hm4 hf4; have hm4 := c_at HS.out 0 rfl 4 rfl; have hf4 := f_at HS.out 0 rfl 4; have hlt := blk_lt (sl_blk HS.out 0 rfl)))
  all_goals
    go_end0
    refine ⟨rfl, ?_⟩
  · have e : mxI s.lar id = id := by unfold mxI; split <;> omega
    have h2 := sl_put HS.out 0 rfl 4 (.int .u64 (mxI s.lar id))
    rw [e] at h2
    show SL w0 _ [cellsR g 52 #[.bool true, .bool s.srv, .map (some a), .map (some b), .int .u64 (mxI s.lar id)], R, setI a (addS s.live id), setI b s.rel]
    rw [e]
    exact h2
  · have e : mxI s.lar id = s.lar := by unfold mxI; split <;> omega
    have h2 := sl_put HS.out 0 rfl 4 (.int .u64 s.lar)
    show SL w0 _ [cellsR g 52 #[.bool true, .bool s.srv, .map (some a), .map (some b), .int .u64 (mxI s.lar id)], R, setI a (addS s.live id), setI b s.rel]
    rw [e]
    exact h2
/-- The states that come up. -/
structure TOk (s : TSt) : Prop where
  ll : s.live.length ≤ 256
  rl : s.rel.length ≤ 100000
  l0 : 0 ≤ s.lar
  l1 : s.lar < 4294967296
def takeE (s : TSt) (id : Int) : Int := if id = 0 ∨ s.srv ≠ decide (4278190080 ≤ id) then 6 else if id ∈ s.live ∨ id ∈ s.rel then 7 else if 256 ≤ s.live.length then 5 else if s.lar + 1 < id then 2 else 0
def takeS (s : TSt) (id : Int) : TSt := if takeE s id = 0 then used s id else s
def relE (s : TSt) (id : Int) : Int := if id ∈ s.live then 0 else 8
def relS (s : TSt) (id : Int) : TSt := if id ∈ s.live then ⟨s.srv, delS s.live id, addS s.rel id, s.lar⟩ else s
def conE (s : TSt) (id : Int) : Int := if id ∈ s.rel then 0 else 8
def conS (s : TSt) (id : Int) : TSt := if id ∈ s.rel then ⟨s.srv, s.live, delS s.rel id, s.lar⟩ else s
section
variable {w0 w : World} {R : Res}
theorem Count_in (g : Nat) (s : TSt) (hs : SL w0 w [tabR g s, R]) : Calls Try.prog 11 #[.pointer (some ⟨g, 0, none⟩)] w fun e w' => e = .returned (.int .i64 (s.live.length : Int)) ∧ SL w0 w' [tabR g s, R] := by
  have H := Aside0.mk hs
  obtain ⟨a, b, h1⟩ := tab_open hs
  have HS := Aside0.mk h1
  have hm2 := c_at HS.out 0 rfl 2 rfl
  clear hs h1
  go_enter Try.func11, Try.ntmps11
  go_wp2_with (first | (go_at_call 23; refine (usable_c g a b s _ (sl_blk HS.out 0 rfl)).mono ?_; rintro e w1 ⟨rfl, ⟨nd, rfl⟩⟩) | (at_len; refine sl_mlen (q := .u32) (sl_drewN HS.out nd) 2 (by rfl) rfl _ rfl Try.underlying49 rfl ?_))
  go_ret
  exact ⟨rfl, sl_drewN H.out nd⟩
theorem Live_in (g : Nat) (s : TSt) (id : Int) (hs : SL w0 w [tabR g s, R]) (h0 : 0 ≤ id) (h1 : id < 4294967296) : Calls Try.prog 19 #[.pointer (some ⟨g, 0, none⟩), .int .u32 id] w fun e w' => e = .returned (.bool (decide (id ∈ s.live))) ∧ SL w0 w' [tabR g s, R] := by
  have H := Aside0.mk hs
  obtain ⟨a, b, h2⟩ := tab_open hs
  have HS := Aside0.mk h2
  have hm2 := c_at HS.out 0 rfl 2 rfl
  have HW := Aside0.mk (wf32 h0 h1)
  clear hs h2
  go_enter Try.func19, Try.ntmps19
  go_wp2_with (first | (go_at_call 23; refine (usable_c g a b s _ (sl_blk HS.out 0 rfl)).mono ?_; rintro e w1 ⟨rfl, ⟨nd, rfl⟩⟩) | (at_lookup; (try (refine gate_guard (by rfl) ?_; dsimp only)); refine sl_look (q := .u32) (sl_drewN HS.out nd) 2 (by rfl) rfl _ _ rfl Try.underlying24 Try.underlying49 Try.underlying4 zero4 rfl id rfl HW.out ?_))
  go_ret
  exact ⟨rfl, sl_drewN H.out nd⟩
theorem Release_in (g : Nat) (s : TSt) (id : Int) (hs : SL w0 w [tabR g s, R]) (h0 : 0 ≤ id) (h1 : id < 4294967296) (ho : TOk s) : Calls Try.prog 12 #[.pointer (some ⟨g, 0, none⟩), .int .u32 id] w fun e w' => e = .returned (.int .i64 (relE s id)) ∧ SL w0 w' [tabR g (relS s id), R] := by
  have H := Aside0.mk hs
  obtain ⟨a, b, h2⟩ := tab_open hs
  have HS := Aside0.mk h2
  have hm2 := c_at HS.out 0 rfl 2 rfl
  have hm3 := c_at HS.out 0 rfl 3 rfl
  have HW := Aside0.mk (wf32 h0 h1)
  have HL := Aside0.mk (show s.rel.length < maxLen by have := ho.rl; unfold maxLen; omega)
  clear hs h2
  by_cases hin : id ∈ s.live
  · have b1 : decide (id ∈ s.live) = true := decide_eq_true hin
    have HE := Aside0.mk (show relE s id = 0 ∧ relS s id = ⟨s.srv, delS s.live id, addS s.rel id, s.lar⟩ from ⟨if_pos hin, if_pos hin⟩)
    clear hin
    go_enter Try.func12, Try.ntmps12
    go_wp2_with (first | (go_at_call 23; refine (usable_c g a b s _ (sl_blk HS.out 0 rfl)).mono ?_; rintro e w1 ⟨rfl, ⟨nd, rfl⟩⟩) | (at_lookup; refine sl_look (q := .u32) (sl_drewN HS.out nd) 2 (by rfl) rfl _ _ rfl Try.underlying24 Try.underlying49 Try.underlying4 zero4 rfl id rfl HW.out ?_) | (at_delete; refine sl_mdel (q := .u32) (sl_drewN HS.out nd) 2 (by rfl) rfl _ _ rfl Try.underlying24 Try.underlying49 rfl id rfl HW.out ?_; intro w1 hs; replace HS := Aside0.mk hs; clear hs hm2 hm3; have hm3 := c_at HS.out 0 rfl 3 rfl) | (at_mapUpdate; refine sl_mput (q := .u32) HS.out 3 (by rfl) rfl _ _ _ rfl Try.underlying24 Try.underlying49 Try.underlying4 rfl id rfl rfl HW.out HL.out ?_; intro w2 hs; replace HS := Aside0.mk hs; clear hs))
    try rw [Exit.noGoto_ret]
    go_ret
    rw [HE.out.1, HE.out.2]
    exact ⟨rfl, tab_close ⟨s.srv, delS s.live id, addS s.rel id, s.lar⟩ HS.out⟩
  · have b1 : decide (id ∈ s.live) = false := decide_eq_false hin
    have HE := Aside0.mk (show relE s id = 8 ∧ relS s id = s from ⟨if_neg hin, if_neg hin⟩)
    clear hin
    go_enter Try.func12, Try.ntmps12
    go_wp2_with (first | (go_at_call 23; refine (usable_c g a b s _ (sl_blk HS.out 0 rfl)).mono ?_; rintro e w1 ⟨rfl, ⟨nd, rfl⟩⟩) | (at_lookup; refine sl_look (q := .u32) (sl_drewN HS.out nd) 2 (by rfl) rfl _ _ rfl Try.underlying24 Try.underlying49 Try.underlying4 zero4 rfl id rfl HW.out ?_))
    try rw [Exit.noGoto_ret]
    go_ret
    rw [HE.out.1, HE.out.2]
    exact ⟨rfl, sl_drewN H.out nd⟩
theorem Confirm_in (g : Nat) (s : TSt) (id : Int) (hs : SL w0 w [tabR g s, R]) (h0 : 0 ≤ id) (h1 : id < 4294967296) : Calls Try.prog 13 #[.pointer (some ⟨g, 0, none⟩), .int .u32 id] w fun e w' => e = .returned (.int .i64 (conE s id)) ∧ SL w0 w' [tabR g (conS s id), R] := by
  have H := Aside0.mk hs
  obtain ⟨a, b, h2⟩ := tab_open hs
  have HS := Aside0.mk h2
  have hm3 := c_at HS.out 0 rfl 3 rfl
  have HW := Aside0.mk (wf32 h0 h1)
  clear hs h2
  by_cases hin : id ∈ s.rel
  · have b1 : decide (id ∈ s.rel) = true := decide_eq_true hin
    have HE := Aside0.mk (show conE s id = 0 ∧ conS s id = ⟨s.srv, s.live, delS s.rel id, s.lar⟩ from ⟨if_pos hin, if_pos hin⟩)
    clear hin
    go_enter Try.func13, Try.ntmps13
    go_wp2_with (first | (go_at_call 23; refine (usable_c g a b s _ (sl_blk HS.out 0 rfl)).mono ?_; rintro e w1 ⟨rfl, ⟨nd, rfl⟩⟩) | (at_lookup; refine sl_look (q := .u32) (sl_drewN HS.out nd) 3 (by rfl) rfl _ _ rfl Try.underlying24 Try.underlying49 Try.underlying4 zero4 rfl id rfl HW.out ?_) | (at_delete; refine sl_mdel (q := .u32) (sl_drewN HS.out nd) 3 (by rfl) rfl _ _ rfl Try.underlying24 Try.underlying49 rfl id rfl HW.out ?_; intro w1 hs; replace HS := Aside0.mk hs; clear hs hm3))
    try rw [Exit.noGoto_ret]
    go_ret
    rw [HE.out.1, HE.out.2]
    exact ⟨rfl, tab_close ⟨s.srv, s.live, delS s.rel id, s.lar⟩ HS.out⟩
  · have b1 : decide (id ∈ s.rel) = false := decide_eq_false hin
    have HE := Aside0.mk (show conE s id = 8 ∧ conS s id = s from ⟨if_neg hin, if_neg hin⟩)
    clear hin
    go_enter Try.func13, Try.ntmps13
    go_wp2_with (first | (go_at_call 23; refine (usable_c g a b s _ (sl_blk HS.out 0 rfl)).mono ?_; rintro e w1 ⟨rfl, ⟨nd, rfl⟩⟩) | (at_lookup; refine sl_look (q := .u32) (sl_drewN HS.out nd) 3 (by rfl) rfl _ _ rfl Try.underlying24 Try.underlying49 Try.underlying4 zero4 rfl id rfl HW.out ?_))
    try rw [Exit.noGoto_ret]
    go_ret
    rw [HE.out.1, HE.out.2]
    exact ⟨rfl, sl_drewN H.out nd⟩
end
section
variable {w0 w : World} {R : Res}
set_option maxHeartbeats 2000000 in
theorem Take_in (g : Nat) (s : TSt) (id : Int) (hs : SL w0 w [tabR g s, R]) (h0 : 0 ≤ id) (h1 : id < 4294967296) (ho : TOk s) : Calls Try.prog 10 #[.pointer (some ⟨g, 0, none⟩), .int .u32 id] w fun e w' => e = .returned (.int .i64 (takeE s id)) ∧ SL w0 w' [tabR g (takeS s id), R] := by
  have H := Aside0.mk hs
  obtain ⟨a, b, h2⟩ := tab_open hs
  have HS := Aside0.mk h2
  have hm1 := c_at HS.out 0 rfl 1 rfl
  have hm2 := c_at HS.out 0 rfl 2 rfl
  have hm3 := c_at HS.out 0 rfl 3 rfl
  have hm4 := c_at HS.out 0 rfl 4 rfl
  have HW := Aside0.mk (wf32 h0 h1)
  have l0 := ho.l0
  have l1 := ho.l1
  have HT := Aside0.mk (show ∀ {w' : World}, SL w0 w' [tabC g a b s, R, setI a s.live, setI b s.rel] → Calls Try.prog 25 #[.pointer (some ⟨g, 0, none⟩), .int .u32 id] w' fun e w'' => e = .returned (.tuple #[]) ∧ SL w0 w'' [tabC g a b (used s id), R, setI a (addS s.live id), setI b s.rel] from fun h => take_in g a b s id h h0 h1 (by have := ho.ll; omega) l0 (by omega))
  clear hs h2 ho
  obtain ⟨sv, hsv⟩ : ∃ sv, s.srv = sv := ⟨_, rfl⟩
  rw [hsv] at hm1
  obtain ⟨q, hq⟩ : ∃ q, decide (4278190080 ≤ id) = q := ⟨_, rfl⟩
  by_cases c0 : id = 0
  · have z : (id == 0) = true := beq_iff_eq.2 c0
    have HE := Aside0.mk (show takeE s id = 6 ∧ takeS s id = s by have : takeE s id = 6 := if_pos (.inl c0); exact ⟨this, by unfold takeS; rw [this]; rfl⟩)
    clear c0
    go_enter Try.func10, Try.ntmps10
    go_wp2_with (first
    | (go_at_call 23; refine (usable_c g a b s _ (sl_blk HS.out 0 rfl)).mono ?_; rintro e w1 ⟨rfl, ⟨nd, rfl⟩⟩)
    | (at_lookup; (try (refine gate_guard (by rfl) ?_; dsimp only)); refine sl_look (q := .u32) (sl_drewN HS.out nd) 2 (by rfl) rfl _ _ rfl Try.underlying24 Try.underlying49 Try.underlying4 zero4 rfl id rfl HW.out ?_)
    | (at_lookup; (try (refine gate_guard (by rfl) ?_; dsimp only)); refine sl_look (q := .u32) (sl_drewN HS.out nd) 3 (by rfl) rfl _ _ rfl Try.underlying24 Try.underlying49 Try.underlying4 zero4 rfl id rfl HW.out ?_)
    | (at_len; (try (refine gate_guard (by rfl) ?_; dsimp only)); refine sl_mlen (q := .u32) (sl_drewN HS.out nd) 2 (by rfl) rfl _ rfl Try.underlying49 rfl ?_)
    | (go_at_call 25; refine (HT.out (sl_drewN HS.out nd)).mono ?_; rintro e w2 ⟨rfl, hs⟩; replace HS := Aside0.mk hs; clear hs))
    try rw [Exit.noGoto_ret]
    go_ret
    rw [HE.out.1, HE.out.2]
    exact ⟨rfl, sl_drewN H.out nd⟩
  have z : (id == 0) = false := beq_eq_false_iff_ne.2 c0
  by_cases c1 : sv = q
  rotate_left
  · have z1 : (sv != q) = true := bne_iff_ne.2 c1
    have z2 : (sv == q) = false := beq_eq_false_iff_ne.2 c1
    have HE := Aside0.mk (show takeE s id = 6 ∧ takeS s id = s by have : takeE s id = 6 := if_pos (.inr (by rw [hsv, hq]; exact c1)); exact ⟨this, by unfold takeS; rw [this]; rfl⟩)
    clear c0 c1
    go_enter Try.func10, Try.ntmps10
    go_wp2_with (first
    | (go_at_call 23; refine (usable_c g a b s _ (sl_blk HS.out 0 rfl)).mono ?_; rintro e w1 ⟨rfl, ⟨nd, rfl⟩⟩)
    | (at_lookup; (try (refine gate_guard (by rfl) ?_; dsimp only)); refine sl_look (q := .u32) (sl_drewN HS.out nd) 2 (by rfl) rfl _ _ rfl Try.underlying24 Try.underlying49 Try.underlying4 zero4 rfl id rfl HW.out ?_)
    | (at_lookup; (try (refine gate_guard (by rfl) ?_; dsimp only)); refine sl_look (q := .u32) (sl_drewN HS.out nd) 3 (by rfl) rfl _ _ rfl Try.underlying24 Try.underlying49 Try.underlying4 zero4 rfl id rfl HW.out ?_)
    | (at_len; (try (refine gate_guard (by rfl) ?_; dsimp only)); refine sl_mlen (q := .u32) (sl_drewN HS.out nd) 2 (by rfl) rfl _ rfl Try.underlying49 rfl ?_)
    | (go_at_call 25; refine (HT.out (sl_drewN HS.out nd)).mono ?_; rintro e w2 ⟨rfl, hs⟩; replace HS := Aside0.mk hs; clear hs))
    try rw [Exit.noGoto_ret]
    go_ret
    rw [HE.out.1, HE.out.2]
    exact ⟨rfl, sl_drewN H.out nd⟩
  have z1 : (sv != q) = false := bne_eq_false_iff_eq.2 c1
  have z2 : (sv == q) = true := beq_iff_eq.2 c1
  have hE1 : takeE s id = if id ∈ s.live ∨ id ∈ s.rel then 7 else if 256 ≤ s.live.length then 5 else if s.lar + 1 < id then 2 else 0 := if_neg (by rw [hsv, hq]; intro h; exact h.elim c0 (fun h => h c1))
  by_cases c2 : id ∈ s.live
  · have b1 : decide (id ∈ s.live) = true := decide_eq_true c2
    have HE := Aside0.mk (show takeE s id = 7 ∧ takeS s id = s by have : takeE s id = 7 := by rw [hE1, if_pos (.inl c2)]
                                                                  exact ⟨this, by unfold takeS; rw [this]; rfl⟩)
    clear c0 c1 c2 hE1
    go_enter Try.func10, Try.ntmps10
    go_wp2_with (first
    | (go_at_call 23; refine (usable_c g a b s _ (sl_blk HS.out 0 rfl)).mono ?_; rintro e w1 ⟨rfl, ⟨nd, rfl⟩⟩)
    | (at_lookup; (try (refine gate_guard (by rfl) ?_; dsimp only)); refine sl_look (q := .u32) (sl_drewN HS.out nd) 2 (by rfl) rfl _ _ rfl Try.underlying24 Try.underlying49 Try.underlying4 zero4 rfl id rfl HW.out ?_)
    | (at_lookup; (try (refine gate_guard (by rfl) ?_; dsimp only)); refine sl_look (q := .u32) (sl_drewN HS.out nd) 3 (by rfl) rfl _ _ rfl Try.underlying24 Try.underlying49 Try.underlying4 zero4 rfl id rfl HW.out ?_)
    | (at_len; (try (refine gate_guard (by rfl) ?_; dsimp only)); refine sl_mlen (q := .u32) (sl_drewN HS.out nd) 2 (by rfl) rfl _ rfl Try.underlying49 rfl ?_)
    | (go_at_call 25; refine (HT.out (sl_drewN HS.out nd)).mono ?_; rintro e w2 ⟨rfl, hs⟩; replace HS := Aside0.mk hs; clear hs))
    try rw [Exit.noGoto_ret]
    go_ret
    rw [HE.out.1, HE.out.2]
    exact ⟨rfl, sl_drewN H.out nd⟩
  have b1 : decide (id ∈ s.live) = false := decide_eq_false c2
  by_cases c3 : id ∈ s.rel
  · have b2 : decide (id ∈ s.rel) = true := decide_eq_true c3
    have HE := Aside0.mk (show takeE s id = 7 ∧ takeS s id = s by have : takeE s id = 7 := by rw [hE1, if_pos (.inr c3)]
                                                                  exact ⟨this, by unfold takeS; rw [this]; rfl⟩)
    clear c0 c1 c2 c3 hE1
    go_enter Try.func10, Try.ntmps10
    go_wp2_with (first
    | (go_at_call 23; refine (usable_c g a b s _ (sl_blk HS.out 0 rfl)).mono ?_; rintro e w1 ⟨rfl, ⟨nd, rfl⟩⟩)
    | (at_lookup; (try (refine gate_guard (by rfl) ?_; dsimp only)); refine sl_look (q := .u32) (sl_drewN HS.out nd) 2 (by rfl) rfl _ _ rfl Try.underlying24 Try.underlying49 Try.underlying4 zero4 rfl id rfl HW.out ?_)
    | (at_lookup; (try (refine gate_guard (by rfl) ?_; dsimp only)); refine sl_look (q := .u32) (sl_drewN HS.out nd) 3 (by rfl) rfl _ _ rfl Try.underlying24 Try.underlying49 Try.underlying4 zero4 rfl id rfl HW.out ?_)
    | (at_len; (try (refine gate_guard (by rfl) ?_; dsimp only)); refine sl_mlen (q := .u32) (sl_drewN HS.out nd) 2 (by rfl) rfl _ rfl Try.underlying49 rfl ?_)
    | (go_at_call 25; refine (HT.out (sl_drewN HS.out nd)).mono ?_; rintro e w2 ⟨rfl, hs⟩; replace HS := Aside0.mk hs; clear hs))
    try rw [Exit.noGoto_ret]
    go_ret
    rw [HE.out.1, HE.out.2]
    exact ⟨rfl, sl_drewN H.out nd⟩
  have b2 : decide (id ∈ s.rel) = false := decide_eq_false c3
  rw [if_neg (fun h => h.elim c2 c3)] at hE1
  by_cases c4 : 256 ≤ s.live.length
  · have d1 : decide ((256 : Int) ≤ (s.live.length : Int)) = true := decide_eq_true (by omega)
    have HE := Aside0.mk (show takeE s id = 5 ∧ takeS s id = s by have : takeE s id = 5 := by rw [hE1, if_pos c4]
                                                                  exact ⟨this, by unfold takeS; rw [this]; rfl⟩)
    clear c0 c1 c2 c3 c4 hE1
    go_enter Try.func10, Try.ntmps10
    go_wp2_with (first
    | (go_at_call 23; refine (usable_c g a b s _ (sl_blk HS.out 0 rfl)).mono ?_; rintro e w1 ⟨rfl, ⟨nd, rfl⟩⟩)
    | (at_lookup; (try (refine gate_guard (by rfl) ?_; dsimp only)); refine sl_look (q := .u32) (sl_drewN HS.out nd) 2 (by rfl) rfl _ _ rfl Try.underlying24 Try.underlying49 Try.underlying4 zero4 rfl id rfl HW.out ?_)
    | (at_lookup; (try (refine gate_guard (by rfl) ?_; dsimp only)); refine sl_look (q := .u32) (sl_drewN HS.out nd) 3 (by rfl) rfl _ _ rfl Try.underlying24 Try.underlying49 Try.underlying4 zero4 rfl id rfl HW.out ?_)
    | (at_len; (try (refine gate_guard (by rfl) ?_; dsimp only)); refine sl_mlen (q := .u32) (sl_drewN HS.out nd) 2 (by rfl) rfl _ rfl Try.underlying49 rfl ?_)
    | (go_at_call 25; refine (HT.out (sl_drewN HS.out nd)).mono ?_; rintro e w2 ⟨rfl, hs⟩; replace HS := Aside0.mk hs; clear hs))
    try rw [Exit.noGoto_ret]
    go_ret
    rw [HE.out.1, HE.out.2]
    exact ⟨rfl, sl_drewN H.out nd⟩
  have d1 : decide ((256 : Int) ≤ (s.live.length : Int)) = false := decide_eq_false (by omega)
  rw [if_neg c4] at hE1
  by_cases c5 : s.lar + 1 < id
  · have d2 : decide (s.lar + 1 < id) = true := decide_eq_true c5
    have HE := Aside0.mk (show takeE s id = 2 ∧ takeS s id = s by have : takeE s id = 2 := by rw [hE1, if_pos c5]
                                                                  exact ⟨this, by unfold takeS; rw [this]; rfl⟩)
    clear c0 c1 c2 c3 c4 c5 hE1
    go_enter Try.func10, Try.ntmps10
    go_wp2_with (first
    | (go_at_call 23; refine (usable_c g a b s _ (sl_blk HS.out 0 rfl)).mono ?_; rintro e w1 ⟨rfl, ⟨nd, rfl⟩⟩)
    | (at_lookup; (try (refine gate_guard (by rfl) ?_; dsimp only)); refine sl_look (q := .u32) (sl_drewN HS.out nd) 2 (by rfl) rfl _ _ rfl Try.underlying24 Try.underlying49 Try.underlying4 zero4 rfl id rfl HW.out ?_)
    | (at_lookup; (try (refine gate_guard (by rfl) ?_; dsimp only)); refine sl_look (q := .u32) (sl_drewN HS.out nd) 3 (by rfl) rfl _ _ rfl Try.underlying24 Try.underlying49 Try.underlying4 zero4 rfl id rfl HW.out ?_)
    | (at_len; (try (refine gate_guard (by rfl) ?_; dsimp only)); refine sl_mlen (q := .u32) (sl_drewN HS.out nd) 2 (by rfl) rfl _ rfl Try.underlying49 rfl ?_)
    | (go_at_call 25; refine (HT.out (sl_drewN HS.out nd)).mono ?_; rintro e w2 ⟨rfl, hs⟩; replace HS := Aside0.mk hs; clear hs))
    try rw [Exit.noGoto_ret]
    go_ret
    rw [HE.out.1, HE.out.2]
    exact ⟨rfl, sl_drewN H.out nd⟩
  have d2 : decide (s.lar + 1 < id) = false := decide_eq_false c5
  rw [if_neg c5] at hE1
  have HE := Aside0.mk (show takeE s id = 0 ∧ takeS s id = used s id from ⟨hE1, if_pos hE1⟩)
  clear c0 c1 c2 c3 c4 c5 hE1
  go_enter Try.func10, Try.ntmps10
  go_wp2_with (first
    | (go_at_call 23; refine (usable_c g a b s _ (sl_blk HS.out 0 rfl)).mono ?_; rintro e w1 ⟨rfl, ⟨nd, rfl⟩⟩)
    | (at_lookup; (try (refine gate_guard (by rfl) ?_; dsimp only)); refine sl_look (q := .u32) (sl_drewN HS.out nd) 2 (by rfl) rfl _ _ rfl Try.underlying24 Try.underlying49 Try.underlying4 zero4 rfl id rfl HW.out ?_)
    | (at_lookup; (try (refine gate_guard (by rfl) ?_; dsimp only)); refine sl_look (q := .u32) (sl_drewN HS.out nd) 3 (by rfl) rfl _ _ rfl Try.underlying24 Try.underlying49 Try.underlying4 zero4 rfl id rfl HW.out ?_)
    | (at_len; (try (refine gate_guard (by rfl) ?_; dsimp only)); refine sl_mlen (q := .u32) (sl_drewN HS.out nd) 2 (by rfl) rfl _ rfl Try.underlying49 rfl ?_)
    | (go_at_call 25; refine (HT.out (sl_drewN HS.out nd)).mono ?_; rintro e w2 ⟨rfl, hs⟩; replace HS := Aside0.mk hs; clear hs))
  try rw [Exit.noGoto_ret]
  go_ret
  rw [HE.out.1, HE.out.2]
  exact ⟨rfl, tab_close (used s id) HS.out⟩
end
/-- f, f + 1, .. f + n - 1 are in the list, f + n is not. -/
def IsGap (xs : List Int) (f : Int) (n : Nat) : Prop := (∀ j : Nat, j < n → f + (j : Int) ∈ xs) ∧ f + (n : Int) ∉ xs
theorem run_le : ∀ (n : Nat) (xs : List Int) (f : Int), (∀ j : Nat, j < n → f + (j : Int) ∈ xs) → n ≤ xs.length
  | 0, _, _, _ => Nat.zero_le _
  | n + 1, xs, f, h => by
    have hm := h n (Nat.lt_succ_self n)
    have h2 := run_le n (xs.erase (f + (n : Int))) f fun j hj => by
      have hne : f + (j : Int) ≠ f + (n : Int) := by omega
      exact (List.mem_erase_of_ne hne).2 (h j (by omega))
    rw [List.length_erase_of_mem hm] at h2
    have := List.length_pos_of_mem hm
    omega
theorem gap_one {xs : List Int} {f : Int} {n m : Nat} (h : IsGap xs f n) (k : IsGap xs f m) : n = m := by
  rcases Nat.lt_trichotomy n m with h1 | h1 | h1
  · exact absurd (k.1 n h1) h.2
  · exact h1
  · exact absurd (h.1 m h1) k.2
def gapF (xs : List Int) (f : Int) : Nat → Nat → Nat
  | 0, n => n
  | k + 1, n => if f + (n : Int) ∈ xs then gapF xs f k (n + 1) else n
theorem gapF_is (xs : List Int) (f : Int) : ∀ (k n : Nat), n + k = xs.length → (∀ j : Nat, j < n → f + (j : Int) ∈ xs) → IsGap xs f (gapF xs f k n)
  | 0, n, hn, h => by
    refine ⟨h, fun hm => ?_⟩
    have := run_le (n + 1) xs f fun j hj => by
      by_cases h1 : j < n
      · exact h j h1
      · obtain rfl : j = n := by omega
        exact hm
    omega
  | k + 1, n, hn, h => by
    unfold gapF
    split
    · rename_i hm
      exact gapF_is xs f k (n + 1) (by omega) fun j hj => by
        by_cases h1 : j < n
        · exact h j h1
        · obtain rfl : j = n := by omega
          exact hm
    · rename_i hm
      exact ⟨h, hm⟩
/-- How many numbers from the first one on are not free. -/
def gapI (s : TSt) : Nat := gapF (s.live ++ s.rel) (fstI s.srv) (s.live ++ s.rel).length 0
theorem gapI_is (s : TSt) : IsGap (s.live ++ s.rel) (fstI s.srv) (gapI s) := gapF_is _ _ _ 0 (by omega) fun j hj => by omega
theorem gapI_le (s : TSt) : gapI s ≤ s.live.length + s.rel.length := by
  have := run_le (gapI s) _ _ (gapI_is s).1
  rw [List.length_append] at this
  exact this
def nxtI (s : TSt) : Int := fstI s.srv + (gapI s : Int)
def allV (s : TSt) : Int := if 256 ≤ s.live.length then 0 else nxtI s
def allE (s : TSt) : Int := if 256 ≤ s.live.length then 5 else 0
def allS (s : TSt) : TSt := if 256 ≤ s.live.length then s else used s (nxtI s)
theorem fst_range (b : Bool) : 1 ≤ fstI b ∧ fstI b ≤ 4278190080 := by unfold fstI; split <;> omega
theorem nxt_range {s : TSt} (ho : TOk s) : 1 ≤ nxtI s ∧ nxtI s < 4294967296 := by
  have h1 := fst_range s.srv
  have h2 := gapI_le s
  have h3 := ho.ll
  have h4 := ho.rl
  unfold nxtI
  omega
section
variable {w0 w : World} {R : Res}
set_option maxHeartbeats 2000000 in
theorem Alloc_in (g : Nat) (s : TSt) (hs : SL w0 w [tabR g s, R]) (ho : TOk s) : Calls Try.prog 9 #[.pointer (some ⟨g, 0, none⟩)] w fun e w' => e = .returned (.tuple #[.int .u32 (allV s), .int .i64 (allE s)]) ∧ SL w0 w' [tabR g (allS s), R] := by
  have H := Aside0.mk hs
  obtain ⟨a, b, h2⟩ := tab_open hs
  have HS := Aside0.mk h2
  have hm2 := c_at HS.out 0 rfl 2 rfl
  clear hs h2
  by_cases c4 : 256 ≤ s.live.length
  · have d1 : decide ((256 : Int) ≤ (s.live.length : Int)) = true := decide_eq_true (by omega)
    have HE := Aside0.mk (show allV s = 0 ∧ allE s = 5 ∧ allS s = s from ⟨if_pos c4, if_pos c4, if_pos c4⟩)
    clear c4
    go_enter Try.func9, Try.ntmps9
    go_wp2_with (first
    | (go_at_call 23; refine (usable_c g a b s _ (sl_blk HS.out 0 rfl)).mono ?_; rintro e w1 ⟨rfl, ⟨nd, rfl⟩⟩)
    | (at_len; (try (refine gate_guard (by rfl) ?_; dsimp only)); refine sl_mlen (q := .u32) (sl_drewN HS.out nd) 2 (by rfl) rfl _ rfl Try.underlying49 rfl ?_)
    | (go_at_call 24; refine (first_c g a b s _ (sl_blk (sl_drewN HS.out nd) 0 rfl)).mono ?_; rintro e w2 ⟨rfl, ⟨nd2, rfl⟩⟩))
    try rw [Exit.noGoto_ret]
    go_ret2
    rw [HE.out.1, HE.out.2.1, HE.out.2.2]
    exact ⟨rfl, sl_drewN H.out nd⟩
  have d1 : decide ((256 : Int) ≤ (s.live.length : Int)) = false := decide_eq_false (by omega)
  have HE := Aside0.mk (show allV s = nxtI s ∧ allE s = 0 ∧ allS s = used s (nxtI s) from ⟨if_neg c4, if_neg c4, if_neg c4⟩)
  have HO := Aside0.mk ho
  have HG := Aside0.mk (gapI_is s)
  have hr := nxt_range ho
  have hf := fst_range s.srv
  have hgl := gapI_le s
  have hll := ho.ll
  have hrl := ho.rl
  have HT := Aside0.mk (show ∀ {w' : World}, SL w0 w' [tabC g a b s, R, setI a s.live, setI b s.rel] → Calls Try.prog 25 #[.pointer (some ⟨g, 0, none⟩), .int .u32 (nxtI s)] w' fun e w'' => e = .returned (.tuple #[]) ∧ SL w0 w'' [tabC g a b (used s (nxtI s)), R, setI a (addS s.live (nxtI s)), setI b s.rel] from fun h => take_in g a b s (nxtI s) h (by omega) (by omega) (by omega) ho.l0 (by have := ho.l1; omega))
  clear c4 ho
  go_enter Try.func9, Try.ntmps9
  go_wp2_with (first
    | (go_at_call 23; refine (usable_c g a b s _ (sl_blk HS.out 0 rfl)).mono ?_; rintro e w1 ⟨rfl, ⟨nd, rfl⟩⟩)
    | (at_len; (try (refine gate_guard (by rfl) ?_; dsimp only)); refine sl_mlen (q := .u32) (sl_drewN HS.out nd) 2 (by rfl) rfl _ rfl Try.underlying49 rfl ?_)
    | (go_at_call 24; refine (first_c g a b s _ (sl_blk (sl_drewN HS.out nd) 0 rfl)).mono ?_; rintro e w2 ⟨rfl, ⟨nd2, rfl⟩⟩))
  obtain ⟨f, hfs⟩ : ∃ f, fstI s.srv = f := ⟨_, rfl⟩
  have hN : nxtI s = f + (gapI s : Int) := by unfold nxtI; rw [hfs]
  rw [hfs] at hf HG ⊢
  rw [hN] at HT HE hr
  have HSS : Aside0 (SL w0 _ [tabC g a b s, R, setI a s.live, setI b s.rel]) := ⟨sl_drewN HS.out (nd + nd2)⟩
  clear hfs hN HS hm2
  go_loopg [4] (gapI s) (fun kq v4 wr => ∃ n : Nat, v4 = .int .u32 (f + (n : Int)) ∧ Aside0 (n + kq = gapI s) ∧ Aside0 (SL w0 wr [tabC g a b s, R, setI a s.live, setI b s.rel]))
  case atStart => exact ⟨0, by simp, ⟨by omega⟩, HSS⟩
  case round =>
    clear HSS
    obtain ⟨n, rfl, HI, HS⟩ := hrel
    have hi := HI.out
    have hm2 := c_at HS.out 0 rfl 2 rfl
    have hm3 := c_at HS.out 0 rfl 3 rfl
    have p1 : 0 ≤ f + (n : Int) := by omega
    have p2 : f + (n : Int) < 4294967296 := by omega
    have HW := Aside0.mk (wf32 p1 p2)
    by_cases hlt : n < gapI s
    · have hin := HG.out.1 n hlt
      rw [List.mem_append] at hin
      obtain ⟨kq, rfl⟩ : ∃ m, gk = m + 1 := ⟨gk - 1, by omega⟩
      have p3 : f + (n : Int) + 1 < 4294967296 := by omega
      by_cases c1 : f + (n : Int) ∈ s.live
      · have b1 : decide (f + (n : Int) ∈ s.live) = true := decide_eq_true c1
        clear hin c1 hlt hi
        go_wp2_with (first
        | (at_lookup; (try (refine gate_guard (by rfl) ?_; dsimp only)); refine sl_look (q := .u32) (by repeat (with_reducible first | exact HS.out | apply sl_drewN | apply sl_drew | apply sl_alloc)) 2 (by rfl) rfl _ _ rfl Try.underlying24 Try.underlying49 Try.underlying4 zero4 rfl _ rfl HW.out ?_)
        | (at_lookup; (try (refine gate_guard (by rfl) ?_; dsimp only)); refine sl_look (q := .u32) (by repeat (with_reducible first | exact HS.out | apply sl_drewN | apply sl_drew | apply sl_alloc)) 3 (by rfl) rfl _ _ rfl Try.underlying24 Try.underlying49 Try.underlying4 zero4 rfl _ rfl HW.out ?_)
        | (go_at_call 25; refine (HT.out (by repeat (with_reducible first | exact HS.out | apply sl_drewN | apply sl_drew | apply sl_alloc))).mono ?_; rintro e w2 ⟨rfl, hs⟩; replace HS := Aside0.mk hs; clear hs))
        go_roundg kq
        case measure => omega
        case rel => exact ⟨n + 1, by congr 1; omega, ⟨by have := HI.out; omega⟩, ⟨(by repeat (with_reducible first | exact HS.out | apply sl_drewN | apply sl_drew | apply sl_alloc))⟩⟩
      · have b1 : decide (f + (n : Int) ∈ s.live) = false := decide_eq_false c1
        have b2 : decide (f + (n : Int) ∈ s.rel) = true := decide_eq_true (hin.resolve_left c1)
        clear hin c1 hlt hi
        go_wp2_with (first
        | (at_lookup; (try (refine gate_guard (by rfl) ?_; dsimp only)); refine sl_look (q := .u32) (by repeat (with_reducible first | exact HS.out | apply sl_drewN | apply sl_drew | apply sl_alloc)) 2 (by rfl) rfl _ _ rfl Try.underlying24 Try.underlying49 Try.underlying4 zero4 rfl _ rfl HW.out ?_)
        | (at_lookup; (try (refine gate_guard (by rfl) ?_; dsimp only)); refine sl_look (q := .u32) (by repeat (with_reducible first | exact HS.out | apply sl_drewN | apply sl_drew | apply sl_alloc)) 3 (by rfl) rfl _ _ rfl Try.underlying24 Try.underlying49 Try.underlying4 zero4 rfl _ rfl HW.out ?_)
        | (go_at_call 25; refine (HT.out (by repeat (with_reducible first | exact HS.out | apply sl_drewN | apply sl_drew | apply sl_alloc))).mono ?_; rintro e w2 ⟨rfl, hs⟩; replace HS := Aside0.mk hs; clear hs))
        go_roundg kq
        case measure => omega
        case rel => exact ⟨n + 1, by congr 1; omega, ⟨by have := HI.out; omega⟩, ⟨(by repeat (with_reducible first | exact HS.out | apply sl_drewN | apply sl_drew | apply sl_alloc))⟩⟩
    · obtain rfl : n = gapI s := by omega
      have hni := HG.out.2
      have b1 : decide (f + (gapI s : Int) ∈ s.live) = false := decide_eq_false fun h => hni (List.mem_append.2 (.inl h))
      have b2 : decide (f + (gapI s : Int) ∈ s.rel) = false := decide_eq_false fun h => hni (List.mem_append.2 (.inr h))
      clear hni hlt hi
      go_wp2_with (first
        | (at_lookup; (try (refine gate_guard (by rfl) ?_; dsimp only)); refine sl_look (q := .u32) (by repeat (with_reducible first | exact HS.out | apply sl_drewN | apply sl_drew | apply sl_alloc)) 2 (by rfl) rfl _ _ rfl Try.underlying24 Try.underlying49 Try.underlying4 zero4 rfl _ rfl HW.out ?_)
        | (at_lookup; (try (refine gate_guard (by rfl) ?_; dsimp only)); refine sl_look (q := .u32) (by repeat (with_reducible first | exact HS.out | apply sl_drewN | apply sl_drew | apply sl_alloc)) 3 (by rfl) rfl _ _ rfl Try.underlying24 Try.underlying49 Try.underlying4 zero4 rfl _ rfl HW.out ?_)
        | (go_at_call 25; refine (HT.out (by repeat (with_reducible first | exact HS.out | apply sl_drewN | apply sl_drew | apply sl_alloc))).mono ?_; rintro e w2 ⟨rfl, hs⟩; replace HS := Aside0.mk hs; clear hs))
      go_ret2
      rw [HE.out.1, HE.out.2.1, HE.out.2.2]
      exact ⟨rfl, tab_close (used s (f + (gapI s : Int))) HS.out⟩
end
theorem tab_close0 {w0 w : World} {g a b : Nat} (s : TSt) (h : SL w0 w [setI a s.live, setI b s.rel, tabC g a b s]) : SL w0 w [tabR g s] := by
  have h1 := sl_close (X := Unit) (A := fun _ => setI a s.live) (B := fun _ => setI b s.rel) () h 0 1 (by decide) rfl rfl
  have h2 := sl_close (X := Nat × Nat) (A := fun m => tabC g m.1 m.2 s) (B := fun m => exR (X := Unit) (fun _ => setI m.1 s.live) (fun _ => setI m.2 s.rel)) (a, b) h1 2 0 (by decide) rfl rfl
  exact sl_pick h2 [2] (by decide) rfl
section
variable {w0 w : World} {L : List Res}
theorem New_sl (h : SL w0 w L) (srv : Bool) : Calls Try.prog 8 #[.bool srv] w fun e w' => ∃ g : Nat, e = .returned (.pointer (some ⟨g, 0, none⟩)) ∧ SL w0 w' (L ++ [tabR g ⟨srv, [], [], fstI srv - 1⟩]) := by
  have H := Aside0.mk h
  have HS := Aside0.mk (sl_start w)
  clear h
  have hmm := @run_makeMap Try.prog
  cases srv
  · go_enter Try.func8, Try.ntmps8
    go_wp2
    go_ret
    refine ⟨w.heap.size + 1 + 1, rfl, sl_new2 H.out (tab_close0 (a := w.heap.size) (b := w.heap.size + 1) ⟨false, [], [], fstI false - 1⟩ ?_)⟩
    have h1 := sl_box (sl_made (sl_made HS.out Try.prog 24 4 .u32) Try.prog 24 4 .u32) #[.bool true, .bool false, .map (some w.heap.size), .map (some (w.alloc (.map #[] 0)).heap.size), .int .u64 0] 52
    simp only [World.size_alloc] at h1
    exact h1
  · go_enter Try.func8, Try.ntmps8
    go_wp2
    go_ret
    refine ⟨w.heap.size + 1 + 1, rfl, sl_new2 H.out (tab_close0 (a := w.heap.size) (b := w.heap.size + 1) ⟨true, [], [], fstI true - 1⟩ ?_)⟩
    have h1 := sl_box (sl_made (sl_made HS.out Try.prog 24 4 .u32) Try.prog 24 4 .u32) #[.bool true, .bool true, .map (some w.heap.size), .map (some (w.alloc (.map #[] 0)).heap.size), .int .u64 4278190079] 52
    simp only [World.size_alloc] at h1
    exact h1
theorem lift1 {P : Program} {f : FuncId} {args : Array Value} {r : Ending} {A B : Res} (h : SL w0 w L) (i : Nat) (hi : L[i]? = some A) (hc : ∀ {R : Res}, SL w0 w [A, R] → Calls P f args w fun e w' => e = r ∧ SL w0 w' [B, R]) :
    Calls P f args w fun e w' => e = r ∧ SL w0 w' (L.set i B) := by
  obtain ⟨S, h1, h2⟩ := sl_lift h hi
  refine (hc h1).mono ?_
  rintro e w' ⟨rfl, h4⟩
  have := h2 _ _ [] h4
  rw [List.append_nil] at this
  exact ⟨rfl, this⟩
theorem set_self (L : List Res) (i : Nat) (A : Res) (hi : L[i]? = some A) : L.set i A = L := by
  refine List.ext_getElem? fun j => ?_
  by_cases h : j = i
  · subst h
    rw [List.getElem?_set_self (List.getElem?_eq_some_iff.1 hi).1, hi]
  · rw [List.getElem?_set_ne (Ne.symm h)]
theorem Count_sl (h : SL w0 w L) (i : Nat) {g : Nat} {s : TSt} (hi : L[i]? = some (tabR g s)) : Calls Try.prog 11 #[.pointer (some ⟨g, 0, none⟩)] w fun e w' => e = .returned (.int .i64 (s.live.length : Int)) ∧ SL w0 w' L := by
  have := lift1 h i hi (fun h => Count_in g s h)
  rw [set_self L i _ hi] at this
  exact this
theorem Live_sl (h : SL w0 w L) (i : Nat) {g : Nat} {s : TSt} (id : Int) (hi : L[i]? = some (tabR g s)) (h0 : 0 ≤ id) (h1 : id < 4294967296) : Calls Try.prog 19 #[.pointer (some ⟨g, 0, none⟩), .int .u32 id] w fun e w' => e = .returned (.bool (decide (id ∈ s.live))) ∧ SL w0 w' L := by
  have := lift1 h i hi (fun h => Live_in g s id h h0 h1)
  rw [set_self L i _ hi] at this
  exact this
theorem Alloc_sl (h : SL w0 w L) (i : Nat) {g : Nat} {s : TSt} (hi : L[i]? = some (tabR g s)) (ho : TOk s) : Calls Try.prog 9 #[.pointer (some ⟨g, 0, none⟩)] w fun e w' => e = .returned (.tuple #[.int .u32 (allV s), .int .i64 (allE s)]) ∧ SL w0 w' (L.set i (tabR g (allS s))) :=
  lift1 h i hi (fun h => Alloc_in g s h ho)
theorem Take_sl (h : SL w0 w L) (i : Nat) {g : Nat} {s : TSt} (id : Int) (hi : L[i]? = some (tabR g s)) (ho : TOk s) (h0 : 0 ≤ id) (h1 : id < 4294967296) : Calls Try.prog 10 #[.pointer (some ⟨g, 0, none⟩), .int .u32 id] w fun e w' => e = .returned (.int .i64 (takeE s id)) ∧ SL w0 w' (L.set i (tabR g (takeS s id))) :=
  lift1 h i hi (fun h => Take_in g s id h h0 h1 ho)
theorem Rel_sl (h : SL w0 w L) (i : Nat) {g : Nat} {s : TSt} (id : Int) (hi : L[i]? = some (tabR g s)) (ho : TOk s) (h0 : 0 ≤ id) (h1 : id < 4294967296) : Calls Try.prog 12 #[.pointer (some ⟨g, 0, none⟩), .int .u32 id] w fun e w' => e = .returned (.int .i64 (relE s id)) ∧ SL w0 w' (L.set i (tabR g (relS s id))) :=
  lift1 h i hi (fun h => Release_in g s id h h0 h1 ho)
theorem Con_sl (h : SL w0 w L) (i : Nat) {g : Nat} {s : TSt} (id : Int) (hi : L[i]? = some (tabR g s)) (h0 : 0 ≤ id) (h1 : id < 4294967296) : Calls Try.prog 13 #[.pointer (some ⟨g, 0, none⟩), .int .u32 id] w fun e w' => e = .returned (.int .i64 (conE s id)) ∧ SL w0 w' (L.set i (tabR g (conS s id))) :=
  lift1 h i hi (fun h => Confirm_in g s id h h0 h1)
end

section
variable {w0 w : World} {L : List Res}
theorem Alloc_eq (h : SL w0 w L) (i : Nat) {g : Nat} {s s2 : TSt} {v e_ : Int} (hv : allV s = v) (he : allE s = e_) (hs : allS s = s2) (ho : TOk s) (hi : L[i]? = some (tabR g s)) : Calls Try.prog 9 #[.pointer (some ⟨g, 0, none⟩)] w fun e w' => e = .returned (.tuple #[.int .u32 v, .int .i64 e_]) ∧ SL w0 w' (L.set i (tabR g s2)) := by
  subst hv; subst he; subst hs
  exact Alloc_sl h i hi ho
theorem Take_eq (h : SL w0 w L) (i : Nat) {g : Nat} {s s2 : TSt} {id e_ : Int} (he : takeE s id = e_) (hs : takeS s id = s2) (ho : TOk s) (h0 : 0 ≤ id) (h1 : id < 4294967296) (hi : L[i]? = some (tabR g s)) : Calls Try.prog 10 #[.pointer (some ⟨g, 0, none⟩), .int .u32 id] w fun e w' => e = .returned (.int .i64 e_) ∧ SL w0 w' (L.set i (tabR g s2)) := by
  subst he; subst hs
  exact Take_sl h i id hi ho h0 h1
theorem Rel_eq (h : SL w0 w L) (i : Nat) {g : Nat} {s s2 : TSt} {id e_ : Int} (he : relE s id = e_) (hs : relS s id = s2) (ho : TOk s) (h0 : 0 ≤ id) (h1 : id < 4294967296) (hi : L[i]? = some (tabR g s)) : Calls Try.prog 12 #[.pointer (some ⟨g, 0, none⟩), .int .u32 id] w fun e w' => e = .returned (.int .i64 e_) ∧ SL w0 w' (L.set i (tabR g s2)) := by
  subst he; subst hs
  exact Rel_sl h i id hi ho h0 h1
theorem Con_eq (h : SL w0 w L) (i : Nat) {g : Nat} {s s2 : TSt} {id e_ : Int} (he : conE s id = e_) (hs : conS s id = s2) (h0 : 0 ≤ id) (h1 : id < 4294967296) (hi : L[i]? = some (tabR g s)) : Calls Try.prog 13 #[.pointer (some ⟨g, 0, none⟩), .int .u32 id] w fun e w' => e = .returned (.int .i64 e_) ∧ SL w0 w' (L.set i (tabR g s2)) := by
  subst he; subst hs
  exact Con_sl h i id hi h0 h1
end
end Go.Proofs.Ytegkkomlpgappaa.Q
