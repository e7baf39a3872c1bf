import Derived.Test.YtockppikcghmoaaQu3
namespace Go.Proofs.Ytockppikcghmoaa.Q
open Go.RowKit Go.Proofs.YtockppikcghmoaaW.PrintWords Go.Proofs.YtockppikcghmoaaW.PrintLast Go.Proofs.YtockppikcghmoaaW.PrintMore Go.Proofs.Ytockppikcghmoaa.Sl Go.Proofs.Ytockppikcghmoaa.Hand 
attribute [local go_sem] max2_int min2_int max_two min_two max_three min_three max_four min_four 
set_option linter.unusedVariables false
set_option linter.unusedSimpArgs false

def ackE (q : QSt) (s : Int) : Int := if findI q.wait s < 0 then 13 else 0
def ackS (q : QSt) (s : Int) : QSt := if findI q.wait s < 0 then q else ⟨q.wait.drop ((findI q.wait s).toNat + 1), rd_T40 q.wait (findI q.wait s), true, q.conf⟩
theorem cut3 {α : Type} {d : Kd α} {enc : α → List Value} (f : Flat d enc) (t e : TypeId) {i : TypeInfo} (ht : Try.prog.underlying t = some (.slice e)) (hi : Try.prog.info? e = some i) (hsz : i.size = d.sz) (A : Option Addr) (n c l : Nat) (hl : l ≤ n) (hc : n ≤ c) :
    ∃ A' : Option Addr, (∀ W : World, (Instr.slice t (.slice A n c) (some (.int .i64 (l : Int))) (some (.int .i64 (n : Int))) (some (.int .i64 (n : Int)))).run Try.prog W = .ok (.slice A' (n - l) (n - l)) W) ∧
      ∀ (w : World) (F : Nat → Prop) (xs : List α), LR d enc e w F (.slice A n c) xs → LR d enc e w F (.slice A' (n - l) (n - l)) (xs.drop l) := by
  refine ⟨if n = l then A else A.map (·.add (l * d.sz)), fun W => ?_, fun w F xs h => ?_⟩
  · have hel : Try.prog.elem t = e := by simp [Program.elem, ht]
    have hu : Try.prog.underlying t = some (.slice (Try.prog.elem t)) := by rw [hel]; exact ht
    rw [run_slice_lhm W t A n c hu .i64 .i64 .i64 (l : Int) (n : Int) (n : Int) (Int.natCast_nonneg _) (by omega) (by omega) (by omega), hel]
    simp [sizeOf, typeInfo, hi, hsz, sliced, Result.andThen]
  · obtain ⟨rfl, _, _⟩ := h.reads' f
    have := h.cut f (l := l) (h := xs.length) (m := xs.length) hl (Nat.le_refl _) (Nat.le_refl _) hc
    rwa [List.take_of_length_le (by rw [List.length_drop]; omega)] at this
set_option maxHeartbeats 2000000 in
set_option maxRecDepth 100000 in
theorem Ack_base (g : Nat) (q : QSt) (s : Int) (F : Nat → Prop) (w : World) (hP : (queueR g q).P w F) (hF : ∀ k, F k → k < w.heap.size) :
    Calls Try.prog 14 #[.pointer (some ⟨g, 0, none⟩), .int .u32 s] w fun e w' => e = .returned (.int .i64 (ackE q s)) ∧
      (∃ F' : Nat → Prop, (queueR g (ackS q s)).P w' F' ∧ ∀ k, F' k → (F k ∨ w.heap.size ≤ k) ∧ k < w'.heap.size) ∧ Chg F w w' := by
  have HP := Aside0.mk hP
  have HF := Aside0.mk hF
  obtain ⟨v, Fr, hq, hb, hg, hr⟩ := hP
  have HQ := Aside0.mk hq
  have HBk := Aside0.mk hb
  have HG := Aside0.mk hg
  have HR := Aside0.mk hr
  clear hq hb hg hr hF
  by_cases c1 : findI q.wait s < 0
  · have E := Aside0.mk (show ackE q s = 13 ∧ ackS q s = q by unfold ackE ackS; rw [if_pos c1, if_pos c1]; exact ⟨rfl, rfl⟩)
    go_enter Try.func14, Try.ntmps14
    go_wp2_with (first
      | (go_at_call 24; refine (usable_calls g v q _ HBk.out).mono ?_; rintro e w1 ⟨rfl, rfl⟩)
      | (go_at_call 25; refine (find_calls g v Fr q s _ HQ.out HBk.out).mono ?_; rintro e w1 ⟨rfl, hb⟩; have HB := Aside0.mk hb; clear hb))
    go_ret
    rw [E.out.1, E.out.2]
    exact ⟨rfl, queue_below HP.out HF.out HB.out⟩
  obtain ⟨A, c, rfl, hc, hrd⟩ := HQ.out.reads flat40
  have hb1 := findI_bound q.wait s
  obtain ⟨n, hn⟩ : ∃ n : Nat, findI q.wait s = n := ⟨(findI q.wait s).toNat, by omega⟩
  have hnl : n < q.wait.length := by omega
  have hle : q.wait.length ≤ 9223372036854775807 := hrd.2.1
  obtain ⟨i0, hi0, hz⟩ := Option.map_eq_some_iff.1 info40
  simp only [Prod.mk.injEq] at hz
  obtain ⟨A', hcut, hA'⟩ := cut3 flat40 52 40 Try.underlying52 hi0 hz.2.1 A q.wait.length c (n + 1) (by omega) hc
  have HA' := Aside0.mk hA'
  have E := Aside0.mk (show ackE q s = 0 ∧ ackS q s = ⟨q.wait.drop (n + 1), rd_T40 q.wait (n : Int), true, q.conf⟩ by unfold ackE ackS; rw [if_neg c1, if_neg c1, hn]; exact ⟨rfl, rfl⟩)
  obtain ⟨ad, rfl, x0, x1, x2, x3⟩ := at_T40 hrd (n : Int) (by omega) (by omega)
  rw [Int.toNat_natCast] at x0 x1 x2 x3
  generalize hx : rd_T40 q.wait (n : Int) = x at x0 x1 x2 x3 E
  have HN := Aside0.mk hn
  have HX0 := Aside0.mk x0
  have HX1 := Aside0.mk x1
  have HX2 := Aside0.mk x2
  have HX3 := Aside0.mk x3
  have p1 : (0 : Int) ≤ (n : Int) := by omega
  have p2 : (n : Int) < (q.wait.length : Int) := by omega
  have hcut' : ∀ W : World, (Instr.slice 52 (.slice (some ad) q.wait.length c) (some (.int .i64 ((n : Int) + 1))) (some (.int .i64 (q.wait.length : Int))) (some (.int .i64 (q.wait.length : Int)))).run Try.prog W = .ok (.slice A' (q.wait.length - (n + 1)) (q.wait.length - (n + 1))) W := hcut
  clear c1 hc hrd hb1 hz hi0 hA' hx hn x0 x1 x2 x3 hcut
  go_enter Try.func14, Try.ntmps14
  go_wp2_with (first
    | (go_at_call 24; refine (usable_calls g _ q _ HBk.out).mono ?_; rintro e w1 ⟨rfl, rfl⟩)
    | (go_at_call 25; refine (find_calls g _ Fr q s _ HQ.out HBk.out).mono ?_; rintro e w1 ⟨rfl, hb⟩; rw [HN.out]; have HB := Aside0.mk hb; have HBk1 := Aside0.mk (blk_below HBk.out HB.out); have h1 := (blk_cell HBk1.out 1).trans (show _ = some (Value.bool q.acked) from rfl); have h3 := (blk_cell HBk1.out 3).trans (show _ = some (Value.slice (some ad) q.wait.length c) from rfl); have h4 := (blk_cell HBk1.out 4).trans (show _ = some (Value.int .u32 q.next.f0) from rfl); have h5 := (blk_cell HBk1.out 5).trans (show _ = some (Value.int .i64 q.next.f1) from rfl); have h6 := (blk_cell HBk1.out 6).trans (show _ = some (Value.int .i64 q.next.f2) from rfl); have h7 := (blk_cell HBk1.out 7).trans (show _ = some (Value.int .i64 q.next.f3) from rfl); have f1 := blk_frozen HBk1.out 1; have f3 := blk_frozen HBk1.out 3; have f4 := blk_frozen HBk1.out 4; have f5 := blk_frozen HBk1.out 5; have f6 := blk_frozen HBk1.out 6; have f7 := blk_frozen HBk1.out 7; have y0 := pw_cell_below HB.out HX0.out; have y1 := pw_cell_below HB.out HX1.out; have y2 := pw_cell_below HB.out HX2.out; have y3 := pw_cell_below HB.out HX3.out; clear hb))
  go_ret
  have HL := Aside0.mk ((HA'.out _ _ _ HQ.out).below HB.out)
  have HC := Aside0.mk (Chg.of_below (F := F) HB.out)
  have hne : ∀ p : Addr, p.block = g → ¬ Fr p.block := fun p hp h => (HR.out _ h).2 hp
  have hbk := blk_set (blk_set (blk_set (blk_set (blk_set (blk_set HBk1.out 4 (.int .u32 x.f0)) 5 (.int .i64 x.f1)) 6 (.int .i64 x.f2)) 7 (.int .i64 x.f3)) 1 (.bool true)) 3 (.slice A' (q.wait.length - (n + 1)) (q.wait.length - (n + 1)))
  refine ⟨ret_i E.out.1.symm, ⟨F, ?_, fun k hk => ⟨.inl hk, ?_⟩⟩, by repeat (first | (with_reducible exact HC.out) | refine Chg.setCell ?_ (.inl HG.out) _)⟩
  · rw [E.out.2]
    refine ⟨.slice A' (q.wait.length - (n + 1)) (q.wait.length - (n + 1)), Fr, ?_, hbk, HG.out, HR.out⟩
    repeat (first | (with_reducible exact HL.out) | refine LR.far ?_ (hne _ rfl) _)
  · have := HF.out k hk
    have := HB.out.size
    simp only [World.setCell, Array.size_modify]
    omega
theorem Ack_sl {w0 w : World} {L : List Res} (i : Nat) {g : Nat} {q : QSt} (s : Int) (hi : L[i]? = some (queueR g q)) (h : SL w0 w L) :
    Calls Try.prog 14 #[.pointer (some ⟨g, 0, none⟩), .int .u32 s] w fun e w' => e = .returned (.int .i64 (ackE q s)) ∧ SL w0 w' (L.set i (queueR g (ackS q s))) :=
  sl_call1 h i hi fun F hP hF => Ack_base g q s F w hP hF

def apS (q : QSt) : QSt := if q.acked then ⟨q.wait, z40, false, true⟩ else q
def rcfg (x : S40) (b : Bool) : Value := .tuple #[.agg #[.int .u32 x.f0, .int .i64 x.f1, .int .i64 x.f2, .int .i64 x.f3], .bool b]
theorem Waiting_base (g : Nat) (v : Value) (Fr : Nat → Prop) (q : QSt) (w : World) (hq : LR k40 enc40 40 w Fr v q.wait) (hb : w.heap[g]? = some (.cells (qcells v q) 57 (0, 0))) :
    Calls Try.prog 20 #[.pointer (some ⟨g, 0, none⟩)] w fun e w' => e = .returned (.int .i64 q.wait.length) ∧ w = w' := by
  obtain ⟨A, c, rfl, hc, _⟩ := hq.reads flat40
  have HB := Aside0.mk hb
  have h3 := (blk_cell hb 3).trans (show _ = some (Value.slice A q.wait.length c) from rfl)
  clear hb hq hc
  go_enter Try.func20, Try.ntmps20
  go_wp2_with (first | (go_at_call 24; refine (usable_calls g _ q _ HB.out).mono ?_; rintro e w1 ⟨rfl, rfl⟩))
  go_ret
  exact ⟨rfl, rfl⟩
theorem Configured_base (g : Nat) (v : Value) (q : QSt) (w : World) (hb : w.heap[g]? = some (.cells (qcells v q) 57 (0, 0))) :
    Calls Try.prog 22 #[.pointer (some ⟨g, 0, none⟩)] w fun e w' => e = .returned (.bool q.conf) ∧ w = w' := by
  have HB := Aside0.mk hb
  have h2 := (blk_cell hb 2).trans (show _ = some (Value.bool q.conf) from rfl)
  clear hb
  go_enter Try.func22, Try.ntmps22
  go_wp2_with (first | (go_at_call 24; refine (usable_calls g _ q _ HB.out).mono ?_; rintro e w1 ⟨rfl, rfl⟩))
  go_ret
  exact ⟨rfl, rfl⟩
set_option maxHeartbeats 1000000 in
set_option maxRecDepth 100000 in
theorem Acked_base (g : Nat) (v : Value) (q : QSt) (w : World) (hb : w.heap[g]? = some (.cells (qcells v q) 57 (0, 0))) :
    Calls Try.prog 18 #[.pointer (some ⟨g, 0, none⟩)] w fun e w' => e = .returned (rcfg q.next q.acked) ∧ Below w.heap.size w w' := by
  have HB := Aside0.mk hb
  have HGL := Aside0.mk (blk_lt hb)
  have h1 := (blk_cell hb 1).trans (show _ = some (Value.bool q.acked) from rfl)
  have h4 := (blk_cell hb 4).trans (show _ = some (Value.int .u32 q.next.f0) from rfl)
  have h5 := (blk_cell hb 5).trans (show _ = some (Value.int .i64 q.next.f1) from rfl)
  have h6 := (blk_cell hb 6).trans (show _ = some (Value.int .i64 q.next.f2) from rfl)
  have h7 := (blk_cell hb 7).trans (show _ = some (Value.int .i64 q.next.f3) from rfl)
  clear hb
  go_enter Try.func18, Try.ntmps18
  go_wp2_with (first | (go_at_call 24; refine (usable_calls g v q _ (blk_alloc HB.out _)).mono ?_; rintro e w1 ⟨rfl, rfl⟩))
  refine start_ (n := 10) (S := fun w' => w'.cell? ⟨g, 1, none⟩ = some (.bool q.acked) ∧ w'.cell? ⟨g, 4, none⟩ = some (.int .u32 q.next.f0) ∧ w'.cell? ⟨g, 5, none⟩ = some (.int .i64 q.next.f1) ∧ w'.cell? ⟨g, 6, none⟩ = some (.int .i64 q.next.f2) ∧ w'.cell? ⟨g, 7, none⟩ = some (.int .i64 q.next.f3)) (ds := []) #[false, false, false, false, false, false, false, false, false, false] (by kernel_rfl) rfl rfl ⟨(pw_cell_below (below_drew (below_alloc (Below.refl _ _) _)) h1), (pw_cell_below (below_drew (below_alloc (Below.refl _ _) _)) h4), (pw_cell_below (below_drew (below_alloc (Below.refl _ _) _)) h5), (pw_cell_below (below_drew (below_alloc (Below.refl _ _) _)) h6), (pw_cell_below (below_drew (below_alloc (Below.refl _ _) _)) h7)⟩ (fun hHeld => ?_)
  refine pure_ (i := 0) (N := some 8) (v := ?_) (a' := ?_) #[true, false, false, false, false, false, false, false, false, false] rfl rfl (by kernel_rfl) (fun _ _ _ h => h) (Or.inl ⟨by rfl, ?_⟩) ?_ ?_
  rotate_left
  · intro w'
    go_simp
    with_reducible rfl
  rotate_left
  · simp only [Act.put, List.setIfInBounds_toArray, List.set_cons_zero, List.set_cons_succ, i64_w, i32_w, IntKind.wrap_u32, IntKind.wrap_u8, IntKind.wrap_u16]
    rfl
  refine pure_ (i := 1) (N := some 9) (v := ?_) (a' := ?_) #[true, true, false, false, false, false, false, false, false, false] rfl rfl (by kernel_rfl) (fun _ _ _ h => h) (Or.inl ⟨by rfl, ?_⟩) ?_ ?_
  rotate_left
  · intro w'
    go_simp
    with_reducible rfl
  rotate_left
  · simp only [Act.put, List.setIfInBounds_toArray, List.set_cons_zero, List.set_cons_succ, i64_w, i32_w, IntKind.wrap_u32, IntKind.wrap_u8, IntKind.wrap_u16]
    rfl
  refine pure_ (i := 2) (N := some 10) (v := ?_) (a' := ?_) #[true, true, true, false, false, false, false, false, false, false] rfl rfl (by kernel_rfl) (fun _ _ _ h => h) (Or.inl ⟨by rfl, ?_⟩) ?_ ?_
  rotate_left
  · intro w'
    go_simp
    with_reducible rfl
  rotate_left
  · simp only [Act.put, List.setIfInBounds_toArray, List.set_cons_zero, List.set_cons_succ, i64_w, i32_w, IntKind.wrap_u32, IntKind.wrap_u8, IntKind.wrap_u16]
    rfl
  refine pure_ (i := 4) (N := some 12) (v := ?_) (a' := ?_) #[true, true, true, false, true, false, false, false, false, false] rfl rfl (by kernel_rfl) (fun _ _ _ h => h) (Or.inl ⟨by rfl, ?_⟩) ?_ ?_
  rotate_left
  · intro w'
    go_simp
    with_reducible rfl
  rotate_left
  · simp only [Act.put, List.setIfInBounds_toArray, List.set_cons_zero, List.set_cons_succ, i64_w, i32_w, IntKind.wrap_u32, IntKind.wrap_u8, IntKind.wrap_u16]
    rfl
  refine pure_ (i := 5) (N := some 13) (v := ?_) (a' := ?_) #[true, true, true, false, true, true, false, false, false, false] rfl rfl (by kernel_rfl) (fun _ _ _ h => h) (Or.inl ⟨by rfl, ?_⟩) ?_ ?_
  rotate_left
  · intro w'
    go_simp
    with_reducible rfl
  rotate_left
  · simp only [Act.put, List.setIfInBounds_toArray, List.set_cons_zero, List.set_cons_succ, i64_w, i32_w, IntKind.wrap_u32, IntKind.wrap_u8, IntKind.wrap_u16]
    rfl
  refine pure_ (i := 6) (N := some 14) (v := ?_) (a' := ?_) #[true, true, true, false, true, true, true, false, false, false] rfl rfl (by kernel_rfl) (fun _ _ _ h => h) (Or.inl ⟨by rfl, ?_⟩) ?_ ?_
  rotate_left
  · intro w'
    go_simp
    with_reducible rfl
  rotate_left
  · simp only [Act.put, List.setIfInBounds_toArray, List.set_cons_zero, List.set_cons_succ, i64_w, i32_w, IntKind.wrap_u32, IntKind.wrap_u8, IntKind.wrap_u16]
    rfl
  refine take_ (i := 3) (N := some 11) (v := ?_) (a' := ?_) #[true, true, true, true, true, true, true, false, false, false] rfl rfl (by kernel_rfl) (fun _ _ _ h => h) (Or.inl ⟨by rfl, ?_⟩) hHeld ?_ ?_
  rotate_left
  · rintro w' ⟨s0, s1, s2, s3, s4⟩
    go_simp
    with_reducible rfl
  rotate_left
  · simp only [Act.put, List.setIfInBounds_toArray, List.set_cons_zero, List.set_cons_succ, i64_w, i32_w, IntKind.wrap_u32, IntKind.wrap_u8, IntKind.wrap_u16]
    rfl
  refine take_ (i := 7) (N := some 15) (v := ?_) (a' := ?_) #[true, true, true, true, true, true, true, true, false, false] rfl rfl (by kernel_rfl) (fun _ _ _ h => h) (Or.inl ⟨by rfl, ?_⟩) hHeld ?_ ?_
  rotate_left
  · rintro w' ⟨s0, s1, s2, s3, s4⟩
    go_simp
    with_reducible rfl
  rotate_left
  · simp only [Act.put, List.setIfInBounds_toArray, List.set_cons_zero, List.set_cons_succ, i64_w, i32_w, IntKind.wrap_u32, IntKind.wrap_u8, IntKind.wrap_u16]
    rfl
  refine one_ (i := 8) (N := none) #[true, true, true, true, true, true, true, true, true, false] rfl rfl (by kernel_rfl) (by decide) (fun K hK => ?_)
  refine skip_ (w1 := ?_) (by rfl) rfl ?_ ?_
  rotate_left
  · go_simp
    rfl
  refine hK.out _ _ ⟨(pw_cell_below (below_drew (below_alloc (Below.refl _ _) _)) h1), (pw_cell_below (below_drew (below_alloc (Below.refl _ _) _)) h4), (pw_cell_below (below_drew (below_alloc (Below.refl _ _) _)) h5), (pw_cell_below (below_drew (below_alloc (Below.refl _ _) _)) h6), (pw_cell_below (below_drew (below_alloc (Below.refl _ _) _)) h7)⟩ (fun hHeld => ?_)
  clear hK K
  refine pure_ (i := 9) (N := some 3) (v := ?_) (a' := ?_) #[true, true, true, true, true, true, true, true, true, true] rfl rfl (by kernel_rfl) (fun _ _ _ h => h) (Or.inl ⟨by rfl, ?_⟩) ?_ ?_
  rotate_left
  · intro w'
    go_simp
    with_reducible rfl
  rotate_left
  · simp only [Act.put, List.setIfInBounds_toArray, List.set_cons_zero, List.set_cons_succ, i64_w, i32_w, IntKind.wrap_u32, IntKind.wrap_u8, IntKind.wrap_u16]
    rfl
  refine done_ (by kernel_rfl) ?_
  go_wp2
  refine bodyPost_ret (v := rcfg q.next q.acked) (by simp [rcfg, results, Try.results18, go_sem]) rfl ⟨rfl, ?_⟩
  repeat (first | exact Below.refl _ _ | apply below_drew1 | apply pw_below_drewN | apply below_alloc)
theorem cells0 (b : Nat) (w w1 : World) (t : TypeId) (cs : Array Value) (h : w.heap[b]? = some (.cells cs t (0, 0))) (i : Nat) (v : Value) (hv : cs[i]? = some v) : w.cell? ⟨b, i, none⟩ = some v := (blk_cell h i).trans hv
set_option maxHeartbeats 2000000 in
set_option maxRecDepth 100000 in
theorem Apply_base (g : Nat) (q : QSt) (F : Nat → Prop) (w : World) (hP : (queueR g q).P w F) (hF : ∀ k, F k → k < w.heap.size) :
    Calls Try.prog 16 #[.pointer (some ⟨g, 0, none⟩)] w fun e w' => e = .returned (rcfg q.next q.acked) ∧
      (∃ F' : Nat → Prop, (queueR g (apS q)).P w' F' ∧ ∀ k, F' k → (F k ∨ w.heap.size ≤ k) ∧ k < w'.heap.size) ∧ Chg F w w' := by
  have HP := Aside0.mk hP
  have HF := Aside0.mk hF
  obtain ⟨v, Fr, hq, hb, hg, hr⟩ := hP
  have HQ := Aside0.mk hq
  have HBk := Aside0.mk hb
  have HG := Aside0.mk hg
  have HR := Aside0.mk hr
  have HL := Aside0.mk (blk_lt hb)
  clear hq hb hg hr hF
  cases hq : q.acked
  · have E := Aside0.mk (show apS q = q by unfold apS; rw [hq]; rfl)
    have HQA := Aside0.mk hq
    clear hq
    go_enter Try.func16, Try.ntmps16
    go_wp2_with (first
      | ((with_reducible refine gate_dst (N := 2) rfl ?_); refine box_event ?hg (N := 2) ?hd (cs := #[.int .u32 0, .int .i64 0, .int .i64 0, .int .i64 0]) (t := 40) ?hr ?_; (case hd => rfl); (case hg => rfl); (case hr => first | (go_simp; done) | (go_simp; rfl)); intro gr hg w1 hbox hb; have HX1 := Aside0.mk hbox; have HB1 := Aside0.mk hb; have HG1 := Aside0.mk hg; have HBk1 := Aside0.mk (blk_below HBk.out hb); clear hbox hb hg)
      | (go_at_call 18; refine (Acked_base g v q _ HBk1.out).mono ?_; rintro e w2 ⟨rfl, hb⟩; unfold rcfg; rw [HQA.out]; have HB2 := Aside0.mk (below_step HB1.out hb); have HX2 := Aside0.mk (blk_below HX1.out hb); have hgr := blk_lt HX2.out; have z0 := (blk_cell HX2.out 0).trans (show _ = some (Value.int .u32 0) from rfl); have z1 := (blk_cell HX2.out 1).trans (show _ = some (Value.int .i64 0) from rfl); have z2 := (blk_cell HX2.out 2).trans (show _ = some (Value.int .i64 0) from rfl); have z3 := (blk_cell HX2.out 3).trans (show _ = some (Value.int .i64 0) from rfl); have zf0 := blk_frozen HX2.out 0; have zf1 := blk_frozen HX2.out 1; have zf2 := blk_frozen HX2.out 2; have zf3 := blk_frozen HX2.out 3; clear hb))
    have GE := Aside0.mk (show w.heap.size ≤ gr by have := HG1.out; omega)
    have hx := blk_alloc (blk_set (blk_set (blk_set (blk_set HX2.out 0 (.int .u32 q.next.f0)) 1 (.int .i64 q.next.f1)) 2 (.int .i64 q.next.f2)) 3 (.int .i64 q.next.f3)) (.cells #[.int .u32 q.next.f0, .int .i64 q.next.f1, .int .i64 q.next.f2, .int .i64 q.next.f3] 40)
    refine bodyPost_ret (results_ct rfl _ _ gr 40 #[.int .u32 q.next.f0, .int .i64 q.next.f1, .int .i64 q.next.f2, .int .i64 q.next.f3] (0, 0) _ rfl hx Try.underlying40 rfl (by kernel_rfl)) rfl ?_
    rw [E.out]
    exact ⟨rfl, queue_below HP.out HF.out (by repeat (first | (with_reducible exact HB2.out) | apply below_alloc | refine below_set ?_ GE.out))⟩
  · have E := Aside0.mk (show apS q = ⟨q.wait, z40, false, true⟩ by unfold apS; rw [hq]; rfl)
    have HQA := Aside0.mk hq
    clear hq
    go_enter Try.func16, Try.ntmps16
    go_wp2_with (first
      | ((with_reducible refine gate_dst (N := 2) rfl ?_); refine box_event ?hg (N := 2) ?hd (cs := #[.int .u32 0, .int .i64 0, .int .i64 0, .int .i64 0]) (t := 40) ?hr ?_; (case hd => rfl); (case hg => rfl); (case hr => first | (go_simp; done) | (go_simp; rfl)); intro gr hg w1 hbox hb; have HX1 := Aside0.mk hbox; have HB1 := Aside0.mk hb; have HG1 := Aside0.mk hg; have HBk1 := Aside0.mk (blk_below HBk.out hb); clear hbox hb hg)
      | (go_at_call 18; refine (Acked_base g v q _ HBk1.out).mono ?_; rintro e w2 ⟨rfl, hb⟩; unfold rcfg; rw [HQA.out]; have HB2 := Aside0.mk (below_step HB1.out hb); have HX2 := Aside0.mk (blk_below HX1.out hb); have hgr := blk_lt HX2.out; have HG2 := Aside0.mk (blk_below HBk1.out hb); have hg2 := blk_lt HG2.out; have hn2 : gr ≠ g := (by have := HG1.out; have := HL.out; omega); have hn3 : g ≠ gr := Ne.symm hn2; have g1 := (blk_cell HG2.out 1).trans (show _ = some (Value.bool q.acked) from rfl); have gf1 := blk_frozen HG2.out 1; have g2 := (blk_cell HG2.out 2).trans (show _ = some (Value.bool q.conf) from rfl); have gf2 := blk_frozen HG2.out 2; have g4 := (blk_cell HG2.out 4).trans (show _ = some (Value.int .u32 q.next.f0) from rfl); have gf4 := blk_frozen HG2.out 4; have g5 := (blk_cell HG2.out 5).trans (show _ = some (Value.int .i64 q.next.f1) from rfl); have gf5 := blk_frozen HG2.out 5; have g6 := (blk_cell HG2.out 6).trans (show _ = some (Value.int .i64 q.next.f2) from rfl); have gf6 := blk_frozen HG2.out 6; have g7 := (blk_cell HG2.out 7).trans (show _ = some (Value.int .i64 q.next.f3) from rfl); have gf7 := blk_frozen HG2.out 7; have z0 := (blk_cell HX2.out 0).trans (show _ = some (Value.int .u32 0) from rfl); have z1 := (blk_cell HX2.out 1).trans (show _ = some (Value.int .i64 0) from rfl); have z2 := (blk_cell HX2.out 2).trans (show _ = some (Value.int .i64 0) from rfl); have z3 := (blk_cell HX2.out 3).trans (show _ = some (Value.int .i64 0) from rfl); have zf0 := blk_frozen HX2.out 0; have zf1 := blk_frozen HX2.out 1; have zf2 := blk_frozen HX2.out 2; have zf3 := blk_frozen HX2.out 3; clear hb))
    have GE := Aside0.mk (show w.heap.size ≤ gr by have := HG1.out; omega)
    have HC := Aside0.mk (Chg.of_below (F := F) HB2.out)
    have HLR := Aside0.mk (HQ.out.below HB2.out)
    have hne : ∀ p : Addr, p.block = g → ¬ Fr p.block := fun p hp h => (HR.out _ h).2 hp
    have hne2 : ∀ p : Addr, p.block = gr → ¬ Fr p.block := fun p hp h => by
      have h1 := HF.out _ (HR.out _ h).1
      have h2 := GE.out
      omega
    refine bodyPost_ret (results_ct rfl _ _ gr 40 #[.int .u32 q.next.f0, .int .i64 q.next.f1, .int .i64 q.next.f2, .int .i64 q.next.f3] (0, 0) _ rfl (by exact blk_alloc (blk_set (blk_set (blk_set (blk_set (blk_far (blk_far (blk_far (blk_far (blk_far (blk_far HX2.out hn2 _) hn2 _) hn2 _) hn2 _) hn2 _) hn2 _) 0 _) 1 _) 2 _) 3 _) _) Try.underlying40 rfl (by kernel_rfl)) rfl ?_
    have hbk := blk_alloc (blk_far (blk_far (blk_far (blk_far (blk_set (blk_set (blk_set (blk_set (blk_set (blk_set HG2.out 4 (.int .u32 0)) 5 (.int .i64 0)) 6 (.int .i64 0)) 7 (.int .i64 0)) 1 (.bool false)) 2 (.bool true)) (p := ⟨gr, 0, none⟩) hn3 (.int .u32 q.next.f0)) (p := ⟨gr, 1, none⟩) hn3 (.int .i64 q.next.f1)) (p := ⟨gr, 2, none⟩) hn3 (.int .i64 q.next.f2)) (p := ⟨gr, 3, none⟩) hn3 (.int .i64 q.next.f3)) (.cells #[.int .u32 q.next.f0, .int .i64 q.next.f1, .int .i64 q.next.f2, .int .i64 q.next.f3] 40)
    rw [E.out]
    refine ⟨rfl, ⟨F, ⟨v, Fr, ?_, hbk, HG.out, HR.out⟩, fun k hk => ⟨.inl hk, ?_⟩⟩, ?_⟩
    · refine LR.below ?_ (below_alloc (Below.refl _ _) _)
      repeat (first | (with_reducible exact HLR.out) | refine LR.far ?_ (hne _ rfl) _ | refine LR.far ?_ (hne2 _ rfl) _)
    · have h1 := HF.out k hk
      have h2 := HB2.out.size
      simp only [World.setCell, World.size_alloc, Array.size_modify]
      omega
    · repeat (with_reducible first | exact HC.out | apply Chg.alloc | refine Chg.setCell ?_ (.inl HG.out) _ | refine Chg.setCell ?_ (.inr GE.out) _)
theorem Apply_sl {w0 w : World} {L : List Res} (i : Nat) {g : Nat} {q : QSt} (hi : L[i]? = some (queueR g q)) (h : SL w0 w L) :
    Calls Try.prog 16 #[.pointer (some ⟨g, 0, none⟩)] w fun e w' => e = .returned (rcfg q.next q.acked) ∧ SL w0 w' (L.set i (queueR g (apS q))) :=
  sl_call1 h i hi fun F hP hF => Apply_base g q F w hP hF
theorem Acked_sl {w0 w : World} {L : List Res} (i : Nat) {g : Nat} {q : QSt} (hi : L[i]? = some (queueR g q)) (h : SL w0 w L) :
    Calls Try.prog 18 #[.pointer (some ⟨g, 0, none⟩)] w fun e w' => e = .returned (rcfg q.next q.acked) ∧ SL w0 w' L :=
  sl_read h i hi fun F ⟨v, Fr, _, hb, _, _⟩ _ => Acked_base g v q w hb
theorem Waiting_sl {w0 w : World} {L : List Res} (i : Nat) {g : Nat} {q : QSt} (hi : L[i]? = some (queueR g q)) (h : SL w0 w L) :
    Calls Try.prog 20 #[.pointer (some ⟨g, 0, none⟩)] w fun e w' => e = .returned (.int .i64 q.wait.length) ∧ w = w' := by
  obtain ⟨F, ⟨v, Fr, hq, hb, _, _⟩, _, _⟩ := sl_upd h hi
  exact Waiting_base g v Fr q w hq hb
theorem Configured_sl {w0 w : World} {L : List Res} (i : Nat) {g : Nat} {q : QSt} (hi : L[i]? = some (queueR g q)) (h : SL w0 w L) :
    Calls Try.prog 22 #[.pointer (some ⟨g, 0, none⟩)] w fun e w' => e = .returned (.bool q.conf) ∧ w = w' := by
  obtain ⟨F, ⟨v, Fr, hq, hb, _, _⟩, _, _⟩ := sl_upd h hi
  exact Configured_base g v q w hb
end Go.Proofs.Ytockppikcghmoaa.Q
