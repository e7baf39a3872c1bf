import Derived.Test.YtipmcklkflgppaaMa
namespace Go.Proofs.Ytipmcklkflgppaa.Q
open Go.RowKit Go.Proofs.YtipmcklkflgppaaW.PrintWords Go.Proofs.YtipmcklkflgppaaW.PrintLast Go.Proofs.YtipmcklkflgppaaW.PrintMore Go.Proofs.Ytipmcklkflgppaa.Sl Go.Proofs.Ytipmcklkflgppaa.Hand Go.Proofs.Ytipmcklkflgppaa.Plain
attribute [local go_sem] max2_int min2_int max_two min_two max_three min_three max_four min_four 
set_option linter.unusedVariables false
set_option linter.unusedSimpArgs false

theorem C_castd {α : Type} {d : Kd α} {w : World} {A : Option Addr} {n m : Nat} {xs : List α} (e : n = m) (h : Kd.C d w A n xs) : Kd.C d w A m xs := e ▸ h
theorem lit_LR {w : World} {g : Nat} {F : Nat → Prop} (hF : F g) (hb : w.heap[g]? = some (.cells #[] 5 (0, 0))) : LR (Kd.int .u8) enc8 5 w F (.slice (some ⟨g, 0, none⟩) 0 0) [] := by
  refine ⟨fun k hk => ?_, by simp, .inr ⟨g, 0, 0, #[], by rw [Nat.zero_mul]; rfl, hb, Nat.le_refl _, by simp [maxLen], by simp, by simp⟩⟩
  have : g = k := by simpa [Value.ownBlock] using hk
  exact this ▸ hF
theorem lit_row {w0 w : World} {L : List Res} (h : SL w0 w L) (i : Nat) {g : Nat} (hi : L[i]? = some (cellsR g 5 #[])) : SL w0 w (L.set i (row8 (.slice (some ⟨g, 0, none⟩) 0 0) [])) :=
  sl_imp h hi fun F hP => lit_LR hP.1 hP.2
section
variable {w0 w : World} {L : List Res} {ops : Array Oper} {rest : List Oper} {o : Oper} {a : Act} {Q : Exit → Act → World → Prop}
theorem app8z (h : SL w0 w L) (i : Nat) (ys : List Int) {g : Nat} (hgd : o.guard = none) (s x : Operand) (ho : o.op = .call { callee := .builtin .append, args := #[s, x], argTypes := #[23, 23] })
    {B : Option Addr} {m c : Nat} (hs : a.eval s = .slice (some ⟨g, 0, none⟩) 0 0) (hx : a.eval x = .slice B m c) (hi : L[i]? = some (cellsR g 5 #[])) (hy : Kd.C (Kd.int .u8) w B m ys) (hl : m ≤ 140737488355328)
    (hk : ∀ A c w1, SL w0 w1 (L.set i (row8 (.slice A ys.length c) ys)) → wpList Try.prog ops Q rest (a.put o.dst (.slice A ys.length c)) w1) :
    wpList Try.prog ops Q (o :: rest) a w := by
  have hil : i < L.length := (List.getElem?_eq_some_iff.1 hi).1
  refine app8 (lit_row h i hi) i (.slice (some ⟨g, 0, none⟩) 0 0) [] ys hgd s x ho hs hx (by rw [List.getElem?_set_self hil]) hy (by simpa using hl) (fun A c w1 h1 => ?_)
  rw [List.set_set] at h1
  have := hk A c w1 (by simpa using h1)
  simpa using this
end
theorem sl_formS {w0 w : World} {L : List Res} {b : Nat} {A : Option Addr} {n c : Nat} {fs : List S25} (h : SL w0 w L) (i : Nat) (hi : L[i]? = some (rowS b k25 25 (.slice A n c) fs)) (hp : 0 < fs.length) : ∃ g, A = some ⟨g, 0, none⟩ ∧ n = fs.length ∧ n ≤ c ∧ Kd.C k25 w (some ⟨g, 0, none⟩) fs.length fs := by
  obtain ⟨F, h1, _, _⟩ := sl_upd h hi
  have h1 : Kd.S k25 25 w b F (.slice A n c) fs := h1
  obtain ⟨g, cap, he, _⟩ := Kd.S_form h1 hp
  injection he with e1 e2 e3
  subst e1
  obtain ⟨hn, hc, hC⟩ := Kd.S_reads' h1
  exact ⟨g, rfl, hn, hc, hC⟩
theorem box_C {w : World} {g : Nat} {f : S25} {A : Option Addr} {cc : Nat} (hb : w.heap[g]? = some (.cells #[.int .u32 f.f0, .int .i64 f.f1, .slice A f.f2.length cc] 25 (0, 0))) (hc : f.f2.length ≤ cc) (hr : Kd.C (Kd.int .u8) w A f.f2.length f.f2) : Kd.C k25 w (some ⟨g, 0, none⟩) 1 [f] := by
  refine ⟨rfl, by omega, fun _ => ⟨_, rfl, fun j p hj => ?_⟩⟩
  have hj0 : j = 0 := by
    have := (List.getElem?_eq_some_iff.1 hj).1
    simp at this
    exact this
  subst hj0
  have hp : f = p := by simpa using hj
  subst hp
  refine ⟨_, rfl, k25_mk w f hc hr, fun i u hu => ?_⟩
  rw [Nat.zero_mul, Nat.zero_add]
  exact World.news_of_block hb i u (by simpa using hu)
theorem same_one {w : World} {A B : Option Addr} {c d : Nat} (f : S25) (h0 : Kd.C k25 w A 1 [f]) (h1 : 1 ≤ c) (h2 : Kd.C k25 w B 1 [f]) (h3 : 1 ≤ d) :
    Calls Try.prog 15 #[.slice A 1 c, .slice B 1 d] w fun e w' => e = .returned (.bool true) ∧ Drawn0 w w' := same_yes [f] (by simp) h0 h1 h2 h3
theorem elem_C {w : World} {g : Nat} {fs : List S25} {f : S25} (hC : Kd.C k25 w (some ⟨g, 0, none⟩) fs.length fs) (i : Nat) (hi : i < fs.length) (hf : fs.getD i z25 = f) : Kd.C k25 w (some ⟨g, i * 3, none⟩) 1 [f] := by
  obtain ⟨_, hm, hc⟩ := hC
  obtain ⟨ad, e, hcell⟩ := hc (by omega)
  injection e with e
  subst e
  have hfi : fs[i]? = some f := by
    rw [List.getElem?_eq_getElem hi]
    rw [List.getD_eq_getElem?_getD, List.getElem?_eq_getElem hi] at hf
    exact congrArg some hf
  obtain ⟨c, hcl, hK, hcc⟩ := hcell i f hfi
  refine ⟨rfl, by omega, fun _ => ⟨_, rfl, fun j p hj => ?_⟩⟩
  have hj0 : j = 0 := by
    have := (List.getElem?_eq_some_iff.1 hj).1
    simp at this
    exact this
  subst hj0
  have hp : f = p := by simpa using hj
  subst hp
  refine ⟨c, hcl, hK, fun q u hu => ?_⟩
  have := hcc q u hu
  rw [add_at, Nat.zero_add] at this
  rw [add_at, Nat.zero_mul, Nat.zero_add]
  exact this
theorem getD_set {fs : List S25} {i : Nat} (hi : i < fs.length) (e : S25) : (fs.set i e).getD i z25 = e := by
  rw [List.getD_eq_getElem?_getD, List.getElem?_set_self hi]; rfl
theorem getD_set_ne {fs : List S25} {i j : Nat} (h : i ≠ j) (e : S25) : (fs.set i e).getD j z25 = fs.getD j z25 := by
  rw [List.getD_eq_getElem?_getD, List.getD_eq_getElem?_getD, List.getElem?_set_ne h]
theorem set_same {fs : List S25} {i : Nat} {f : S25} (hi : i < fs.length) (hf : fs.getD i z25 = f) : fs.set i ⟨f.f0, f.f1, f.f2⟩ = fs := by
  rw [List.getD_eq_getElem?_getD, List.getElem?_eq_getElem hi] at hf
  have hf : fs[i] = f := hf
  show fs.set i f = fs
  rw [← hf, List.set_getElem_self]
theorem sl_bset2 {w0 w : World} {L : List Res} (h : SL w0 w L) (p : Nat) {b g n cap : Nat} {fs : List S25} {o c : Int} {ys : List Int} (i : Nat) (hp : L[p]? = some (rowS b k25 25 (.slice (some ⟨g, 0, none⟩) n cap) (fs.set i ⟨o, c, ys⟩))) (hi : i < fs.length) (hn : n = fs.length) (j : Nat) (hj : j < ys.length) :
    ∃ g2 c2, w.cell? ⟨g, i * 3 + 2, none⟩ = some (.slice (some ⟨g2, 0, none⟩) ys.length c2) ∧ (∃ old, w.cell? ⟨g2, j, none⟩ = some (.int .u8 old)) ∧ w.frozen? ⟨g2, j, none⟩ = false ∧ g2 < w.heap.size ∧
      ∀ y, SL w0 (w.setCell ⟨g2, j, none⟩ (.int .u8 y)) (L.set p (rowS b k25 25 (.slice (some ⟨g, 0, none⟩) n cap) (fs.set i ⟨o, c, ys.set j y⟩))) := by
  have e := getD_set hi (⟨o, c, ys⟩ : S25)
  obtain ⟨g2, c2, k1, k2, k3, k4, k5⟩ := sl_bset h p hp i (by omega) j (by rw [e]; exact hj)
  rw [e] at k1
  refine ⟨g2, c2, k1, k2, k3, k4, fun y => ?_⟩
  have := k5 y
  rw [e, List.set_set] at this
  exact this
theorem wrap_succ {i : Nat} (h : i ≤ 2) : wrap64 ((i : Int) + 1) = (i : Int) + 1 := by unfold wrap64; omega
theorem succ_toNat (i : Nat) : ((i : Int) + 1).toNat = i + 1 := by omega
theorem succ_sub (i : Nat) : i + 1 - i = 1 := by omega
theorem wrap_two : wrap64 2 = 2 := by unfold wrap64; omega
theorem mem_feed {f : S25} (hf : fitsP f) (K : Nat) : ∃ F1 E1 Q1 F2 Q2, feedF ⟨false, []⟩ ((enc f ++ enc f).take K) = F1 ∧ feedE ⟨false, []⟩ ((enc f ++ enc f).take K) = E1 ∧ feedS ⟨false, []⟩ ((enc f ++ enc f).take K) = Q1 ∧
    feedF Q1 ((enc f ++ enc f).drop K) = F2 ∧ feedE Q1 ((enc f ++ enc f).drop K) = 0 ∧ feedS Q1 ((enc f ++ enc f).drop K) = Q2 ∧ F1 ++ F2 = [f, f] ∧ (∀ x ∈ Q1.bytes, 0 ≤ x ∧ x < 256) ∧ Q1.bytes.length ≤ ((enc f ++ enc f).take K).length := by
  have hb := enc_byte hf
  have ht := bytes_app hb hb
  have h1 : ∀ x ∈ (enc f ++ enc f).take K, 0 ≤ x ∧ x < 256 := fun x hx => ht x (List.mem_of_mem_take hx)
  have h2 : ∀ x ∈ (enc f ++ enc f).drop K, 0 ≤ x ∧ x < 256 := bytes_drop ht K
  have s1 := (SInv.step SInv.nil (by simp) h1).1
  rw [List.nil_append, List.nil_append, if_pos rfl] at s1
  have s2 := (SInv.step s1 h1 h2).1
  rw [List.take_append_drop] at s2
  have hs := sp_all [f, f] (fun g hg => by
    have : g = f := by simpa using hg
    rw [this]; exact hf)
  have e : encs [f, f] = enc f ++ enc f := by simp [encs]
  rw [e] at hs
  obtain ⟨n, e1, _⟩ := SInv.out s2 ht
  rw [hs] at e1
  have e2 := congrArg Prod.fst e1
  have e3 := congrArg (fun p => p.2.2) e1
  simp only at e2 e3
  have hl := SInv.len s1 h1
  have e4 : feedE (feedS ⟨false, []⟩ ((enc f ++ enc f).take K)) ((enc f ++ enc f).drop K) = 0 := by
    by_cases hz : feedE ⟨false, []⟩ ((enc f ++ enc f).take K) = 0
    · rw [if_pos hz] at e3; exact e3.symm
    · rw [if_neg hz] at e3; exact absurd e3.symm hz
  exact ⟨_, _, _, _, _, rfl, rfl, rfl, rfl, e4, rfl, e2.symm, hl.2.2, hl.1⟩
set_option maxHeartbeats 16000000 in
set_option maxRecDepth 100000 in
theorem Memory_calls (f : S25) (A : Option Addr) (cc ct : Nat) (w : World) (hr : Kd.C (Kd.int .u8) w A f.f2.length f.f2) (hc : f.f2.length ≤ cc) (hf0 : 0 ≤ f.f0 ∧ f.f0 < 4294967296) (hb : ∀ x ∈ f.f2, 0 ≤ x ∧ x < 256) (hct : ct < 65536) :
    Calls Try.prog 6 #[.agg #[.int .u32 f.f0, .int .i64 f.f1, .slice A f.f2.length cc], .int .u16 (ct : Int)] w fun e w' => e = .returned (.bool true) ∧ Below w.heap.size w w' := by
  have HR := Aside0.mk hr
  have HC := Aside0.mk hc
  have hm := hr.2.1
  have HS := Aside0.mk (sl_start w)
  clear hr hc
  by_cases h2k : 2000 < f.f2.length
  · have b1 : decide (2000 < (f.f2.length : Int)) = true := decide_eq_true (by omega)
    clear h2k
    go_enter Try.func6, Try.ntmps6
    go_wp2_with (first
      | ((with_reducible refine gate_dst (N := 2) rfl ?_); refine box_event ?hg (N := 2) ?hd (cs := #[.int .u32 f.f0, .int .i64 f.f1, .slice A f.f2.length cc]) (t := 25) ?hr ?_; (case hd => rfl); (case hg => rfl); (case hr => first | (go_simp; done) | (go_simp; rfl)); intro gf hg w1 hbox hb; have HS := Aside0.mk (sl_box' HS.out hb (by omega) hbox); have x0 := (blk_cell (sl_blk HS.out 0 rfl) 0).trans (show _ = some (Value.int .u32 f.f0) from rfl); have x1 := (blk_cell (sl_blk HS.out 0 rfl) 1).trans (show _ = some (Value.int .i64 f.f1) from rfl); have x2 := (blk_cell (sl_blk HS.out 0 rfl) 2).trans (show _ = some (Value.slice A f.f2.length cc) from rfl); clear hbox hb hg)
      | (go_at_call 10; refine (ex_sl (by repeat (with_reducible first | exact HS.out | apply sl_drewN | apply sl_drew | apply sl_alloc))).mono ?_; rintro e w1 ⟨rfl, hs⟩; clear x0 x1 x2; (try simp only [World.size_alloc] at hs); replace HS := Aside0.mk hs; clear hs))
    go_ret
    exact ⟨rfl, sl_below0 HS.out⟩
  have b1 : decide (2000 < (f.f2.length : Int)) = false := decide_eq_false (by omega)
  have H2K := Aside0.mk h2k
  by_cases hfit : fitsB f
  rotate_left
  · have HNo := Aside0.mk hfit
    clear hfit h2k
    go_enter Try.func6, Try.ntmps6
    go_wp2_with (first
      | ((with_reducible refine gate_dst (N := 2) rfl ?_); refine box_event ?hg (N := 2) ?hd (cs := #[.int .u32 f.f0, .int .i64 f.f1, .slice A f.f2.length cc]) (t := 25) ?hr ?_; (case hd => rfl); (case hg => rfl); (case hr => first | (go_simp; done) | (go_simp; rfl)); intro gf hg w1 hbox hb; have HS := Aside0.mk (sl_box' HS.out hb (by omega) hbox); have x0 := (blk_cell (sl_blk HS.out 0 rfl) 0).trans (show _ = some (Value.int .u32 f.f0) from rfl); have x1 := (blk_cell (sl_blk HS.out 0 rfl) 1).trans (show _ = some (Value.int .i64 f.f1) from rfl); have x2 := (blk_cell (sl_blk HS.out 0 rfl) 2).trans (show _ = some (Value.slice A f.f2.length cc) from rfl); clear hbox hb hg)
      | (go_at_call 11; refine (Put_no (by repeat (with_reducible first | exact HS.out | apply sl_drewN | apply sl_drew | apply sl_alloc)) f A cc HNo.out (by have := H2K.out; omega) (Kd.C_below HR.out (sl_below0 (by repeat (with_reducible first | exact HS.out | apply sl_drewN | apply sl_drew | apply sl_alloc)))) HC.out).mono ?_; rintro e w1 ⟨A3, c3, er, rfl, her, hs⟩; clear x0 x1 x2; (try simp only [World.size_alloc] at hs); replace HS := Aside0.mk hs; clear hs; have x0 := (blk_cell (sl_blk HS.out 0 rfl) 0).trans (show _ = some (Value.int .u32 f.f0) from rfl); have x1 := (blk_cell (sl_blk HS.out 0 rfl) 1).trans (show _ = some (Value.int .i64 f.f1) from rfl); have x2 := (blk_cell (sl_blk HS.out 0 rfl) 2).trans (show _ = some (Value.slice A f.f2.length cc) from rfl))
      | (go_at_call 10; refine (ex_sl (by repeat (with_reducible first | exact HS.out | apply sl_drewN | apply sl_drew | apply sl_alloc))).mono ?_; rintro e w1 ⟨rfl, hs⟩; clear x0 x1 x2; (try simp only [World.size_alloc] at hs); replace HS := Aside0.mk hs; clear hs))
    go_ret
    exact ⟨rfl, sl_below0 HS.out⟩
  have HFit := Aside0.mk hfit
  have HP := Aside0.mk (show fitsP f from ⟨hf0.1, hf0.2, hfit.1, hfit.2.1, hfit.2.2.1, hfit.2.2.2, hb⟩)
  have HN := Aside0.mk (enc_len f)
  obtain ⟨N, hN⟩ : ∃ N, (enc f).length = N := ⟨_, rfl⟩
  have HN2 := Aside0.mk hN
  have hN1 : 8 ≤ N ∧ N ≤ 2008 := by have := enc_len f; omega
  have HT := Aside0.mk (show (enc f ++ enc f).length = N + N by rw [List.length_append, hN])
  obtain ⟨K, hK⟩ : ∃ K : Nat, K = ct % (N + N + 1) := ⟨_, rfl⟩
  have hK1 : K ≤ N + N := by
    have := Nat.mod_lt ct (show 0 < N + N + 1 by omega)
    omega
  have hKi : Int.tmod (ct : Int) ((N : Int) + (N : Int) + 1) = (K : Int) := by
    have h_ : ((ct % (N + N + 1) : Nat) : Int) = (ct : Int) % ((N + N + 1 : Nat) : Int) := by simp
    rw [show ((N + N + 1 : Nat) : Int) = (N : Int) + (N : Int) + 1 by omega] at h_
    rw [Int.tmod_eq_emod_of_nonneg (by omega), hK]
    exact h_.symm
  have HK1 := Aside0.mk hK1
  obtain ⟨F1, E1, Q1, F2, Q2, e1, e2, e3, e4, e5, e6, e7, e8, e9⟩ := mem_feed HP.out K
  have HE1 := Aside0.mk e1
  have HE2 := Aside0.mk e2
  have HE3 := Aside0.mk e3
  have HE4 := Aside0.mk e4
  have HE5 := Aside0.mk e5
  have HE6 := Aside0.mk e6
  have HE7 := Aside0.mk e7
  have HE8 := Aside0.mk e8
  have HE9 := Aside0.mk e9
  have HBt := Aside0.mk (bytes_app (enc_byte HP.out) (enc_byte HP.out))
  have HTk := Aside0.mk (show ((enc f ++ enc f).take K).length = K by rw [List.length_take, HT.out]; omega)
  have HDr := Aside0.mk (show ((enc f ++ enc f).drop K).length = N + N - K by rw [List.length_drop, HT.out])
  have HKt := Aside0.mk (show K ≤ (enc f ++ enc f).length by rw [HT.out]; omega)
  have HBk := Aside0.mk (show ∀ x ∈ (enc f ++ enc f).take K, 0 ≤ x ∧ x < 256 from fun x hx => HBt.out x (List.mem_of_mem_take hx))
  have HBd := Aside0.mk (bytes_drop HBt.out K)
  clear hK hfit hf0 hb h2k hN e1 e2 e3 e4 e5 e6 e7 e8 e9
  obtain ⟨n1, n2⟩ := hN1
  have z1 : (N : Int) + (N : Int) + 1 ≠ 0 := by omega
  have k0 : (0 : Int) ≤ (K : Int) := by omega
  go_enter Try.func6, Try.ntmps6
  go_wp2_with (first
    | ((with_reducible refine gate_dst (N := 2) rfl ?_); refine box_event ?hg (N := 2) ?hd (cs := #[.int .u32 f.f0, .int .i64 f.f1, .slice A f.f2.length cc]) (t := 25) ?hr ?_; (case hd => rfl); (case hg => rfl); (case hr => first | (go_simp; done) | (go_simp; rfl)); intro gf hg w1 hbox hb; have HS := Aside0.mk (sl_box' HS.out hb (by omega) hbox); have x0 := (blk_cell (sl_blk HS.out 0 rfl) 0).trans (show _ = some (Value.int .u32 f.f0) from rfl); have x1 := (blk_cell (sl_blk HS.out 0 rfl) 1).trans (show _ = some (Value.int .i64 f.f1) from rfl); have x2 := (blk_cell (sl_blk HS.out 0 rfl) 2).trans (show _ = some (Value.slice A f.f2.length cc) from rfl); clear hbox hb hg)
    | (go_at_call 11; refine (Put_yes (by repeat (with_reducible first | exact HS.out | apply sl_drewN | apply sl_drew | apply sl_alloc)) f A cc HFit.out (Kd.C_below HR.out (sl_below0 (by repeat (with_reducible first | exact HS.out | apply sl_drewN | apply sl_drew | apply sl_alloc)))) HC.out).mono ?_; rw [HN2.out]; rintro e w2 ⟨A3, c3, rfl, hs⟩; clear x0 x1 x2; (try simp only [World.size_alloc] at hs); replace HS := Aside0.mk hs; clear hs; have x0 := (blk_cell (sl_blk HS.out 0 rfl) 0).trans (show _ = some (Value.int .u32 f.f0) from rfl); have x1 := (blk_cell (sl_blk HS.out 0 rfl) 1).trans (show _ = some (Value.int .i64 f.f1) from rfl); have x2 := (blk_cell (sl_blk HS.out 0 rfl) 2).trans (show _ = some (Value.slice A f.f2.length cc) from rfl))
    | (at_builtin; refine app8z (by repeat (with_reducible first | exact HS.out | apply sl_drewN | apply sl_drew | apply sl_box | apply sl_alloc)) 2 (enc f) rfl (.tmp 31) (.tmp 32) rfl rfl rfl (by rfl) (C_castd HN2.out (sl_readsN' (by repeat (with_reducible first | exact HS.out | apply sl_drewN | apply sl_drew | apply sl_box | apply sl_alloc)) 1 (by rfl)).2.2) (by omega) ?_; rw [HN2.out]; clear x0 x1 x2; intro A4 c4 w3 hs; (try simp only [World.size_alloc] at hs); replace HS := Aside0.mk hs; clear hs; have x0 := (blk_cell (sl_blk HS.out 0 rfl) 0).trans (show _ = some (Value.int .u32 f.f0) from rfl); have x1 := (blk_cell (sl_blk HS.out 0 rfl) 1).trans (show _ = some (Value.int .i64 f.f1) from rfl); have x2 := (blk_cell (sl_blk HS.out 0 rfl) 2).trans (show _ = some (Value.slice A f.f2.length cc) from rfl))
    | (at_builtin; refine app8 (by repeat (with_reducible first | exact HS.out | apply sl_drewN | apply sl_drew | apply sl_alloc)) 2 (.slice A4 N c4) (enc f) (enc f) rfl (.tmp 33) (.tmp 34) rfl rfl rfl (by rfl) (C_castd HN2.out (sl_readsN' (by repeat (with_reducible first | exact HS.out | apply sl_drewN | apply sl_drew | apply sl_alloc)) 1 (by rfl)).2.2) (by have := HN2.out; omega) ?_; rw [HN2.out]; clear x0 x1 x2; intro A5 c5 w4 hs; (try simp only [World.size_alloc] at hs); replace HS := Aside0.mk hs; clear hs; have x0 := (blk_cell (sl_blk HS.out 0 rfl) 0).trans (show _ = some (Value.int .u32 f.f0) from rfl); have x1 := (blk_cell (sl_blk HS.out 0 rfl) 1).trans (show _ = some (Value.int .i64 f.f1) from rfl); have x2 := (blk_cell (sl_blk HS.out 0 rfl) 2).trans (show _ = some (Value.slice A f.f2.length cc) from rfl); have q5 : (K : Int) ≤ (c5 : Int) := (by have h_ := sl_cap flat8 HS.out 2 (by rfl); omega))
    | (go_at_call 16; refine (D0_sl (by repeat (with_reducible first | exact HS.out | apply sl_drewN | apply sl_drew | apply sl_alloc))).mono ?_; rintro e w5 ⟨g, rfl, hs⟩; clear x0 x1 x2; (try simp only [World.size_alloc] at hs); replace HS := Aside0.mk hs; clear hs; have x0 := (blk_cell (sl_blk HS.out 0 rfl) 0).trans (show _ = some (Value.int .u32 f.f0) from rfl); have x1 := (blk_cell (sl_blk HS.out 0 rfl) 1).trans (show _ = some (Value.int .i64 f.f1) from rfl); have x2 := (blk_cell (sl_blk HS.out 0 rfl) 2).trans (show _ = some (Value.slice A f.f2.length cc) from rfl))
    | (at_builtin; refine app8z (by repeat (with_reducible first | exact HS.out | apply sl_drewN | apply sl_drew | apply sl_box | apply sl_alloc)) 4 ((enc f ++ enc f).take K) rfl (.tmp 43) (.tmp 46) rfl rfl rfl (by rfl) (C_castd HTk.out (Kd.C_take (sl_reads' flat8 (by repeat (with_reducible first | exact HS.out | apply sl_drewN | apply sl_drew | apply sl_box | apply sl_alloc)) 2 (by rfl)) HKt.out)) (by omega) ?_; rw [HTk.out]; clear x0 x1 x2; intro A6 c6 w6 hs; (try simp only [World.size_alloc] at hs); replace HS := Aside0.mk hs; clear hs; have x0 := (blk_cell (sl_blk HS.out 0 rfl) 0).trans (show _ = some (Value.int .u32 f.f0) from rfl); have x1 := (blk_cell (sl_blk HS.out 0 rfl) 1).trans (show _ = some (Value.int .i64 f.f1) from rfl); have x2 := (blk_cell (sl_blk HS.out 0 rfl) 2).trans (show _ = some (Value.slice A f.f2.length cc) from rfl))
    | (go_at_call 17; refine (Feed_T (by repeat (with_reducible first | exact HS.out | apply sl_drewN | apply sl_drew | apply sl_alloc)) 3 A6 c6 K ((enc f ++ enc f).take K) HTk.out.symm HE1.out HE2.out HE3.out (by rfl) (sl_reads' flat8 (by repeat (with_reducible first | exact HS.out | apply sl_drewN | apply sl_drew | apply sl_alloc)) 4 (by rfl)) (by have h_ := sl_cap flat8 (by repeat (with_reducible first | exact HS.out | apply sl_drewN | apply sl_drew | apply sl_alloc)) 4 (by rfl); rw [HTk.out]; exact h_) (by simp) HBk.out (by rw [HTk.out]; simp; omega)).mono ?_; rintro e w7 ⟨A7, c7, bs, rfl, hs⟩; clear x0 x1 x2; (try simp only [World.size_alloc] at hs); replace HS := Aside0.mk hs; clear hs; have x0 := (blk_cell (sl_blk HS.out 0 rfl) 0).trans (show _ = some (Value.int .u32 f.f0) from rfl); have x1 := (blk_cell (sl_blk HS.out 0 rfl) 1).trans (show _ = some (Value.int .i64 f.f1) from rfl); have x2 := (blk_cell (sl_blk HS.out 0 rfl) 2).trans (show _ = some (Value.slice A f.f2.length cc) from rfl)))
  go_loopg [56] K (fun kq v56 wr => ∃ (i : Nat) (xs : List Int), v56 = .int .i64 (i : Int) ∧ Aside0 (i + kq = K) ∧ Aside0 (SL w wr [cellsR gf 25 #[.int .u32 f.f0, .int .i64 f.f1, .slice A f.f2.length cc], rowB w (.slice A3 N c3) (enc f), row8 (.slice A5 (N + N) c5) (enc f ++ enc f), decR g Q1, row8 (.slice A6 K c6) xs, rowS bs k25 25 (.slice A7 F1.length c7) F1]))
  case atStart => exact ⟨0, (enc f ++ enc f).take K, rfl, ⟨by omega⟩, HS⟩
  case round =>
    clear HS x0 x1 x2
    obtain ⟨i, xs, rfl, HI, HS⟩ := hrel
    have hi := HI.out
    by_cases hlt : i < K
    · have b2 : decide (i < K) = true := decide_eq_true hlt
      obtain ⟨kq, rfl⟩ : ∃ m, gk = m + 1 := ⟨gk - 1, by omega⟩
      have hC := sl_reads' flat8 HS.out 4 (by rfl)
      have hxl : K = xs.length := by
        obtain ⟨_, _, h1, _⟩ := sl_reads flat8 HS.out 4 (by rfl)
        injection h1
      obtain ⟨ad, rfl, _⟩ := Kd.at_int hC (i : Int) (by omega) (by omega)
      obtain ⟨⟨old, y0⟩, yf, yl, hset⟩ := sl_set8 HS.out 4 (by rfl) i hlt
      have HSet := Aside0.mk hset
      have p1 : (0 : Int) ≤ (i : Int) := by omega
      have p2 : (i : Int) < (K : Int) := by omega
      clear hC hxl hset hlt hi
      go_wp2_with (fail)
      go_roundg kq
      case measure => omega
      case rel => exact ⟨i + 1, xs.set i _, rfl, ⟨by have := HI.out; omega⟩, ⟨HSet.out _⟩⟩
    · have b2 : decide (i < K) = false := decide_eq_false hlt
      clear hlt hi
      go_wp2_with (fail)
      have HF1 := Aside0.mk (show F1.length ≤ 2 ∧ ∀ j, j < F1.length → F1.getD j z25 = f by
        have h_ := HE7.out
        have hl_ := congrArg List.length h_
        rw [List.length_append] at hl_
        refine ⟨by simp at hl_; omega, fun j hj => ?_⟩
        have h1 : (F1 ++ F2).getD j z25 = F1.getD j z25 := by rw [List.getD_eq_getElem?_getD, List.getD_eq_getElem?_getD, List.getElem?_append_left hj]
        rw [← h1, h_]
        have : j < 2 := by simp at hl_; omega
        rcases j with _ | _ | j
        · rfl
        · rfl
        · omega)
      have HS2 := Aside0.mk (sl_pick HS.out [0, 1, 2, 3, 5] (by decide) (L' := [cellsR gf 25 #[.int .u32 f.f0, .int .i64 f.f1, .slice A f.f2.length cc], rowB w (.slice A3 N c3) (enc f), row8 (.slice A5 (N + N) c5) (enc f ++ enc f), decR g Q1, rowS bs k25 25 (.slice A7 F1.length c7) F1]) rfl)
      clear HS
      go_loopg [68] F1.length (fun kq v68 wr => ∃ (i : Nat) (fs : List S25), v68 = .int .i64 (i : Int) ∧ Aside0 (i + kq = F1.length) ∧ Aside0 (fs.length = F1.length ∧ ∀ j, i ≤ j → j < F1.length → fs.getD j z25 = f) ∧ Aside0 (SL w wr [cellsR gf 25 #[.int .u32 f.f0, .int .i64 f.f1, .slice A f.f2.length cc], rowB w (.slice A3 N c3) (enc f), row8 (.slice A5 (N + N) c5) (enc f ++ enc f), decR g Q1, rowS bs k25 25 (.slice A7 F1.length c7) fs]))
      case atStart => exact ⟨0, F1, rfl, ⟨by omega⟩, ⟨⟨rfl, fun j _ hj => HF1.out.2 j hj⟩⟩, HS2⟩
      case round =>
        clear HS2
        obtain ⟨i2, fs, rfl, HI2, HFs, HS⟩ := hrel
        have hi := HI2.out
        have hf2 := HF1.out.1
        by_cases hlt : i2 < F1.length
        · have b3 : decide (i2 < F1.length) = true := decide_eq_true hlt
          obtain ⟨kq, rfl⟩ : ∃ m, gk = m + 1 := ⟨gk - 1, by omega⟩
          obtain ⟨g7, rfl, hn7, hc7, hC7⟩ := sl_formS HS.out 4 (by rfl) (by have := HFs.out.1; omega)
          have hfi := HFs.out.2 i2 (Nat.le_refl _) hlt
          have HC7 := Aside0.mk hC7
          have HFi := Aside0.mk hfi
          have p1 : (0 : Int) ≤ (i2 : Int) := by omega
          have p2 : (i2 : Int) < (F1.length : Int) := by omega
          have p3 : (i2 : Int) + 1 ≤ (c7 : Int) := by omega
          have p4 : (i2 : Int) ≤ (i2 : Int) + 1 := by omega
          have hi2 : i2 ≤ 2 := by omega
          have hq0 : (0 : Int) ≤ (i2 : Int) + 1 := by omega
          have ht := succ_toNat i2
          have hq2 : i2 ≤ i2 + 1 := by omega
          have hq3 : (c7 = i2) = False := eq_false (by omega)
          have hq4 := succ_sub i2
          have hq5 : 1 ≤ c7 - i2 := by omega
          have HLi := Aside0.mk (show i2 < fs.length by have := HFs.out.1; omega)
          have hw := wrap_succ hi2
          clear hC7 hfi hlt hi hn7 hc7
          have x0 := (blk_cell (sl_blk HS.out 0 rfl) 0).trans (show _ = some (Value.int .u32 f.f0) from rfl)
          have x1 := (blk_cell (sl_blk HS.out 0 rfl) 1).trans (show _ = some (Value.int .i64 f.f1) from rfl)
          have x2 := (blk_cell (sl_blk HS.out 0 rfl) 2).trans (show _ = some (Value.slice A f.f2.length cc) from rfl)
          go_upto_region 19 with (fail)
          refine start_ (n := 9) (S := fun w' => w'.cell? ⟨gf, 0, none⟩ = some (.int .u32 f.f0) ∧ w'.cell? ⟨gf, 1, none⟩ = some (.int .i64 f.f1) ∧ w'.cell? ⟨gf, 2, none⟩ = some (.slice A f.f2.length cc)) (ds := []) #[false, false, false, false, false, false, false, false, false] (by kernel_rfl) rfl rfl ⟨x0, x1, x2⟩ (fun hHeld => ?_)
          refine pure_ (i := 0) (N := some 71) (v := ?_) (a' := ?_) #[true, false, false, false, false, false, false, false, false] rfl rfl (by kernel_rfl) (fun _ _ _ h => h) (Or.inl ⟨by rfl, ?_⟩) ?_ ?_
          rotate_left
          · intro w'
            go_simp
            with_reducible rfl
          rotate_left
          · simp only [Act.put, List.setIfInBounds_toArray, List.set_cons_zero, List.set_cons_succ, i64_w, i32_w, IntKind.wrap_u32, IntKind.wrap_u8, IntKind.wrap_u16]
            rfl
          refine pure_ (i := 1) (N := some 72) (v := ?_) (a' := ?_) #[true, true, false, false, false, false, false, false, false] rfl rfl (by kernel_rfl) (fun _ _ _ h => h) (Or.inl ⟨by rfl, ?_⟩) ?_ ?_
          rotate_left
          · intro w'
            go_simp
            with_reducible rfl
          rotate_left
          · simp only [Act.put, List.setIfInBounds_toArray, List.set_cons_zero, List.set_cons_succ, i64_w, i32_w, IntKind.wrap_u32, IntKind.wrap_u8, IntKind.wrap_u16]
            rfl
          refine pure_ (i := 2) (N := some 73) (v := ?_) (a' := ?_) #[true, true, true, false, false, false, false, false, false] rfl rfl (by kernel_rfl) (fun _ _ _ h => h) (Or.inl ⟨by rfl, ?_⟩) ?_ ?_
          rotate_left
          · intro w'
            go_simp
            with_reducible rfl
          rotate_left
          · simp only [Act.put, List.setIfInBounds_toArray, List.set_cons_zero, List.set_cons_succ, i64_w, i32_w, IntKind.wrap_u32, IntKind.wrap_u8, IntKind.wrap_u16]
            rfl
          refine pure_ (i := 3) (N := some 74) (v := ?_) (a' := ?_) #[true, true, true, true, false, false, false, false, false] rfl rfl (by kernel_rfl) (fun _ _ _ h => h) (Or.inl ⟨by rfl, ?_⟩) ?_ ?_
          rotate_left
          · intro w'
            go_simp
            with_reducible rfl
          rotate_left
          · simp only [Act.put, List.setIfInBounds_toArray, List.set_cons_zero, List.set_cons_succ, i64_w, i32_w, IntKind.wrap_u32, IntKind.wrap_u8, IntKind.wrap_u16]
            rfl
          refine pure_ (i := 4) (N := some 75) (v := ?_) (a' := ?_) #[true, true, true, true, true, false, false, false, false] rfl rfl (by kernel_rfl) (fun _ _ _ h => h) (Or.inl ⟨by rfl, ?_⟩) ?_ ?_
          rotate_left
          · intro w'
            go_simp
            with_reducible rfl
          rotate_left
          · simp only [Act.put, List.setIfInBounds_toArray, List.set_cons_zero, List.set_cons_succ, i64_w, i32_w, IntKind.wrap_u32, IntKind.wrap_u8, IntKind.wrap_u16]
            rfl
          refine take_ (i := 5) (N := some 76) (v := ?_) (a' := ?_) #[true, true, true, true, true, true, false, false, false] rfl rfl (by kernel_rfl) (fun _ _ _ h => h) (Or.inl ⟨by rfl, ?_⟩) hHeld ?_ ?_
          rotate_left
          · rintro w' ⟨s0, s1, s2⟩
            go_simp
            with_reducible rfl
          rotate_left
          · simp only [Act.put, List.setIfInBounds_toArray, List.set_cons_zero, List.set_cons_succ, i64_w, i32_w, IntKind.wrap_u32, IntKind.wrap_u8, IntKind.wrap_u16]
            rfl
          refine one_ (i := 6) (N := some 77) #[true, true, true, true, true, true, true, false, false] rfl rfl (by kernel_rfl) (by decide) (fun K hK => ?_)
          refine value_ (w1 := ?_) (v := ?_) (by rfl) rfl ?_ ?_
          rotate_left 2
          · go_simp
            constructor
            · rfl
            · rfl
          refine hK.out _ _ ⟨(pw_cell_below (by with_reducible first | exact below_alloc (below_drew (Below.refl _ _)) _ | exact below_drew (below_alloc (Below.refl _ _) _)) x0), (pw_cell_below (by with_reducible first | exact below_alloc (below_drew (Below.refl _ _)) _ | exact below_drew (below_alloc (Below.refl _ _) _)) x1), (pw_cell_below (by with_reducible first | exact below_alloc (below_drew (Below.refl _ _)) _ | exact below_drew (below_alloc (Below.refl _ _) _)) x2)⟩ (fun hHeld => ?_)
          clear hK K
          refine norm_ (a' := ?_) ?_ ?_
          rotate_left
          · show Act.put _ (some 77) _ = _
            simp only [Act.put, List.setIfInBounds_toArray, List.set_cons_zero, List.set_cons_succ, i64_w, i32_w, IntKind.wrap_u32, IntKind.wrap_u8, IntKind.wrap_u16]
            rfl
          refine one_ (i := 7) (N := some 78) #[true, true, true, true, true, true, true, true, false] rfl rfl (by kernel_rfl) (by decide) (fun K hK => ?_)
          refine goes_ Try.func15 (by kernel_rfl) rfl #[.slice (some ⟨g7, i2 * 3, none⟩) 1 (c7 - i2), .slice (some ⟨_, 0, none⟩) 1 1] (by rfl) rfl rfl (by (try simp only [List.map_toArray, List.map_cons, List.map_nil]); first | done | rfl) ?_
          with_reducible refine (same_one f (elem_C (Kd.C_below HC7.out (by with_reducible first | exact below_alloc (below_drew (Below.refl _ _)) _ | exact below_drew (below_alloc (Below.refl _ _) _))) i2 HLi.out HFi.out) hq5 (box_C (by with_reducible first | exact heap_alloc_new _ _ | exact blk_drew (heap_alloc_new _ _)) HC.out (Kd.C_below HR.out (sl_below0 (w0 := w) (by with_reducible first | exact sl_alloc (sl_drew HS.out) _ | exact sl_drew (sl_alloc HS.out _))))) (Nat.le_refl _)).mono ?_
          rintro e w3 ⟨rfl, nd, rfl⟩
          refine ⟨_, rfl, ?_⟩
          refine hK.out _ _ ⟨(pw_cell_below (pw_below_drewN (by with_reducible first | exact below_alloc (below_drew (Below.refl _ _)) _ | exact below_drew (below_alloc (Below.refl _ _) _)) nd) x0), (pw_cell_below (pw_below_drewN (by with_reducible first | exact below_alloc (below_drew (Below.refl _ _)) _ | exact below_drew (below_alloc (Below.refl _ _) _)) nd) x1), (pw_cell_below (pw_below_drewN (by with_reducible first | exact below_alloc (below_drew (Below.refl _ _)) _ | exact below_drew (below_alloc (Below.refl _ _) _)) nd) x2)⟩ (fun hHeld => ?_)
          clear hK K
          refine norm_ (a' := ?_) ?_ ?_
          rotate_left
          · show Act.put _ (some 78) _ = _
            simp only [Act.put, List.setIfInBounds_toArray, List.set_cons_zero, List.set_cons_succ, i64_w, i32_w, IntKind.wrap_u32, IntKind.wrap_u8, IntKind.wrap_u16]
            rfl
          refine pure_ (i := 8) (N := some 79) (v := ?_) (a' := ?_) #[true, true, true, true, true, true, true, true, true] rfl rfl (by kernel_rfl) (fun _ _ _ h => h) (Or.inl ⟨by rfl, ?_⟩) ?_ ?_
          rotate_left
          · intro w'
            go_simp
            with_reducible rfl
          rotate_left
          · simp only [Act.put, List.setIfInBounds_toArray, List.set_cons_zero, List.set_cons_succ, i64_w, i32_w, IntKind.wrap_u32, IntKind.wrap_u8, IntKind.wrap_u16]
            rfl
          refine done_ (by kernel_rfl) ?_
          go_upto_region 21 with (fail)
          refine world_gen (F := fun w_ => Code.wp Try.prog _ _ _ w_) (fun w_ => SL w w_ [cellsR gf 25 #[.int .u32 f.f0, .int .i64 f.f1, .slice A f.f2.length cc], rowB w (.slice A3 N c3) (enc f), row8 (.slice A5 (N + N) c5) (enc f ++ enc f), decR g Q1, rowS bs k25 25 (.slice (some ⟨g7, 0, none⟩) F1.length c7) fs]) (by exact sl_drewN (sl_alloc (sl_drew HS.out) _) _) ?_
          clear HS HC7 x0 x1 x2 hw hq0 ht hq2 hq3 hq4 hq5
          intro w8 hs8
          obtain ⟨g7', e7, hq7, hq8, hC7⟩ := sl_formS hs8 4 (by rfl) (by have := HLi.out; omega)
          injection e7 with e7
          injection e7 with e7
          subst e7
          obtain ⟨ad7, A8, c8, e8, _, _, y2, _, _⟩ := at_T25 hC7 (i2 : Int) (by omega) (by have := HLi.out; omega)
          injection e8 with e8
          subst e8
          have y2 : w8.cell? ⟨g7, i2 * 3 + 2, none⟩ = some (.slice A8 f.f2.length c8) := by
            have h_ := y2
            rw [show rd_T25 fs (i2 : Int) = f from HFi.out, Int.toNat_natCast] at h_
            rw [add_at, Nat.zero_add] at h_
            exact h_
          have HSL := Aside0.mk (show SL w w8 [cellsR gf 25 #[.int .u32 f.f0, .int .i64 f.f1, .slice A f.f2.length cc], rowB w (.slice A3 N c3) (enc f), row8 (.slice A5 (N + N) c5) (enc f ++ enc f), decR g Q1, rowS bs k25 25 (.slice (some ⟨g7, 0, none⟩) F1.length c7) (fs.set i2 ⟨f.f0, f.f1, f.f2⟩)] by rw [set_same HLi.out HFi.out]; exact hs8)
          clear hs8 hC7 hq7 hq8
          go_wp2_with (fail)
          go_loopg [86] f.f2.length (fun kq2 v86 wr => ∃ (x : Nat) (ys : List Int), v86 = .int .i64 (x : Int) ∧ Aside0 (x + kq2 = f.f2.length) ∧ Aside0 (ys.length = f.f2.length) ∧ Aside0 (SL w wr [cellsR gf 25 #[.int .u32 f.f0, .int .i64 f.f1, .slice A f.f2.length cc], rowB w (.slice A3 N c3) (enc f), row8 (.slice A5 (N + N) c5) (enc f ++ enc f), decR g Q1, rowS bs k25 25 (.slice (some ⟨g7, 0, none⟩) F1.length c7) (fs.set i2 ⟨f.f0, f.f1, ys⟩)]))
          case atStart => exact ⟨0, f.f2, rfl, ⟨by omega⟩, ⟨rfl⟩, HSL⟩
          case round =>
            clear HSL y2
            obtain ⟨x, ys, rfl, HI3, HY, HS⟩ := hrel
            have hi3 := HI3.out
            have hy3 := HY.out
            by_cases hlt : x < f.f2.length
            · have b4 : decide (x < f.f2.length) = true := decide_eq_true hlt
              obtain ⟨kq2, rfl⟩ : ∃ m, gk = m + 1 := ⟨gk - 1, by omega⟩
              obtain ⟨g9, c9, z1, ⟨old, z2⟩, z3, z4, hset⟩ := sl_bset2 HS.out 4 i2 (by rfl) HLi.out HFs.out.1.symm x (by omega)
              rw [hy3] at z1
              have HSet := Aside0.mk hset
              have p5 : (0 : Int) ≤ (x : Int) := by omega
              have p6 : (x : Int) < (f.f2.length : Int) := by omega
              clear hset hlt hi3 hy3
              go_wp2_with (fail)
              go_roundg kq2
              case measure => omega
              case rel => exact ⟨x + 1, ys.set x _, rfl, ⟨by have := HI3.out; omega⟩, ⟨by rw [List.length_set]; exact HY.out⟩, ⟨HSet.out _⟩⟩
            · have b4 : decide (x < f.f2.length) = false := decide_eq_false hlt
              clear hlt hi3 hy3
              go_wp2_with (fail)
              go_roundg kq
              case measure => omega
              case rel => exact ⟨i2 + 1, fs.set i2 ⟨f.f0, f.f1, ys⟩, rfl, ⟨by have := HI2.out; omega⟩, ⟨⟨by rw [List.length_set]; exact HFs.out.1, fun j h1 h2 => by rw [getD_set_ne (by omega)]; exact HFs.out.2 j (by omega) h2⟩⟩, HS⟩
        · have b3 : decide (i2 < F1.length) = false := decide_eq_false hlt
          clear hlt hi hf2
          have HF2 := Aside0.mk (show F2.length ≤ 2 ∧ (∀ j, j < F2.length → F2.getD j z25 = f) ∧ F1.length + F2.length = 2 by
            have h_ := HE7.out
            have hl_ := congrArg List.length h_
            rw [List.length_append] at hl_
            simp at hl_
            refine ⟨by omega, fun j hj => ?_, hl_⟩
            have h1 : (F1 ++ F2).getD (F1.length + j) z25 = F2.getD j z25 := by rw [List.getD_eq_getElem?_getD, List.getD_eq_getElem?_getD, List.getElem?_append_right (by omega), show F1.length + j - F1.length = j by omega]
            rw [← h1, h_]
            have : F1.length + j < 2 := by omega
            generalize F1.length + j = q at *
            rcases q with _ | _ | q
            · rfl
            · rfl
            · omega)
          clear hKi
          have k1 : (K : Int) ≤ (N : Int) + (N : Int) := by have := HK1.out; omega
          have HS2e := Aside0.mk (show wrap64 ((F1.length : Int) + (F2.length : Int)) = 2 by
            have h_ := HF2.out.2.2
            rw [show (F1.length : Int) + (F2.length : Int) = 2 by omega]
            exact wrap_two)
          have x0 := (blk_cell (sl_blk HS.out 0 rfl) 0).trans (show _ = some (Value.int .u32 f.f0) from rfl)
          have x1 := (blk_cell (sl_blk HS.out 0 rfl) 1).trans (show _ = some (Value.int .i64 f.f1) from rfl)
          have x2 := (blk_cell (sl_blk HS.out 0 rfl) 2).trans (show _ = some (Value.slice A f.f2.length cc) from rfl)
          go_wp2_with (first
            | (go_at_call 17; refine (Feed_T (by repeat (with_reducible first | exact HS.out | apply sl_drewN | apply sl_drew | apply sl_alloc)) 3 _ (c5 - K) (N + N - K) ((enc f ++ enc f).drop K) HDr.out.symm HE4.out HE5.out HE6.out (by rfl) (C_castd HDr.out.symm (drop8 (m := N + N) (sl_reads' flat8 (by repeat (with_reducible first | exact HS.out | apply sl_drewN | apply sl_drew | apply sl_alloc)) 2 (by rfl)) (by have h_ := sl_cap flat8 (by repeat (with_reducible first | exact HS.out | apply sl_drewN | apply sl_drew | apply sl_alloc)) 2 (by rfl); rw [HT.out]; exact h_) HKt.out HT.out.symm)) (by have h_ := sl_cap flat8 (by repeat (with_reducible first | exact HS.out | apply sl_drewN | apply sl_drew | apply sl_alloc)) 2 (by rfl); rw [HDr.out]; omega) HE8.out HBd.out (by have h1 := HE9.out; have h2 := HTk.out; have h3 := HDr.out; omega)).mono ?_; rintro e w9 ⟨A10, c10, bs2, rfl, hs⟩; clear x0 x1 x2; (try simp only [World.size_alloc] at hs); replace HS := Aside0.mk hs; clear hs; have x0 := (blk_cell (sl_blk HS.out 0 rfl) 0).trans (show _ = some (Value.int .u32 f.f0) from rfl); have x1 := (blk_cell (sl_blk HS.out 0 rfl) 1).trans (show _ = some (Value.int .i64 f.f1) from rfl); have x2 := (blk_cell (sl_blk HS.out 0 rfl) 2).trans (show _ = some (Value.slice A f.f2.length cc) from rfl)))
          all_goals
            go_loopg [111] F2.length (fun kq v111 wr => ∃ (i : Nat), v111 = .int .i64 (i : Int) ∧ Aside0 (i + kq = F2.length) ∧ Aside0 (SL w wr [cellsR gf 25 #[.int .u32 f.f0, .int .i64 f.f1, .slice A f.f2.length cc], rowB w (.slice A3 N c3) (enc f), row8 (.slice A5 (N + N) c5) (enc f ++ enc f), decR g Q2, rowS bs k25 25 (.slice A7 F1.length c7) fs, rowS bs2 k25 25 (.slice A10 F2.length c10) F2]))
            case atStart => exact ⟨0, rfl, ⟨by omega⟩, HS⟩
            case round =>
              clear HS x0 x1 x2
              obtain ⟨i3, rfl, HI3, HS⟩ := hrel
              have hi := HI3.out
              have hf2 := HF2.out.1
              by_cases hlt : i3 < F2.length
              · have b4 : decide (i3 < F2.length) = true := decide_eq_true hlt
                obtain ⟨kq2, rfl⟩ : ∃ m, gk = m + 1 := ⟨gk - 1, by omega⟩
                obtain ⟨g10, rfl, hn7, hc7, hC7⟩ := sl_formS HS.out 5 (by rfl) (by omega)
                have HC7 := Aside0.mk hC7
                have HFi := Aside0.mk (HF2.out.2.1 i3 hlt)
                have p1 : (0 : Int) ≤ (i3 : Int) := by omega
                have p2 : (i3 : Int) < (F2.length : Int) := by omega
                have p3 : (i3 : Int) + 1 ≤ (c10 : Int) := by omega
                have p4 : (i3 : Int) ≤ (i3 : Int) + 1 := by omega
                have hi3 : i3 ≤ 2 := by omega
                have hq0 : (0 : Int) ≤ (i3 : Int) + 1 := by omega
                have ht := succ_toNat i3
                have hq2 : i3 ≤ i3 + 1 := by omega
                have hq3 : (c10 = i3) = False := eq_false (by omega)
                have hq4 := succ_sub i3
                have hq5 : 1 ≤ c10 - i3 := by omega
                have HLi := Aside0.mk hlt
                have hw := wrap_succ hi3
                clear hC7 hlt hi hn7 hc7
                have x0 := (blk_cell (sl_blk HS.out 0 rfl) 0).trans (show _ = some (Value.int .u32 f.f0) from rfl)
                have x1 := (blk_cell (sl_blk HS.out 0 rfl) 1).trans (show _ = some (Value.int .i64 f.f1) from rfl)
                have x2 := (blk_cell (sl_blk HS.out 0 rfl) 2).trans (show _ = some (Value.slice A f.f2.length cc) from rfl)
                go_upto_region 31 with (fail)
                refine start_ (n := 9) (S := fun w' => w'.cell? ⟨gf, 0, none⟩ = some (.int .u32 f.f0) ∧ w'.cell? ⟨gf, 1, none⟩ = some (.int .i64 f.f1) ∧ w'.cell? ⟨gf, 2, none⟩ = some (.slice A f.f2.length cc)) (ds := []) #[false, false, false, false, false, false, false, false, false] (by kernel_rfl) rfl rfl ⟨x0, x1, x2⟩ (fun hHeld => ?_)
                refine pure_ (i := 0) (N := some 114) (v := ?_) (a' := ?_) #[true, false, false, false, false, false, false, false, false] rfl rfl (by kernel_rfl) (fun _ _ _ h => h) (Or.inl ⟨by rfl, ?_⟩) ?_ ?_
                rotate_left
                · intro w'
                  go_simp
                  with_reducible rfl
                rotate_left
                · simp only [Act.put, List.setIfInBounds_toArray, List.set_cons_zero, List.set_cons_succ, i64_w, i32_w, IntKind.wrap_u32, IntKind.wrap_u8, IntKind.wrap_u16]
                  rfl
                refine pure_ (i := 1) (N := some 115) (v := ?_) (a' := ?_) #[true, true, false, false, false, false, false, false, false] rfl rfl (by kernel_rfl) (fun _ _ _ h => h) (Or.inl ⟨by rfl, ?_⟩) ?_ ?_
                rotate_left
                · intro w'
                  go_simp
                  with_reducible rfl
                rotate_left
                · simp only [Act.put, List.setIfInBounds_toArray, List.set_cons_zero, List.set_cons_succ, i64_w, i32_w, IntKind.wrap_u32, IntKind.wrap_u8, IntKind.wrap_u16]
                  rfl
                refine pure_ (i := 2) (N := some 116) (v := ?_) (a' := ?_) #[true, true, true, false, false, false, false, false, false] rfl rfl (by kernel_rfl) (fun _ _ _ h => h) (Or.inl ⟨by rfl, ?_⟩) ?_ ?_
                rotate_left
                · intro w'
                  go_simp
                  with_reducible rfl
                rotate_left
                · simp only [Act.put, List.setIfInBounds_toArray, List.set_cons_zero, List.set_cons_succ, i64_w, i32_w, IntKind.wrap_u32, IntKind.wrap_u8, IntKind.wrap_u16]
                  rfl
                refine pure_ (i := 3) (N := some 117) (v := ?_) (a' := ?_) #[true, true, true, true, false, false, false, false, false] rfl rfl (by kernel_rfl) (fun _ _ _ h => h) (Or.inl ⟨by rfl, ?_⟩) ?_ ?_
                rotate_left
                · intro w'
                  go_simp
                  with_reducible rfl
                rotate_left
                · simp only [Act.put, List.setIfInBounds_toArray, List.set_cons_zero, List.set_cons_succ, i64_w, i32_w, IntKind.wrap_u32, IntKind.wrap_u8, IntKind.wrap_u16]
                  rfl
                refine pure_ (i := 4) (N := some 118) (v := ?_) (a' := ?_) #[true, true, true, true, true, false, false, false, false] rfl rfl (by kernel_rfl) (fun _ _ _ h => h) (Or.inl ⟨by rfl, ?_⟩) ?_ ?_
                rotate_left
                · intro w'
                  go_simp
                  with_reducible rfl
                rotate_left
                · simp only [Act.put, List.setIfInBounds_toArray, List.set_cons_zero, List.set_cons_succ, i64_w, i32_w, IntKind.wrap_u32, IntKind.wrap_u8, IntKind.wrap_u16]
                  rfl
                refine take_ (i := 5) (N := some 119) (v := ?_) (a' := ?_) #[true, true, true, true, true, true, false, false, false] rfl rfl (by kernel_rfl) (fun _ _ _ h => h) (Or.inl ⟨by rfl, ?_⟩) hHeld ?_ ?_
                rotate_left
                · rintro w' ⟨s0, s1, s2⟩
                  go_simp
                  with_reducible rfl
                rotate_left
                · simp only [Act.put, List.setIfInBounds_toArray, List.set_cons_zero, List.set_cons_succ, i64_w, i32_w, IntKind.wrap_u32, IntKind.wrap_u8, IntKind.wrap_u16]
                  rfl
                refine one_ (i := 6) (N := some 120) #[true, true, true, true, true, true, true, false, false] rfl rfl (by kernel_rfl) (by decide) (fun K hK => ?_)
                refine value_ (w1 := ?_) (v := ?_) (by rfl) rfl ?_ ?_
                rotate_left 2
                · go_simp
                  constructor
                  · rfl
                  · rfl
                refine hK.out _ _ ⟨(pw_cell_below (by with_reducible first | exact below_alloc (below_drew (Below.refl _ _)) _ | exact below_drew (below_alloc (Below.refl _ _) _)) x0), (pw_cell_below (by with_reducible first | exact below_alloc (below_drew (Below.refl _ _)) _ | exact below_drew (below_alloc (Below.refl _ _) _)) x1), (pw_cell_below (by with_reducible first | exact below_alloc (below_drew (Below.refl _ _)) _ | exact below_drew (below_alloc (Below.refl _ _) _)) x2)⟩ (fun hHeld => ?_)
                clear hK K
                refine norm_ (a' := ?_) ?_ ?_
                rotate_left
                · show Act.put _ (some 120) _ = _
                  simp only [Act.put, List.setIfInBounds_toArray, List.set_cons_zero, List.set_cons_succ, i64_w, i32_w, IntKind.wrap_u32, IntKind.wrap_u8, IntKind.wrap_u16]
                  rfl
                refine one_ (i := 7) (N := some 121) #[true, true, true, true, true, true, true, true, false] rfl rfl (by kernel_rfl) (by decide) (fun K hK => ?_)
                refine goes_ Try.func15 (by kernel_rfl) rfl #[.slice (some ⟨g10, i3 * 3, none⟩) 1 (c10 - i3), .slice (some ⟨_, 0, none⟩) 1 1] (by rfl) rfl rfl (by (try simp only [List.map_toArray, List.map_cons, List.map_nil]); first | done | rfl) ?_
                with_reducible refine (same_one f (elem_C (Kd.C_below HC7.out (by with_reducible first | exact below_alloc (below_drew (Below.refl _ _)) _ | exact below_drew (below_alloc (Below.refl _ _) _))) i3 HLi.out HFi.out) hq5 (box_C (by with_reducible first | exact heap_alloc_new _ _ | exact blk_drew (heap_alloc_new _ _)) HC.out (Kd.C_below HR.out (sl_below0 (w0 := w) (by with_reducible first | exact sl_alloc (sl_drew HS.out) _ | exact sl_drew (sl_alloc HS.out _))))) (Nat.le_refl _)).mono ?_
                rintro e w3 ⟨rfl, nd, rfl⟩
                refine ⟨_, rfl, ?_⟩
                refine hK.out _ _ ⟨(pw_cell_below (pw_below_drewN (by with_reducible first | exact below_alloc (below_drew (Below.refl _ _)) _ | exact below_drew (below_alloc (Below.refl _ _) _)) nd) x0), (pw_cell_below (pw_below_drewN (by with_reducible first | exact below_alloc (below_drew (Below.refl _ _)) _ | exact below_drew (below_alloc (Below.refl _ _) _)) nd) x1), (pw_cell_below (pw_below_drewN (by with_reducible first | exact below_alloc (below_drew (Below.refl _ _)) _ | exact below_drew (below_alloc (Below.refl _ _) _)) nd) x2)⟩ (fun hHeld => ?_)
                clear hK K
                refine norm_ (a' := ?_) ?_ ?_
                rotate_left
                · show Act.put _ (some 121) _ = _
                  simp only [Act.put, List.setIfInBounds_toArray, List.set_cons_zero, List.set_cons_succ, i64_w, i32_w, IntKind.wrap_u32, IntKind.wrap_u8, IntKind.wrap_u16]
                  rfl
                refine pure_ (i := 8) (N := some 122) (v := ?_) (a' := ?_) #[true, true, true, true, true, true, true, true, true] rfl rfl (by kernel_rfl) (fun _ _ _ h => h) (Or.inl ⟨by rfl, ?_⟩) ?_ ?_
                rotate_left
                · intro w'
                  go_simp
                  with_reducible rfl
                rotate_left
                · simp only [Act.put, List.setIfInBounds_toArray, List.set_cons_zero, List.set_cons_succ, i64_w, i32_w, IntKind.wrap_u32, IntKind.wrap_u8, IntKind.wrap_u16]
                  rfl
                refine done_ (by kernel_rfl) ?_
                clear hw hq0 ht hq2 hq3 hq4 hq5
                go_wp2
                go_roundg kq2
                case measure => omega
                case rel => exact ⟨i3 + 1, rfl, ⟨by have := HI3.out; omega⟩, ⟨by with_reducible first | exact sl_drewN (sl_alloc (sl_drew HS.out) _) _ | exact sl_drewN (sl_drew (sl_alloc HS.out _)) _ | exact sl_drewN (sl_alloc HS.out _) _⟩⟩
              · have b4 : decide (i3 < F2.length) = false := decide_eq_false hlt
                clear hlt hi hf2
                have hs2 := HS2e.out
                go_wp2_with (first
                  | (go_at_call 10; refine (ex_sl (by repeat (with_reducible first | exact HS.out | apply sl_drewN | apply sl_drew | apply sl_alloc))).mono ?_; rintro e w1 ⟨rfl, hs⟩; (try simp only [World.size_alloc] at hs); replace HS := Aside0.mk hs; clear hs))
                go_ret
                exact ⟨rfl, sl_below0 HS.out⟩
end Go.Proofs.Ytipmcklkflgppaa.Q
