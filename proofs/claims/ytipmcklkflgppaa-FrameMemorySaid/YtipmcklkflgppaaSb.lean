import Derived.Test.YtipmcklkflgppaaSa
namespace Go.Proofs.Ytipmcklkflgppaa.Q
open Go.RowKit Go.Proofs.YtipmcklkflgppaaW.PrintWords Go.Proofs.YtipmcklkflgppaaW.PrintLast Go.Proofs.YtipmcklkflgppaaW.PrintMore Go.Proofs.Ytipmcklkflgppaa.Sl Go.Proofs.Ytipmcklkflgppaa.Hand Go.Proofs.Ytipmcklkflgppaa.Plain
attribute [local go_sem] max2_int min2_int max_two min_two max_three min_three max_four min_four 
set_option linter.unusedVariables false
set_option linter.unusedSimpArgs false

/-- A decoder that has been fed all, what it gave, and its error. -/
def SInv (all : List Int) (q : DSt) (got : List S25) (last : Int) : Prop :=
  (last = 0 ∧ q = ⟨false, all.drop (sp all).2.1.toNat⟩ ∧ (sp all).1 = got ∧ (sp all).2.2 = 0) ∨ (last ≠ 0 ∧ q = ⟨true, []⟩ ∧ (sp all).1 = got ∧ (sp all).2.2 = last)
theorem SInv.nil : SInv [] ⟨false, []⟩ [] 0 := .inl ⟨rfl, by rw [sp_nil]; rfl, by rw [sp_nil], by rw [sp_nil]⟩
theorem SInv.step {all b : List Int} {q : DSt} {got : List S25} {last : Int} (h : SInv all q got last) (ha : ∀ x ∈ all, 0 ≤ x ∧ x < 256) (hb : ∀ x ∈ b, 0 ≤ x ∧ x < 256) :
    SInv (all ++ b) (feedS q b) (got ++ feedF q b) (if last = 0 then feedE q b else last) ∧ (last ≠ 0 → feedE q b = 20 ∧ feedF q b = []) := by
  rcases h with ⟨rfl, rfl, h1, h2⟩ | ⟨h0, rfl, h1, h2⟩
  · obtain ⟨fs, n, er, e⟩ : ∃ fs n er, sp all = (fs, n, er) := ⟨_, _, _, rfl⟩
    have hr := sp_range _ (Nat.lt_succ_self all.length) ha
    rw [e] at h1 h2 hr ⊢
    simp only at h1 h2 hr ⊢
    subst h1; subst h2
    obtain ⟨fs', n', e', k⟩ : ∃ fs' n' e', sp (all.drop n.toNat ++ b) = (fs', n', e') := ⟨_, _, _, rfl⟩
    have hg := sp_go ha hb e k
    have hr' := sp_range _ (Nat.lt_succ_self (all.drop n.toNat ++ b).length) (bytes_app (bytes_drop ha _) hb)
    rw [k] at hr'
    simp only at hr'
    have eF : feedF ⟨false, all.drop n.toNat⟩ b = fs' := by unfold feedF; simp [k]
    have eE : feedE ⟨false, all.drop n.toNat⟩ b = e' := by unfold feedE; simp [k]
    simp only [if_true, eF, eE]
    refine ⟨?_, fun h => absurd rfl h⟩
    by_cases hz : e' = 0
    · subst hz
      refine .inl ⟨rfl, ?_, by rw [hg], by rw [hg]⟩
      unfold feedS
      simp only [Bool.false_eq_true, if_false, k, if_true, hg]
      congr 1
      have hlen : (all ++ b).drop (n + n').toNat = (all.drop n.toNat ++ b).drop n'.toNat := by
        rw [← List.drop_append_of_le_length (by omega), List.drop_drop, show n.toNat + n'.toNat = (n + n').toNat by omega]
      rw [hlen]
    · refine .inr ⟨hz, ?_, by rw [hg], by rw [hg]⟩
      unfold feedS
      simp [k, hz]
  · rw [if_neg h0]
    obtain ⟨fs, n, er, e⟩ : ∃ fs n er, sp all = (fs, n, er) := ⟨_, _, _, rfl⟩
    rw [e] at h1 h2
    simp only at h1 h2
    subst h1; subst h2
    have hg := sp_stay ha hb e h0
    exact ⟨.inr ⟨h0, rfl, by rw [hg]; simp [feedF], by rw [hg]⟩, fun _ => ⟨rfl, rfl⟩⟩
theorem SInv.len {all : List Int} {q : DSt} {got : List S25} {last : Int} (h : SInv all q got last) (ha : ∀ x ∈ all, 0 ≤ x ∧ x < 256) : q.bytes.length ≤ all.length ∧ got.length ≤ all.length ∧ (∀ x ∈ q.bytes, 0 ≤ x ∧ x < 256) := by
  have hr := sp_range _ (Nat.lt_succ_self all.length) ha
  rcases h with ⟨rfl, rfl, h1, h2⟩ | ⟨h0, rfl, h1, h2⟩
  · refine ⟨by simp only [List.length_drop]; omega, by rw [← h1]; omega, bytes_drop ha _⟩
  · refine ⟨by simp, by rw [← h1]; omega, by simp⟩
theorem SInv.out {all : List Int} {q : DSt} {got : List S25} {last : Int} (h : SInv all q got last) (ha : ∀ x ∈ all, 0 ≤ x ∧ x < 256) : ∃ n : Int, sp all = (got, n, last) ∧ 0 ≤ n ∧ n ≤ all.length ∧ ((last = 0 ∧ (q.bytes.length : Int) = all.length - n) ∨ (last ≠ 0 ∧ q.bytes.length = 0)) := by
  have hr := sp_range _ (Nat.lt_succ_self all.length) ha
  refine ⟨(sp all).2.1, ?_, by omega, by omega, ?_⟩
  · rcases h with ⟨rfl, rfl, h1, h2⟩ | ⟨h0, rfl, h1, h2⟩
    · rw [← h1]; exact Prod.ext rfl (Prod.ext rfl h2)
    · rw [← h1]; exact Prod.ext rfl (Prod.ext rfl h2)
  · rcases h with ⟨rfl, rfl, h1, h2⟩ | ⟨h0, rfl, h1, h2⟩
    · refine .inl ⟨rfl, ?_⟩
      simp only [List.length_drop]
      omega
    · exact .inr ⟨h0, rfl⟩
theorem Feed_eq {w0 w : World} {L : List Res} (h : SL w0 w L) (i : Nat) {g : Nat} {q : DSt} (A : Option Addr) (c : Nat) (b : List Int) {F : List S25} {E : Int} {Q : DSt} (hF : feedF q b = F) (hE : feedE q b = E) (hQ : feedS q b = Q) (hi : L[i]? = some (decR g q)) (hr : Kd.C (Kd.int .u8) w A b.length b) (hc : b.length ≤ c) (hq : ∀ x ∈ q.bytes, 0 ≤ x ∧ x < 256) (hb : ∀ x ∈ b, 0 ≤ x ∧ x < 256) (hl : q.bytes.length + b.length ≤ 1000000) :
    Calls Try.prog 17 #[.pointer (some ⟨g, 0, none⟩), .slice A b.length c] w fun e w' => ∃ A' c', e = .returned (.tuple #[.slice A' F.length c', .int .i64 E]) ∧ SL w0 w' (L.set i (decR g Q) ++ [rowF w0 (.slice A' F.length c') F]) := by
  subst hF; subst hE; subst hQ
  exact Feed_sl h i A c b hi hr hc hq hb hl
set_option maxHeartbeats 16000000 in
set_option maxRecDepth 100000 in
theorem Streaming_calls (A : Option Addr) (c : Nat) (l : List (List Int)) (w : World) (hr : Kd.C kBB w A l.length l) (hg : ∀ x ∈ l, (∀ y ∈ x, 0 ≤ y ∧ y < 256) ∧ x.length ≤ 140737488351232) :
    Calls Try.prog 9 #[.slice A l.length c] w fun e w' => e = .returned (.bool true) ∧ Below w.heap.size w w' := by
  have HR := Aside0.mk hr
  have HG := Aside0.mk (fun x hx => (hg x hx).1)
  have HLong := Aside0.mk (fun w => long_calls A c l w)
  have HGl := Aside0.mk (fun x hx => (hg x hx).2)
  have hm := hr.2.1
  have HS := Aside0.mk (sl_start w)
  clear hr hg
  by_cases hl : 40 < l.length ∨ 20000 < l.flatten.length
  · have HD := Aside0.mk (show decide (40 < l.length ∨ 20000 < l.flatten.length) = true from decide_eq_true hl)
    clear hl
    go_enter Try.func9, Try.ntmps9
    go_wp2_with (first
        | (go_at_call 19; refine (HLong.out _ (Kd.C_below HR.out (sl_below0 (by repeat (with_reducible first | exact HS.out | apply sl_drewN | apply sl_drew | apply sl_alloc)))) HGl.out).mono ?_; rintro e w1 ⟨rfl, hb_⟩; rw [HD.out]; have hs := sl_below (by repeat (with_reducible first | exact HS.out | apply sl_drewN | apply sl_drew | apply sl_alloc)) hb_; clear hb_; (try simp only [World.size_alloc] at hs); replace HS := Aside0.mk hs; clear hs)
        | (go_at_call 10; refine (ex_sl (by repeat (with_reducible first | exact HS.out | apply sl_drewN | apply sl_drew | apply sl_alloc))).mono ?_; rintro e w1 ⟨rfl, hs⟩; (try simp only [World.size_alloc] at hs); replace HS := Aside0.mk hs; clear hs))
    go_ret
    exact ⟨rfl, sl_below0 HS.out⟩
  have HD := Aside0.mk (show decide (40 < l.length ∨ 20000 < l.flatten.length) = false from decide_eq_false hl)
  have HL := Aside0.mk hl
  clear hl
  go_enter Try.func9, Try.ntmps9
  go_wp2_with (first
        | (go_at_call 19; refine (HLong.out _ (Kd.C_below HR.out (sl_below0 (by repeat (with_reducible first | exact HS.out | apply sl_drewN | apply sl_drew | apply sl_alloc)))) HGl.out).mono ?_; rintro e w1 ⟨rfl, hb_⟩; rw [HD.out]; have hs := sl_below (by repeat (with_reducible first | exact HS.out | apply sl_drewN | apply sl_drew | apply sl_alloc)) hb_; clear hb_; (try simp only [World.size_alloc] at hs); replace HS := Aside0.mk hs; clear hs)
        | (go_at_call 16; refine (D0_sl (by repeat (with_reducible first | exact HS.out | apply sl_drewN | apply sl_drew | apply sl_alloc))).mono ?_; rintro e w1 ⟨g, rfl, hs⟩; (try simp only [World.size_alloc] at hs); replace HS := Aside0.mk hs; clear hs))
  have HSS : Aside0 (SL w _ [decR g ⟨false, []⟩, row8 (.slice none 0 0) [], rowF w (.slice none 0 0) []]) := ⟨sl_nilN (sl_nil HS.out (Kd.int .u8) enc8 5) k25 25⟩
  go_loopg [4, 5, 6, 19] l.length (fun kq v4 v5 v6 v19 wr => ∃ (i : Nat) (q : DSt) (got : List S25) (last : Int) (Ab : Option Addr) (cb : Nat) (Af : Option Addr) (cf : Nat), v19 = .int .i64 (i : Int) ∧ v4 = .slice Ab (pre l i).length cb ∧ v5 = .slice Af got.length cf ∧ v6 = .int .i64 last ∧ Aside0 (i + kq = l.length) ∧ Aside0 (SInv (pre l i) q got last) ∧ Aside0 (SL w wr [decR g q, row8 (.slice Ab (pre l i).length cb) (pre l i), rowF w (.slice Af got.length cf) got]))
  case atStart => exact ⟨0, ⟨false, []⟩, [], 0, none, 0, none, 0, rfl, by rw [pre_zero]; rfl, rfl, rfl, ⟨by omega⟩, ⟨by rw [pre_zero]; exact SInv.nil⟩, ⟨by rw [pre_zero]; exact HSS.out⟩⟩
  case round =>
    clear HSS HS
    obtain ⟨i, q, got, last, Ab, cb, Af, cf, rfl, rfl, rfl, rfl, HI, HV, HS⟩ := hrel
    have hi := HI.out
    have hpb := pre_byte HG.out i
    obtain ⟨s1, s2, s3⟩ := SInv.len HV.out hpb
    have HP := Aside0.mk hpb
    have HQ := Aside0.mk s3
    have hple := pre_le l i
    have hl2 := HL.out
    have t1 : (pre l i).length ≤ 20000 := by omega
    clear hpb s3 hl2 hple
    by_cases hlt : i < l.length
    · have b1 : decide (i < l.length) = true := decide_eq_true hlt
      obtain ⟨kq, rfl⟩ : ∃ m, gk = m + 1 := ⟨gk - 1, by omega⟩
      obtain ⟨ad, A2, c2, rfl, hc2, hx⟩ := atS HR.out i hlt
      have hps := pre_succ l i hlt
      have hple := pre_le l (i + 1)
      have hl2 := HL.out
      have hbx : ∀ y ∈ l.getD i [], 0 ≤ y ∧ y < 256 := HG.out _ (by simp [List.getD_eq_getElem?_getD, hlt])
      generalize l.getD i [] = x at hx hc2 hps hbx
      have t2 : (pre l i).length + x.length ≤ 20000 := by rw [hps, List.length_append] at hple; omega
      have HPS := Aside0.mk hps
      have HX := Aside0.mk hx
      have HBx := Aside0.mk hbx
      have HC2 := Aside0.mk hc2
      obtain ⟨x0, _⟩ := hx _ (sl_below0 HS.out)
      have p1 : (0 : Int) ≤ (i : Int) := by omega
      have p2 : (i : Int) < (l.length : Int) := by omega
      obtain ⟨hst, hcl⟩ := SInv.step HV.out HP.out hbx
      obtain ⟨F, hF⟩ : ∃ F, feedF q x = F := ⟨_, rfl⟩
      obtain ⟨E, hE⟩ : ∃ E, feedE q x = E := ⟨_, rfl⟩
      obtain ⟨Q, hQ⟩ : ∃ Q, feedS q x = Q := ⟨_, rfl⟩
      rw [hF, hE, hQ] at hst
      rw [hF, hE] at hcl
      have hfl := (SInv.len hst (bytes_app HP.out hbx)).2.1
      rw [List.length_append, List.length_append] at hfl
      have HF := Aside0.mk hF
      have HE := Aside0.mk hE
      have HQ2 := Aside0.mk hQ
      clear hx hc2 hps hbx hlt hple hl2 hF hE hQ
      by_cases h0 : last = 0
      · subst h0
        rw [if_pos rfl] at hst
        have HST := Aside0.mk hst
        clear hst hcl
        go_wp2_with (first
        | (at_builtin; refine app8 (by repeat (with_reducible first | exact HS.out | apply sl_drewN | apply sl_drew | apply sl_alloc)) 1 (.slice Ab (pre l i).length cb) (pre l i) x rfl (.tmp 22) (.tmp 26) rfl rfl rfl (by rfl) (HX.out _ (sl_below0 (by repeat (with_reducible first | exact HS.out | apply sl_drewN | apply sl_drew | apply sl_alloc)))).2 (by omega) ?_; intro A3 c3 w2 hs; (try simp only [World.size_alloc] at hs); replace HS := Aside0.mk hs; clear hs; obtain ⟨x0, _⟩ := HX.out _ (sl_below0 HS.out))
        | (go_at_call 17; refine (Feed_eq (by repeat (with_reducible first | exact HS.out | apply sl_drewN | apply sl_drew | apply sl_alloc)) 0 A2 c2 x HF.out HE.out HQ2.out (by rfl) (HX.out _ (sl_below0 (by repeat (with_reducible first | exact HS.out | apply sl_drewN | apply sl_drew | apply sl_alloc)))).2 HC2.out HQ.out HBx.out (by omega)).mono ?_; rintro e w1 ⟨A5, c5, rfl, hs⟩; (try simp only [World.size_alloc] at hs); replace HS := Aside0.mk hs; clear hs)
        | (at_builtin; refine appFs (by repeat (with_reducible first | exact HS.out | apply sl_drewN | apply sl_drew | apply sl_alloc)) 2 3 (by decide) (.slice Af got.length cf) got F rfl (.tmp 37) (.tmp 38) rfl rfl rfl (by rfl) (by rfl) (by first | omega | (simp; omega)) ?_; intro A7 c7 w3 hs; (try simp only [World.size_alloc] at hs); replace HS := Aside0.mk hs; clear hs))
        go_roundg kq
        case measure => omega
        case rel => exact ⟨i + 1, Q, got ++ F, E, A3, c3, A7, c7, rfl, by rw [HPS.out, List.length_append], by rw [List.length_append], rfl, ⟨by have := HI.out; omega⟩, ⟨by rw [HPS.out]; exact HST.out⟩, ⟨by rw [HPS.out, List.length_append, List.length_append]; exact sl_take HS.out 3⟩⟩
      · have b2 : (last != 0) = true := bne_iff_ne.2 h0
        have b3 : (last == 0) = false := beq_eq_false_iff_ne.2 h0
        obtain ⟨hE20, hFn⟩ := hcl h0
        subst hE20; subst hFn
        rw [if_neg h0] at hst
        have HST := Aside0.mk hst
        clear hst hcl h0
        go_wp2_with (first
        | (at_builtin; refine app8 (by repeat (with_reducible first | exact HS.out | apply sl_drewN | apply sl_drew | apply sl_alloc)) 1 (.slice Ab (pre l i).length cb) (pre l i) x rfl (.tmp 22) (.tmp 26) rfl rfl rfl (by rfl) (HX.out _ (sl_below0 (by repeat (with_reducible first | exact HS.out | apply sl_drewN | apply sl_drew | apply sl_alloc)))).2 (by omega) ?_; intro A3 c3 w2 hs; (try simp only [World.size_alloc] at hs); replace HS := Aside0.mk hs; clear hs; obtain ⟨x0, _⟩ := HX.out _ (sl_below0 HS.out))
        | (go_at_call 17; refine (Feed_eq (by repeat (with_reducible first | exact HS.out | apply sl_drewN | apply sl_drew | apply sl_alloc)) 0 A2 c2 x HF.out HE.out HQ2.out (by rfl) (HX.out _ (sl_below0 (by repeat (with_reducible first | exact HS.out | apply sl_drewN | apply sl_drew | apply sl_alloc)))).2 HC2.out HQ.out HBx.out (by omega)).mono ?_; rintro e w1 ⟨A5, c5, rfl, hs⟩; (try simp only [World.size_alloc] at hs); replace HS := Aside0.mk hs; clear hs)
        | (at_builtin; refine appFs (by repeat (with_reducible first | exact HS.out | apply sl_drewN | apply sl_drew | apply sl_alloc)) 2 3 (by decide) (.slice Af got.length cf) got [] rfl (.tmp 37) (.tmp 38) rfl rfl rfl (by rfl) (by rfl) (by first | omega | (simp; omega)) ?_; intro A7 c7 w3 hs; (try simp only [World.size_alloc] at hs); replace HS := Aside0.mk hs; clear hs))
        go_roundg kq
        case measure => omega
        case rel => exact ⟨i + 1, Q, got ++ [], last, A3, c3, A7, c7, rfl, by rw [HPS.out, List.length_append], by rw [List.length_append]; rfl, rfl, ⟨by have := HI.out; omega⟩, ⟨by rw [HPS.out]; exact HST.out⟩, ⟨by rw [HPS.out, List.length_append, List.length_append]; exact sl_take HS.out 3⟩⟩
    · have b1 : decide (i < l.length) = false := decide_eq_false hlt
      obtain ⟨n, hsp, n0, n1, hend⟩ := SInv.out HV.out HP.out
      have HSP := Aside0.mk hsp
      have bz : (last != last) = false := by simp
      clear hsp hlt hi
      rcases hend with ⟨rfl, hb⟩ | ⟨h0, hb⟩
      · have bb : ((q.bytes.length : Int) == ((pre l i).length : Int) - n) = true := beq_iff_eq.2 hb
        clear hb
        go_wp2_with (first
        | (go_at_call 13; refine (Split_sl (by repeat (with_reducible first | exact HS.out | apply sl_drewN | apply sl_drew | apply sl_alloc)) Ab cb (pre l i) (by omega) HP.out (sl_reads' flat8 (by repeat (with_reducible first | exact HS.out | apply sl_drewN | apply sl_drew | apply sl_alloc)) 1 (by rfl)) (sl_cap flat8 (by repeat (with_reducible first | exact HS.out | apply sl_drewN | apply sl_drew | apply sl_alloc)) 1 (by rfl)) HSP.out).mono ?_; rintro e w1 ⟨A6, c6, rfl, hs⟩; (try simp only [World.size_alloc] at hs); replace HS := Aside0.mk hs; clear hs)
        | (go_at_call 15; refine (same_yes got (by omega) (sl_readsN' (by repeat (with_reducible first | exact HS.out | apply sl_drewN | apply sl_drew | apply sl_alloc)) 2 (by rfl)).2.2 (sl_readsN' (by repeat (with_reducible first | exact HS.out | apply sl_drewN | apply sl_drew | apply sl_alloc)) 2 (by rfl)).2.1 (sl_readsN' (by repeat (with_reducible first | exact HS.out | apply sl_drewN | apply sl_drew | apply sl_alloc)) 3 (by rfl)).2.2 (sl_readsN' (by repeat (with_reducible first | exact HS.out | apply sl_drewN | apply sl_drew | apply sl_alloc)) 3 (by rfl)).2.1).mono ?_; rintro e w1 ⟨rfl, ⟨nd, rfl⟩⟩)
        | (go_at_call 18; refine (Buf_sl (by repeat (with_reducible first | exact HS.out | apply sl_drewN | apply sl_drew | apply sl_alloc)) 0 (by rfl)).mono ?_; rintro e w1 ⟨rfl, rfl⟩)
        | (go_at_call 10; refine (ex_sl (by repeat (with_reducible first | exact HS.out | apply sl_drewN | apply sl_drew | apply sl_alloc))).mono ?_; rintro e w1 ⟨rfl, hs⟩; (try simp only [World.size_alloc] at hs); replace HS := Aside0.mk hs; clear hs))
        go_ret
        exact ⟨rfl, sl_below0 HS.out⟩
      · have b2 : (last != 0) = true := bne_iff_ne.2 h0
        have b3 : (last == 0) = false := beq_eq_false_iff_ne.2 h0
        have bb : ((q.bytes.length : Int) == 0) = true := beq_iff_eq.2 (by omega)
        have bb2 : (q.bytes.length == 0) = true := beq_iff_eq.2 hb
        clear h0
        go_wp2_with (first
        | (go_at_call 13; refine (Split_sl (by repeat (with_reducible first | exact HS.out | apply sl_drewN | apply sl_drew | apply sl_alloc)) Ab cb (pre l i) (by omega) HP.out (sl_reads' flat8 (by repeat (with_reducible first | exact HS.out | apply sl_drewN | apply sl_drew | apply sl_alloc)) 1 (by rfl)) (sl_cap flat8 (by repeat (with_reducible first | exact HS.out | apply sl_drewN | apply sl_drew | apply sl_alloc)) 1 (by rfl)) HSP.out).mono ?_; rintro e w1 ⟨A6, c6, rfl, hs⟩; (try simp only [World.size_alloc] at hs); replace HS := Aside0.mk hs; clear hs)
        | (go_at_call 15; refine (same_yes got (by omega) (sl_readsN' (by repeat (with_reducible first | exact HS.out | apply sl_drewN | apply sl_drew | apply sl_alloc)) 2 (by rfl)).2.2 (sl_readsN' (by repeat (with_reducible first | exact HS.out | apply sl_drewN | apply sl_drew | apply sl_alloc)) 2 (by rfl)).2.1 (sl_readsN' (by repeat (with_reducible first | exact HS.out | apply sl_drewN | apply sl_drew | apply sl_alloc)) 3 (by rfl)).2.2 (sl_readsN' (by repeat (with_reducible first | exact HS.out | apply sl_drewN | apply sl_drew | apply sl_alloc)) 3 (by rfl)).2.1).mono ?_; rintro e w1 ⟨rfl, ⟨nd, rfl⟩⟩)
        | (go_at_call 18; refine (Buf_sl (by repeat (with_reducible first | exact HS.out | apply sl_drewN | apply sl_drew | apply sl_alloc)) 0 (by rfl)).mono ?_; rintro e w1 ⟨rfl, rfl⟩)
        | (go_at_call 10; refine (ex_sl (by repeat (with_reducible first | exact HS.out | apply sl_drewN | apply sl_drew | apply sl_alloc))).mono ?_; rintro e w1 ⟨rfl, hs⟩; (try simp only [World.size_alloc] at hs); replace HS := Aside0.mk hs; clear hs))
        go_ret
        exact ⟨rfl, sl_below0 HS.out⟩
end Go.Proofs.Ytipmcklkflgppaa.Q
