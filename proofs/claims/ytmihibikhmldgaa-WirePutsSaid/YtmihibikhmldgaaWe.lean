import Derived.Test.YtmihibikhmldgaaWd
namespace Go.Proofs.Ytmihibikhmldgaa.Q
open Go.RowKit Go.Proofs.YtmihibikhmldgaaW.PrintWords Go.Proofs.YtmihibikhmldgaaW.PrintLast Go.Proofs.YtmihibikhmldgaaW.PrintMore Go.Proofs.Ytmihibikhmldgaa.Sl Go.Proofs.Ytmihibikhmldgaa.Hand 
attribute [local go_sem] max2_int min2_int max_two min_two max_three min_three max_four min_four 
set_option linter.unusedVariables false
set_option linter.unusedSimpArgs false

theorem heap25 : Kd.Heap k25 := Kd.heap_iso _ (Kd.heap_pair (Kd.heap_int _) (Kd.heap_pair (Kd.heap_int _) (Kd.heap_slice 5 (Kd.heap_int _))))
/-- An element of what came in, for every later world. -/
theorem atI {w : World} {A : Option Addr} {l : List S25} (hr : Kd.C k25 w A l.length l) (i : Nat) (hi : i < l.length) : ∃ ad A2 c2, A = some ad ∧ (l[i]).f2.length ≤ c2 ∧ ∀ w', Below w.heap.size w w' →
    w'.cell? (ad.add (i * 3)) = some (.int .i64 (l[i]).f0) ∧ w'.cell? ⟨(ad.add (i * 3)).block, (ad.add (i * 3)).off + 1, none⟩ = some (.int .u32 (l[i]).f1) ∧ w'.cell? ⟨(ad.add (i * 3)).block, (ad.add (i * 3)).off + 2, none⟩ = some (.slice A2 (l[i]).f2.length c2) ∧
    Kd.C (Kd.int .u8) w' A2 (l[i]).f2.length (l[i]).f2 ∧ Kd.FK k25 w' (fun k => k < w.heap.size) (l[i]) [.int .i64 (l[i]).f0, .int .u32 (l[i]).f1, .slice A2 (l[i]).f2.length c2] := by
  obtain ⟨ad, cs, e, hcl, hK, hc0, _⟩ := Kd.F_get (Kd.C_F heap25 hr) z25 (i : Int) (by omega) (by omega)
  have hc : ∀ j u, cs[j]? = some u → w.cell? (ad.add (i * 3 + j)) = some u := hc0
  have hK2 : Kd.FK k25 w (fun k => k < w.heap.size) (rd_T25 l (i : Int)) cs := hK
  rw [rdT hi] at hK2
  obtain ⟨A2, c2, rfl, hl2, hF⟩ := k25_openF hK2
  refine ⟨ad, A2, c2, e, hl2, fun w' hb => ⟨pw_cell_below hb (hc 0 _ rfl), ?_, ?_, Kd.C_below (Kd.F_now hF) hb, Kd.FK_step hK2 (fun k hk _ => hb.block k hk)⟩⟩
  · rw [← add_field _ _ 1 (by omega)]; exact pw_cell_below hb (hc 1 _ rfl)
  · rw [← add_field _ _ 2 (by omega)]; exact pw_cell_below hb (hc 2 _ rfl)
set_option maxHeartbeats 4000000 in
set_option maxRecDepth 100000 in
theorem all_c {w0 w : World} {L : List Res} (h : SL w0 w L) (A : Option Addr) (c : Nat) (l : List S25) (hr : Kd.C k25 w A l.length l) (ok : ∀ x ∈ l, OkI x) (hl : LiI l) :
    Calls Try.prog 16 #[.slice A l.length c] w fun e w' => ∃ A' c', e = .returned (.slice A' (allI l).length c') ∧ SL w0 w' (L ++ [rowO (.slice A' (allI l).length c') (allI l)]) := by
  have H := Aside0.mk h
  have HS := Aside0.mk (sl_start w)
  have HR := Aside0.mk hr
  have HO := Aside0.mk ok
  have HLi := Aside0.mk hl
  have hl12 := hl.1
  clear h hr ok hl
  go_enter Try.func16, Try.ntmps16
  go_wp2_with (fail)
  go_loopg [3, 4] l.length (fun kq v2 v3 wr => ∃ (i : Nat) (Ab : Option Addr) (cb : Nat), v3 = .int .i64 (i : Int) ∧ v2 = .slice Ab (allI (l.take i)).length cb ∧ Aside0 (i + kq = l.length) ∧ Aside0 (SL w wr [rowO (.slice Ab (allI (l.take i)).length cb) (allI (l.take i))]))
  case atStart => exact ⟨0, none, 0, rfl, rfl, ⟨by omega⟩, ⟨sl_nilO HS.out⟩⟩
  case round =>
    obtain ⟨i, Ab, cb, rfl, rfl, HI, HW⟩ := hrel
    have hi := HI.out
    clear HS
    have HS := Aside0.mk HW.out
    clear HW
    by_cases hlt : i < l.length
    · have b1 : decide (i < l.length) = true := decide_eq_true hlt
      obtain ⟨kq, rfl⟩ : ∃ m, gk = m + 1 := ⟨gk - 1, by omega⟩
      obtain ⟨ad, A2, c2, rfl, hc2, hx⟩ := atI HR.out i hlt
      have ht := allI_take hlt
      have hok := HO.out l[i] (List.getElem_mem hlt)
      have hb3 := HLi.out.2 l[i] (List.getElem_mem hlt)
      have hal := allI_len (l.take i) (fun x hx => HLi.out.2 x (List.mem_of_mem_take hx))
      rw [List.length_take] at hal
      unfold itemOf at ht
      generalize l[i] = x at hx hc2 ht hok hb3
      have HX := Aside0.mk hx
      have HT := Aside0.mk ht
      have HOk := Aside0.mk hok
      have HB3 := Aside0.mk hb3
      have HAl := Aside0.mk (show (allI (l.take i)).length ≤ 1000000 by omega)
      obtain ⟨x0, x1, x2, _, _⟩ := hx _ (sl_below0 HS.out)
      have p1 : (0 : Int) ≤ (i : Int) := by omega
      have p2 : (i : Int) < (l.length : Int) := by omega
      clear hx hc2 ht hok hb3 hal hlt hi
      go_wp2_with (first | (go_at_call 12; refine (put_c (by repeat (with_reducible first | exact HS.out | apply sl_drewN | apply sl_drew)) Ab A2 cb c2 (allI (l.take i)) x.f2 x.f0 x.f1 (sl_readO (by repeat (with_reducible first | exact HS.out | apply sl_drewN | apply sl_drew)) 0 (by rfl)).2.2 (sl_readO (by repeat (with_reducible first | exact HS.out | apply sl_drewN | apply sl_drew)) 0 (by rfl)).2.1 (HX.out _ (sl_below0 (by repeat (with_reducible first | exact HS.out | apply sl_drewN | apply sl_drew)))).2.2.2.1 HOk.out.1.1 HOk.out.1.2 HOk.out.2 HAl.out (by have := HB3.out; omega)).mono ?_; rintro e w1 ⟨A3, c3, rfl, hs⟩; (try simp only [World.size_alloc] at hs); replace HS := Aside0.mk hs; clear hs))
      go_roundg kq
      case measure => omega
      case rel =>
        refine ⟨i + 1, A3, c3, rfl, by rw [HT.out, List.length_append], ⟨by have := HI.out; omega⟩, ⟨?_⟩⟩
        rw [HT.out]
        exact sl_pick HS.out [1] (by decide) rfl
    · have b1 : decide (i < l.length) = false := decide_eq_false hlt
      have hil : i = l.length := by omega
      subst hil
      rw [List.take_length] at HS ⊢
      clear hlt hi
      go_wp2_with (fail)
      go_ret
      exact ⟨Ab, cb, rfl, sl_new2 H.out HS.out⟩
theorem equal_f (k n k2 m : Int) (b d : List Int) (hb : b.length ≤ 1000000000) : ∃ f, compositorlaw01_equal.f f k n b k2 m d = some (equalB (⟨k, n, b⟩ : S25) (⟨k2, m, d⟩ : S25)) := by
  unfold compositorlaw01_equal.f equalB
  by_cases h0 : k = 0
  · exact ⟨0, by simp [h0]; rfl⟩
  · by_cases h1 : k = 1
    · exact ⟨0, by simp [h1]; rfl⟩
    · obtain ⟨f, hf⟩ := same_f b d hb
      exact ⟨f, by simp [h0, h1, hf]⟩
theorem equal_c {w0 w : World} {L : List Res} (h : SL w0 w L) (A B : Option Addr) (c e p q : Nat) (k n k2 m : Int) (b d : List Int) (hp : p = b.length) (hq : q = d.length) (hx : Kd.C (Kd.int .u8) w A b.length b) (hc : b.length ≤ c) (hy : Kd.C (Kd.int .u8) w B d.length d) (he : d.length ≤ e) (hb : b.length ≤ 1000000000) :
    Calls Try.prog 15 #[.agg #[.int .i64 k, .int .u32 n, .slice A p c], .agg #[.int .i64 k2, .int .u32 m, .slice B q e]] w fun r w' => r = .returned (.bool (equalB (⟨k, n, b⟩ : S25) (⟨k2, m, d⟩ : S25))) ∧ SL w0 w' L := by
  subst hp
  subst hq
  obtain ⟨f, hf⟩ := equal_f k n k2 m b d hb
  refine (compositorlaw01_equal.calls f k n A c b k2 m B e d _ w hx hc hy he hf).mono ?_
  rintro r w' ⟨rfl, hb⟩
  exact ⟨rfl, sl_below h hb⟩
theorem equal_eq {w0 w : World} {L : List Res} (h : SL w0 w L) (A B : Option Addr) (c e p q : Nat) (k n k2 m : Int) (b d : List Int) {r : Bool} (hr : equalB (⟨k, n, b⟩ : S25) (⟨k2, m, d⟩ : S25) = r) (hp : p = b.length) (hq : q = d.length) (hx : Kd.C (Kd.int .u8) w A b.length b) (hc : b.length ≤ c) (hy : Kd.C (Kd.int .u8) w B d.length d) (he : d.length ≤ e) (hb : b.length ≤ 1000000000) :
    Calls Try.prog 15 #[.agg #[.int .i64 k, .int .u32 n, .slice A p c], .agg #[.int .i64 k2, .int .u32 m, .slice B q e]] w fun v w' => v = .returned (.bool r) ∧ SL w0 w' L := by
  subst hr
  exact equal_c h A B c e p q k n k2 m b d hp hq hx hc hy he hb
theorem one25 {w : World} {n_ : Nat} (x : S25) (B : Option Addr) (m e : Nat) (hm : m = x.f2.length) (hn : n_ = w.heap.size) (hr : Kd.C (Kd.int .u8) w B x.f2.length x.f2) (he : x.f2.length ≤ e) : Kd.C k25 (w.alloc (.cells #[.int .i64 x.f0, .int .u32 x.f1, .slice B m e] 25)) (some ⟨n_, 0, none⟩) ([x] : List S25).length [x] := by
  subst hm
  subst hn
  refine ⟨rfl, (by show 1 ≤ 9223372036854775807; decide), fun _ => ⟨_, rfl, fun j p hj => ⟨[.int .i64 x.f0, .int .u32 x.f1, .slice B x.f2.length e], rfl, ?_, fun i u hu => ?_⟩⟩⟩
  · have hj0 : j = 0 := by
      have h_ := (List.getElem?_eq_some_iff.1 hj).1
      exact Nat.lt_one_iff.1 h_
    subst hj0
    obtain rfl : x = p := Option.some.inj hj
    exact k25_mk _ x he (Kd.C_alloc hr _)
  · have hj0 : j = 0 := by
      have h_ := (List.getElem?_eq_some_iff.1 hj).1
      exact Nat.lt_one_iff.1 h_
    subst hj0
    refine World.news_of_block (cs := #[.int .i64 x.f0, .int .u32 x.f1, .slice B x.f2.length e]) (t := 25) (fr := (0, 0)) (heap_alloc_new w _) _ _ ?_
    rw [Nat.zero_mul, Nat.zero_add, ← hu]
theorem sl_readF' {w0 w : World} {L : List Res} {A : Option Addr} {n c : Nat} {u : List Int} (h : SL w0 w L) (i : Nat) (hi : L[i]? = some (frR8 (.slice A n c) u)) : n = u.length ∧ u.length ≤ c ∧ Kd.C (Kd.int .u8) w A u.length u := by
  obtain ⟨A', c', e, hc, hC⟩ := sl_readF h i hi
  injection e with e1 e2 e3
  subst e1; subst e2; subst e3
  exact ⟨rfl, hc, hC⟩
/-- read, its answer known. -/
theorem read_eq {w0 w : World} {L : List Res} (h : SL w0 w L) (i : Nat) {g : Nat} {u : List Int} {er : Int} (kind most : Int) {N E : Int} {B U : List Int} (hN : readN ⟨u, er⟩ kind = N) (hB : readB ⟨u, er⟩ kind most = B) (hS : readS ⟨u, er⟩ kind most = ⟨U, E⟩) (ho : RdOk ⟨u, er⟩) (hb : Byt u) (hi : L[i]? = some (rdR g u er)) :
    Calls Try.prog 34 #[.pointer (some ⟨g, 0, none⟩), .int .i64 kind, .int .i64 most] w fun e w' => ∃ A c, e = .returned (.agg #[.int .i64 kind, .int .u32 N, .slice A B.length c]) ∧ SL w0 w' (L.set i (rdR g U E) ++ [frR8 (.slice A B.length c) B]) := by
  have := read_sl (s := ⟨u, er⟩) h i hi kind most ho (strV_byt most hb)
  rw [hN, hB, hS] at this
  exact this
theorem From_cut {w0 w : World} {L : List Res} (h : SL w0 w L) (A : Option Addr) (c n : Nat) (b : List Int) (hr : Kd.C (Kd.int .u8) w A b.length b) (hn : n ≤ b.length) (hl : b.length ≤ 1000000) : Calls Try.prog 17 #[.slice A n c] w fun e w' => ∃ g : Nat, e = .returned (.pointer (some ⟨g, 0, none⟩)) ∧ SL w0 w' (L ++ [rdR g (b.take n) 0]) := by
  have hlen : (b.take n).length = n := by rw [List.length_take]; omega
  have h1 := Kd.C_take hr hn
  rw [hlen] at h1
  have := From_sl h A c (b.take n) (by rw [hlen]; exact h1) (by omega)
  rw [hlen] at this
  exact this
end Go.Proofs.Ytmihibikhmldgaa.Q
