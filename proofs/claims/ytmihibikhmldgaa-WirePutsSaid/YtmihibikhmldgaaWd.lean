import Derived.WalkSpells
import Derived.Laws.BitsAllLaws
import Derived.Laws.IdiomStrings
import Derived.Test.YtmihibikhmldgaaWc
import Derived.Test.YtmihibikhmldgaaQr
namespace Go.Proofs.Ytmihibikhmldgaa.Q
open Go.RowKit Go.Proofs.YtmihibikhmldgaaW.PrintWords Go.Proofs.YtmihibikhmldgaaW.PrintLast Go.Proofs.YtmihibikhmldgaaW.PrintMore Go.Proofs.Ytmihibikhmldgaa.Sl Go.Proofs.Ytmihibikhmldgaa.Hand 
attribute [local go_sem] max2_int min2_int max_two min_two max_three min_three max_four min_four 
set_option linter.unusedVariables false
set_option linter.unusedSimpArgs false

/-- What a value is written as. -/
def item (kind n : Int) (bs : List Int) : List Int := if kind = 0 ∨ kind = 1 then quad n else quad (bs.length : Int) ++ bs ++ padL bs.length
def Byt (bs : List Int) : Prop := ∀ x ∈ bs, 0 ≤ x ∧ x < 256
theorem str_bytes (bs : List Int) (h : Byt bs) : bytesL (strOfNums bs) = bs := by
  unfold bytesL
  rw [strOfNums_data, List.map_map]
  have e : bs.map ((fun b : UInt8 => (b.toNat : Int)) ∘ fun n : Int => UInt8.ofNat n.toNat) = bs.map id := List.map_congr_left fun x hx => by
    have h1 := h x hx
    show (((UInt8.ofNat x.toNat).toNat : Nat) : Int) = x
    rw [UInt8.toNat_ofNat']
    omega
  rw [e, List.map_id]
theorem str_size (bs : List Int) : (strOfNums bs).size = bs.length := strOfNums_size bs
theorem wrap32_mod {n : Int} (h0 : 0 ≤ n) (h1 : n < 4294967296) : (-2147483648 ≤ wrap32 n ∧ wrap32 n < 2147483648) ∧ wrap32 n % 4294967296 = n := by unfold wrap32; omega
set_option maxHeartbeats 4000000 in
set_option maxRecDepth 100000 in
theorem put_c {w0 w : World} {L : List Res} (h : SL w0 w L) (A B : Option Addr) (c e : Nat) (b bs : List Int) (kind n : Int) (hr : Kd.C (Kd.int .u8) w A b.length b) (hc : b.length ≤ c) (hx : Kd.C (Kd.int .u8) w B bs.length bs) (n0 : 0 ≤ n) (n1 : n < 4294967296) (hb : Byt bs) (hl : b.length ≤ 1000000) (hlx : bs.length ≤ 1000000) :
    Calls Try.prog 12 #[.slice A b.length c, .agg #[.int .i64 kind, .int .u32 n, .slice B bs.length e]] w fun r w' => ∃ A' c', r = .returned (.slice A' (b ++ item kind n bs).length c') ∧ SL w0 w' (L ++ [rowO (.slice A' (b ++ item kind n bs).length c') (b ++ item kind n bs)]) := by
  have HS := Aside0.mk h
  have HR := Aside0.mk hr
  have HC := Aside0.mk hc
  have HX := Aside0.mk hx
  have HL := Aside0.mk (And.intro hl hlx)
  have HN := Aside0.mk (And.intro n0 n1)
  clear h hr hc hx hl hlx
  by_cases k0 : kind = 0
  · subst k0
    go_enter Try.func12, Try.ntmps12
    go_wp2_with (first | (go_at_call 37; refine (PutUintO (sl_alloc HS.out _) A c b n (Kd.C_alloc HR.out _) HC.out HN.out.1 HN.out.2 HL.out.1).mono ?_; rintro r w1 ⟨A1, c1, rfl, hs⟩; replace HS := Aside0.mk hs; clear hs))
    go_ret
    have e1 : item 0 n bs = quad n := if_pos (.inl rfl)
    have e2 : (b ++ quad n).length = b.length + 4 := by simp [quad]
    rw [e1, e2]
    exact ⟨A1, c1, rfl, HS.out⟩
  by_cases k1 : kind = 1
  · subst k1
    obtain ⟨⟨m0, m1⟩, m2⟩ := wrap32_mod HN.out.1 HN.out.2
    obtain ⟨m, em⟩ : ∃ m, wrap32 n = m := ⟨_, rfl⟩
    rw [em] at m0 m1 m2
    have HM := Aside0.mk (And.intro (And.intro m0 m1) m2)
    clear m0 m1 m2 k0
    go_enter Try.func12, Try.ntmps12
    go_wp2_with (first | (go_at_call 36; refine (PutIntO (sl_alloc HS.out _) A c b m (Kd.C_alloc HR.out _) HC.out HM.out.1.1 HM.out.1.2 HL.out.1).mono ?_; rw [HM.out.2]; rintro r w1 ⟨A1, c1, rfl, hs⟩; replace HS := Aside0.mk hs; clear hs))
    go_ret
    have e1 : item 1 n bs = quad n := if_pos (.inr rfl)
    have e2 : (b ++ quad n).length = b.length + 4 := by simp [quad]
    rw [e1, e2]
    exact ⟨A1, c1, rfl, HS.out⟩
  have e1 : item kind n bs = quad (bs.length : Int) ++ bs ++ padL bs.length := if_neg (by omega)
  have e2 : (b ++ (quad (bs.length : Int) ++ bs ++ padL bs.length)).length = b.length + 4 + bs.length + (padN bs.length).toNat := by simp [quad, padL]; omega
  have e3 : b ++ (quad (bs.length : Int) ++ bs ++ padL bs.length) = b ++ quad bs.length ++ bs ++ padL bs.length := by simp
  rw [e1, e2, e3]
  clear e1 e2 e3
  have z0 : (kind == 0) = false := beq_eq_false_iff_ne.2 k0
  have z1 : (kind == 1) = false := beq_eq_false_iff_ne.2 k1
  clear k0 k1
  by_cases k2 : kind = 2
  · subst k2
    have hs1 := str_bytes bs hb
    have hs2 := str_size bs
    obtain ⟨st, est⟩ : ∃ st, strOfNums bs = st := ⟨_, rfl⟩
    have hcv := fun (o : Obj) => Kd.C_string (P := Try.prog) (c := e) Try.underlying22 Try.underlying5 Try.underlying9 (Kd.C_alloc HX.out o)
    rw [est] at hcv hs1 hs2
    have HE := Aside0.mk (And.intro hs1 hs2)
    clear hs1 hs2 est z0 z1
    go_enter Try.func12, Try.ntmps12
    go_wp2_with (first | (go_at_call 35; refine (PutString_sl (sl_alloc HS.out _) A c b st (Kd.C_alloc HR.out _) HC.out HL.out.1 (by rw [HE.out.2]; exact HL.out.2)).mono ?_; rw [HE.out.1, HE.out.2]; rintro r w1 ⟨A1, c1, rfl, hs⟩; replace HS := Aside0.mk hs; clear hs))
    go_ret
    exact ⟨A1, c1, rfl, HS.out⟩
  · have z2 : (kind == 2) = false := beq_eq_false_iff_ne.2 k2
    clear k2
    go_enter Try.func12, Try.ntmps12
    go_wp2_with (first | (go_at_call 38; refine (PutArray_sl (sl_alloc HS.out _) A B c e b bs (Kd.C_alloc HR.out _) HC.out (Kd.C_alloc HX.out _) HL.out.1 HL.out.2).mono ?_; rintro r w1 ⟨A1, c1, rfl, hs⟩; replace HS := Aside0.mk hs; clear hs))
    go_ret
    exact ⟨A1, c1, rfl, HS.out⟩
theorem str_Cg {W : World} {g : Nat} {fr : Nat × Nat} (s : ByteArray) (cap : Nat) (hb : W.heap[g]? = some (.cells (bytesRow s cap) 5 fr)) (hs : s.size ≤ 1000000) : Kd.C (Kd.int .u8) W (some ⟨g, 0, none⟩) (bytesL s).length (bytesL s) := by
  refine ⟨rfl, by rw [bytesL_len]; omega, fun _ => ⟨_, rfl, fun j p hj => ⟨[.int .u8 p], rfl, rfl, fun i u hu => ?_⟩⟩⟩
  have hi : i = 0 := by
    have h_ := (List.getElem?_eq_some_iff.1 hu).1
    exact Nat.lt_one_iff.1 h_
  subst hi
  have hu : Value.int .u8 p = u := Option.some.inj hu
  subst hu
  refine World.news_of_block (cs := bytesRow s cap) (t := 5) (fr := fr) hb (j * (Kd.int .u8).sz + 0) _ ?_
  have e : j * (Kd.int .u8).sz + 0 = j := Nat.mul_one j
  rw [e]
  have hl := (List.getElem?_eq_some_iff.1 hj).1
  rw [bytesL_len] at hl
  unfold bytesRow
  rw [Array.toList_append, List.getElem?_append_left (by rw [Array.length_toList, Array.size_map]; exact hl), Array.toList_map]
  unfold bytesL at hj
  rw [List.getElem?_map] at hj ⊢
  obtain ⟨q, hq, rfl⟩ := Option.map_eq_some_iff.1 hj
  rw [hq]
  rfl
/-- []byte(s), a row that is only read. -/
theorem sl_str {w0 w : World} {L : List Res} {fr : Nat × Nat} (h : SL w0 w L) (s : ByteArray) (n cap : Nat) (hn : n = w.heap.size) (hs : s.size ≤ 1000000) (hc : s.size ≤ cap) : SL w0 ((w.alloc (.cells (bytesRow s cap) 5 fr)).drew) (L ++ [frR8 (.slice (some ⟨n, 0, none⟩) s.size cap) (bytesL s)]) := by
  subst hn
  have hb : (w.alloc (.cells (bytesRow s cap) 5 fr)).heap[w.heap.size]? = some (.cells (bytesRow s cap) 5 fr) := heap_alloc_new w _
  refine sl_drew ?_
  refine sl_new h (below_alloc (Below.refl _ _) _) (F := fun k => k = w.heap.size) ?_ (fun k hk => by rw [hk]; exact ⟨Nat.le_refl _, by simp⟩)
  refine ⟨some ⟨w.heap.size, 0, none⟩, cap, by rw [bytesL_len], by rw [bytesL_len]; exact hc, fun W' hW => ?_⟩
  exact str_Cg s _ ((hW w.heap.size rfl (blk_lt hb)).trans hb) hs
/-- What read answers: the number, the bytes, the state. -/
def readN (s : RSt) (kind : Int) : Int := if kind = 0 ∨ kind = 1 then uintV s else 0
def readB (s : RSt) (kind most : Int) : List Int := if kind = 0 ∨ kind = 1 then [] else if kind = 2 then strV s most else arrV s most
def readS (s : RSt) (kind most : Int) : RSt := if kind = 0 ∨ kind = 1 then uintS s else if kind = 2 then strS s most else arrS s most
theorem sl_nilF {w0 w : World} {L : List Res} (h : SL w0 w L) : SL w0 w (L ++ [frR8 (.slice none 0 0) []]) := sl_new h (Below.refl _ _) (F := fun _ => False) (FR.nil _ _ _) (fun k hk => hk.elim)
/-! ### A whole block stored at once -/
theorem sl_row {w0 w : World} {L : List Res} {g : Nat} {t : TypeId} {cs : Array Value} (h : SL w0 w L) (i : Nat) (hi : L[i]? = some (cellsR g t cs)) (cs' : Array Value) : SL w0 (w.setRow g cs') (L.set i (cellsR g t cs')) := by
  obtain ⟨F, ⟨h1, h2⟩, h3, h4⟩ := sl_upd h hi
  refine h4 _ _ F ⟨h1, setRow_heap w g cs cs' t (0, 0) h2⟩ (fun k hk => ⟨.inl hk, by rw [setRow_size]; exact (h3 k hk).2⟩) ⟨rfl, rfl, rfl, by rw [setRow_size]; exact Nat.le_refl _, fun k hk hn => setRow_other w g k cs' (fun e => hn (e ▸ h1))⟩
theorem c_at {w0 w : World} {L : List Res} {g : Nat} {t : TypeId} {cs : Array Value} (h : SL w0 w L) (i : Nat) (hi : L[i]? = some (cellsR g t cs)) (j : Nat) {v : Value} (hv : cs[j]? = some v) : w.cell? ⟨g, j, none⟩ = some v := (blk_cell (sl_blk h i hi) j).trans hv
theorem f_at {w0 w : World} {L : List Res} {g : Nat} {t : TypeId} {cs : Array Value} (h : SL w0 w L) (i : Nat) (hi : L[i]? = some (cellsR g t cs)) (j : Nat) : w.frozen? ⟨g, j, none⟩ = false := blk_frozen (sl_blk h i hi) j
theorem strV_len (s : RSt) (most : Int) (ho : RdOk s) : (strV s most).length ≤ 1000000 := by
  unfold strV
  split
  · exact arrV_len ho
  · exact Nat.zero_le _
set_option maxHeartbeats 4000000 in
set_option maxRecDepth 100000 in
theorem read_in {w0 w : World} {R : Res} (g : Nat) (s : RSt) (kind most : Int) (hs : SL w0 w [rdS g s, R]) (ho : RdOk s) (hb : Byt (strV s most)) :
    Calls Try.prog 34 #[.pointer (some ⟨g, 0, none⟩), .int .i64 kind, .int .i64 most] w fun e w' => ∃ A c, e = .returned (.agg #[.int .i64 kind, .int .u32 (readN s kind), .slice A (readB s kind most).length c]) ∧ SL w0 w' [rdS g (readS s kind most), R, frR8 (.slice A (readB s kind most).length c) (readB s kind most)] := by
  have H := Aside0.mk hs
  have HO := Aside0.mk ho
  by_cases k0 : kind = 0
  · subst k0
    have e1 : readN s 0 = uintV s := if_pos (.inl rfl)
    have e2 : readB s 0 most = [] := if_pos (.inl rfl)
    have e3 : readS s 0 most = uintS s := if_pos (.inl rfl)
    rw [e1, e2, e3]
    have HS := Aside0.mk (show SL w0 w [rdS g s, R] from hs)
    clear hs e1 e2 e3
    go_enter Try.func34, Try.ntmps34
    go_wp2_with (first | (go_at_call 20; refine (Uint_sl (by exact sl_box HS.out #[.int .i64 0, .int .u32 0, .slice none 0 0] 25) 0 (by exact rfl)).mono ?_; rintro e w1 ⟨rfl, hs⟩; (try simp only [World.size_alloc] at hs); replace HS := Aside0.mk hs; clear hs; have hm0 := c_at HS.out 2 rfl 0 rfl; have hm1 := c_at HS.out 2 rfl 1 rfl; have hm2 := c_at HS.out 2 rfl 2 rfl; have hf0 := f_at HS.out 2 rfl 0; have hf1 := f_at HS.out 2 rfl 1; have hf2 := f_at HS.out 2 rfl 2))
    have hs := sl_put (sl_put (sl_put HS.out 2 rfl 0 (.int .i64 0)) 2 rfl 1 (.int .u32 (uintV s))) 2 rfl 2 (.slice none 0 0)
    refine bodyPost_ret (results_cell_row rfl _ _ w.heap.size 25 #[.int .i64 0, .int .u32 (uintV s), .slice none 0 0] (0, 0) _ (by rfl) (by exact sl_blk hs 2 rfl) (by exact Try.underlying25) (by rfl) (by kernel_rfl)) rfl ?_
    exact ⟨none, 0, rfl, sl_nilF (sl_take hs 2)⟩
  by_cases k1 : kind = 1
  · subst k1
    have e1 : readN s 1 = uintV s := if_pos (.inr rfl)
    have e2 : readB s 1 most = [] := if_pos (.inr rfl)
    have e3 : readS s 1 most = uintS s := if_pos (.inr rfl)
    rw [e1, e2, e3]
    obtain ⟨-, m2⟩ := wrap32_mod ho.2.1 ho.2.2
    have HM := Aside0.mk m2
    have HS := Aside0.mk (show SL w0 w [rdS g s, R] from hs)
    clear hs e1 e2 e3 m2 k0
    go_enter Try.func34, Try.ntmps34
    go_wp2_with (first | (go_at_call 22; refine (Int_sl (by exact sl_box HS.out #[.int .i64 0, .int .u32 0, .slice none 0 0] 25) 0 (by exact rfl)).mono ?_; rintro e w1 ⟨rfl, hs⟩; (try simp only [World.size_alloc] at hs); replace HS := Aside0.mk hs; clear hs; have hm0 := c_at HS.out 2 rfl 0 rfl; have hm1 := c_at HS.out 2 rfl 1 rfl; have hm2 := c_at HS.out 2 rfl 2 rfl; have hf0 := f_at HS.out 2 rfl 0; have hf1 := f_at HS.out 2 rfl 1; have hf2 := f_at HS.out 2 rfl 2))
    rw [HM.out]
    have hs := sl_put (sl_put (sl_put HS.out 2 rfl 0 (.int .i64 1)) 2 rfl 1 (.int .u32 (uintV s))) 2 rfl 2 (.slice none 0 0)
    refine bodyPost_ret (results_cell_row rfl _ _ w.heap.size 25 #[.int .i64 1, .int .u32 (uintV s), .slice none 0 0] (0, 0) _ (by rfl) (by exact sl_blk hs 2 rfl) (by exact Try.underlying25) (by rfl) (by kernel_rfl)) rfl ?_
    exact ⟨none, 0, rfl, sl_nilF (sl_take hs 2)⟩
  have z0 : (kind == 0) = false := beq_eq_false_iff_ne.2 k0
  have z1 : (kind == 1) = false := beq_eq_false_iff_ne.2 k1
  have e1 : readN s kind = 0 := if_neg (by omega)
  have e2 : readB s kind most = if kind = 2 then strV s most else arrV s most := if_neg (by omega)
  have e3 : readS s kind most = if kind = 2 then strS s most else arrS s most := if_neg (by omega)
  rw [e1, e2, e3]
  clear k0 k1 e1 e2 e3
  by_cases k2 : kind = 2
  · subst k2
    rw [if_pos rfl, if_pos rfl]
    have HS := Aside0.mk (show SL w0 w [rdS g s, R] from hs)
    have hs1 := str_bytes (strV s most) hb
    have hs2 := str_size (strV s most)
    obtain ⟨st, est⟩ : ∃ st, strOfNums (strV s most) = st := ⟨_, rfl⟩
    have HX := Aside0.mk (show ∀ {w' : World} {M : List Res}, SL w0 w' ([rdS g s, R] ++ M) → Calls Try.prog 24 #[.pointer (some ⟨g, 0, none⟩), .int .i64 most] w' fun e w1 => e = .returned (.string st) ∧ SL w0 w1 ([rdS g (strS s most), R] ++ M) from fun h => by rw [← est]; exact String_sl h 0 rfl most HO.out)
    have hl := strV_len s most HO.out
    rw [est] at hs1 hs2
    rw [← hs2] at hl ⊢
    rw [← hs1]
    have HL := Aside0.mk hl
    have hconv := fun (w : World) => run_bytes_of_string (P := Try.prog) w 9 22 5 st Try.underlying9 Try.underlying22 Try.underlying5
    clear hs hs1 hs2 est z0 z1 hl
    go_enter Try.func34, Try.ntmps34
    go_wp2_with (first | (go_at_call 24; with_reducible refine (HX.out (by exact sl_box HS.out #[.int .i64 0, .int .u32 0, .slice none 0 0] 25)).mono ?_; rintro e w1 ⟨rfl, hs⟩; (try simp only [World.size_alloc] at hs); replace HS := Aside0.mk hs; clear hs; have hlt := blk_lt (sl_blk HS.out 2 rfl); have hm0 := c_at HS.out 2 rfl 0 rfl; have hm1 := c_at HS.out 2 rfl 1 rfl; have hm2 := c_at HS.out 2 rfl 2 rfl; have hf0 := f_at HS.out 2 rfl 0; have hf1 := f_at HS.out 2 rfl 1; have hf2 := f_at HS.out 2 rfl 2))
    have hs := sl_str (fr := ((bytesRow st (grownCap w1 st.size 0 5)).size, (bytesRow st (grownCap w1 st.size 0 5)).size + 1)) (sl_put (sl_put (sl_put HS.out 2 rfl 0 (.int .i64 2)) 2 rfl 1 (.int .u32 0)) 2 rfl 2 (.slice (some ⟨w1.heap.size, 0, none⟩) st.size (grownCap w1 st.size 0 5))) st w1.heap.size (grownCap w1 st.size 0 5) (by simp) HL.out (grownCap_ge _ _ _ _)
    refine bodyPost_ret (results_cell_row rfl _ _ w.heap.size 25 #[.int .i64 2, .int .u32 0, .slice (some ⟨w1.heap.size, 0, none⟩) st.size (grownCap w1 st.size 0 5)] (0, 0) _ (by rfl) (by exact sl_blk hs 2 rfl) (by exact Try.underlying25) (by rfl) (by kernel_rfl)) rfl ?_
    exact ⟨_, _, rfl, sl_pick hs [0, 1, 3] (by decide) rfl⟩
  · rw [if_neg k2, if_neg k2]
    have z2 : (kind == 2) = false := beq_eq_false_iff_ne.2 k2
    have HS := Aside0.mk (show SL w0 w [rdS g s, R] from hs)
    clear hs k2
    go_enter Try.func34, Try.ntmps34
    go_wp2_with (first | (go_at_call 26; refine (Array_sl (by exact sl_box HS.out #[.int .i64 0, .int .u32 0, .slice none 0 0] 25) 0 (by exact rfl) most HO.out).mono ?_; rintro e w1 ⟨A, c, rfl, hs⟩; (try simp only [World.size_alloc] at hs); replace HS := Aside0.mk hs; clear hs; have hm0 := c_at HS.out 2 rfl 0 rfl; have hm1 := c_at HS.out 2 rfl 1 rfl; have hm2 := c_at HS.out 2 rfl 2 rfl; have hf0 := f_at HS.out 2 rfl 0; have hf1 := f_at HS.out 2 rfl 1; have hf2 := f_at HS.out 2 rfl 2))
    have hs := sl_imp (A' := frR8 (.slice A (arrV s most).length c) (arrV s most)) (i := 3) (sl_put (sl_put (sl_put HS.out 2 rfl 0 (.int .i64 kind)) 2 rfl 1 (.int .u32 0)) 2 rfl 2 (.slice A (arrV s most).length c)) rfl (fun F hP => FR.of_lr flat8 hP)
    refine bodyPost_ret (results_cell_row rfl _ _ w.heap.size 25 #[.int .i64 kind, .int .u32 0, .slice A (arrV s most).length c] (0, 0) _ (by rfl) (by exact sl_blk hs 2 rfl) (by exact Try.underlying25) (by rfl) (by kernel_rfl)) rfl ?_
    exact ⟨A, c, rfl, sl_pick hs [0, 1, 3] (by decide) rfl⟩
theorem read_sl {w0 w : World} {L : List Res} (h : SL w0 w L) (i : Nat) {g : Nat} {s : RSt} (hi : L[i]? = some (rdS g s)) (kind most : Int) (ho : RdOk s) (hb : Byt (strV s most)) :
    Calls Try.prog 34 #[.pointer (some ⟨g, 0, none⟩), .int .i64 kind, .int .i64 most] w fun e w' => ∃ A c, e = .returned (.agg #[.int .i64 kind, .int .u32 (readN s kind), .slice A (readB s kind most).length c]) ∧ SL w0 w' (L.set i (rdS g (readS s kind most)) ++ [frR8 (.slice A (readB s kind most).length c) (readB s kind most)]) := by
  obtain ⟨S, h1, h2⟩ := sl_lift h hi
  refine (read_in g s kind most h1 ho hb).mono ?_
  rintro e w' ⟨A, c, rfl, h4⟩
  exact ⟨A, c, rfl, h2 _ _ _ h4⟩
/-! ### Reading back what was written -/
theorem or32 (i : Nat) (hi : i ≤ 24) (a b : Nat) (hb : b < 2 ^ i) (ha : a < 256) : Go.bits .or .u32 (b : Int) ((2 ^ i * a : Nat) : Int) = ((b + 2 ^ i * a : Nat) : Int) := by
  have hp : 2 ^ i ≤ 2 ^ 24 := Nat.pow_le_pow_right (by decide) hi
  have h1 : 2 ^ i * a ≤ 2 ^ 24 * 255 := Nat.mul_le_mul hp (by omega)
  rw [u32_or_nat _ _ (by omega) (by omega), Nat.or_comm, ← Nat.two_pow_add_eq_or_of_lt hb a, Nat.add_comm]
theorem word4_bytes {a0 a1 a2 a3 : Int} (h0 : 0 ≤ a0 ∧ a0 < 256) (h1 : 0 ≤ a1 ∧ a1 < 256) (h2 : 0 ≤ a2 ∧ a2 < 256) (h3 : 0 ≤ a3 ∧ a3 < 256) : word4 a0 a1 a2 a3 = a0 + 256 * a1 + 65536 * a2 + 16777216 * a3 := by
  obtain ⟨x0, rfl⟩ := Int.eq_ofNat_of_zero_le h0.1
  obtain ⟨x1, rfl⟩ := Int.eq_ofNat_of_zero_le h1.1
  obtain ⟨x2, rfl⟩ := Int.eq_ofNat_of_zero_le h2.1
  obtain ⟨x3, rfl⟩ := Int.eq_ofNat_of_zero_le h3.1
  unfold word4
  have e0 : (x0 : Int) % 4294967296 = (x0 : Int) := by omega
  have e1 : (x1 : Int) % 4294967296 * 256 % 4294967296 = ((2 ^ 8 * x1 : Nat) : Int) := by omega
  have e2 : (x2 : Int) % 4294967296 * 65536 % 4294967296 = ((2 ^ 16 * x2 : Nat) : Int) := by omega
  have e3 : (x3 : Int) % 4294967296 * 16777216 % 4294967296 = ((2 ^ 24 * x3 : Nat) : Int) := by omega
  rw [e0, e1, e2, e3, or32 8 (by decide) x1 x0 (by omega) (by omega), or32 16 (by decide) x2 _ (by omega) (by omega), or32 24 (by decide) x3 _ (by omega) (by omega)]
  omega
theorem Byt.at {u : List Int} (h : Byt u) (i : Nat) : 0 ≤ rd u (i : Int) ∧ rd u (i : Int) < 256 := by
  unfold rd
  rw [Int.toNat_natCast, List.getD_eq_getElem?_getD]
  cases hj : u[i]? with
  | none => exact ⟨by decide, by decide⟩
  | some v => exact h v (List.mem_of_getElem? hj)
theorem RdOk_of {u : List Int} {er : Int} (hb : Byt u) (hl : u.length ≤ 1000000) : RdOk ⟨u, er⟩ := by
  refine ⟨hl, ?_⟩
  unfold uintV
  split
  · have h0 := hb.at 0
    have h1 := hb.at 1
    have h2 := hb.at 2
    have h3 := hb.at 3
    have e := word4_bytes h0 h1 h2 h3
    show 0 ≤ word4 (rd u ((0 : Nat) : Int)) (rd u ((1 : Nat) : Int)) (rd u ((2 : Nat) : Int)) (rd u ((3 : Nat) : Int)) ∧ word4 (rd u ((0 : Nat) : Int)) (rd u ((1 : Nat) : Int)) (rd u ((2 : Nat) : Int)) (rd u ((3 : Nat) : Int)) < 4294967296
    rw [e]
    omega
  · exact ⟨by decide, by decide⟩
theorem uint_quad {n : Int} (h0 : 0 ≤ n) (h1 : n < 4294967296) (rest : List Int) : uintV ⟨quad n ++ rest, 0⟩ = n ∧ uintS ⟨quad n ++ rest, 0⟩ = ⟨rest, 0⟩ := by
  constructor
  · have e : uintV ⟨quad n ++ rest, 0⟩ = word4 (n % 256) ((n / 256) % 256) ((n / 65536) % 256) (n / 16777216) := by
      unfold uintV
      rw [if_pos ⟨rfl, by simp [quad]⟩]
      rfl
    rw [e, word4_bytes (by omega) (by omega) (by omega) (by omega)]
    omega
  · unfold uintS
    rw [if_pos rfl, if_pos (by simp [quad])]
    rfl
theorem padN_nat (n : Nat) : padN n = ((padL n).length : Int) := by
  unfold padL
  rw [List.length_replicate]
  unfold padN
  omega
theorem arr_item (bs rest : List Int) (most : Int) (hl : bs.length ≤ 1000000) (hm : (bs.length : Int) ≤ mx most 0) : arrV ⟨quad bs.length ++ (bs ++ padL bs.length ++ rest), 0⟩ most = bs ∧ arrS ⟨quad bs.length ++ (bs ++ padL bs.length ++ rest), 0⟩ most = ⟨rest, 0⟩ := by
  obtain ⟨e1, e2⟩ := uint_quad (n := bs.length) (by omega) (by omega) (bs ++ padL bs.length ++ rest)
  have e3 : needN ⟨quad bs.length ++ (bs ++ padL bs.length ++ rest), 0⟩ = ((bs ++ padL bs.length).length : Int) := by
    unfold needN
    rw [e1, padN_nat, List.length_append]
    omega
  have e4 : cleanB ⟨quad bs.length ++ (bs ++ padL bs.length ++ rest), 0⟩ = true := by
    unfold cleanB
    rw [e3, e2, e1, Int.toNat_natCast, Int.toNat_natCast]
    show ((((bs ++ padL bs.length) ++ rest).take (bs ++ padL bs.length).length).drop bs.length).all (· == 0) = true
    rw [List.take_left, List.drop_left, List.all_eq_true]
    intro x hx
    have := (List.mem_replicate.1 hx).2
    subst this
    rfl
  unfold arrV arrS
  rw [e1, e2, e3, e4]
  refine ⟨?_, ?_⟩
  · rw [if_neg (by intro h; exact h rfl), if_neg (by omega), if_neg (by show ¬ (((bs ++ padL bs.length ++ rest).length : Nat) : Int) < _; simp only [List.length_append]; omega), if_pos rfl]
    show List.take ((bs.length : Int)).toNat (bs ++ padL bs.length ++ rest) = bs
    rw [Int.toNat_natCast, List.append_assoc, List.take_left]
  · rw [if_neg (by intro h; exact h rfl), if_neg (by omega), if_neg (by show ¬ (((bs ++ padL bs.length ++ rest).length : Nat) : Int) < _; simp only [List.length_append]; omega), if_pos rfl]
    show (⟨List.drop (((bs ++ padL bs.length).length : Int)).toNat (bs ++ padL bs.length ++ rest), 0⟩ : RSt) = ⟨rest, 0⟩
    rw [Int.toNat_natCast, List.drop_left]
theorem arr_limit (bs rest : List Int) (most : Int) (hl : bs.length ≤ 1000000) (hm : mx most 0 < (bs.length : Int)) : arrV ⟨quad bs.length ++ (bs ++ padL bs.length ++ rest), 0⟩ most = [] ∧ arrS ⟨quad bs.length ++ (bs ++ padL bs.length ++ rest), 0⟩ most = ⟨[], 5⟩ := by
  obtain ⟨e1, e2⟩ := uint_quad (n := bs.length) (by omega) (by omega) (bs ++ padL bs.length ++ rest)
  unfold arrV arrS
  rw [e1, e2]
  refine ⟨?_, ?_⟩
  · rw [if_neg (by intro h; exact h rfl), if_pos hm]
  · rw [if_neg (by intro h; exact h rfl), if_pos hm]
/-- A string has no zero byte. -/
def Rdb (kind : Int) (bs : List Int) : Bool := kind != 2 || noZ bs
theorem item_len (kind n : Int) (bs : List Int) : (item kind n bs).length ≤ bs.length + 8 := by
  unfold item
  split
  · simp [quad]
  · have : (padL bs.length).length ≤ 3 := by
      have := padN_nat bs.length
      unfold padN at this
      omega
    simp only [List.length_append]
    show 4 + bs.length + _ ≤ _
    omega
theorem item_byt {kind n : Int} {bs : List Int} (hb : Byt bs) (h0 : 0 ≤ n) (h1 : n < 4294967296) (hl : bs.length ≤ 1000000) : Byt (item kind n bs) := by
  unfold item
  split
  · exact quad_byte h0 h1
  · intro x hx
    rcases List.mem_append.1 hx with hx | hx
    · rcases List.mem_append.1 hx with hx | hx
      · exact quad_byte (by omega) (by omega) x hx
      · exact hb x hx
    · have := (List.mem_replicate.1 hx).2
      subst this
      exact ⟨by decide, by decide⟩
/-- What is written is read. -/
theorem read_item {kind n : Int} {bs : List Int} (h0 : 0 ≤ n) (h1 : n < 4294967296) (hl : bs.length ≤ 1000000) (most : Int) (hm : (bs.length : Int) ≤ mx most 0) (hr : Rdb kind bs = true) (rest : List Int) :
    readN ⟨item kind n bs ++ rest, 0⟩ kind = (if kind = 0 ∨ kind = 1 then n else 0) ∧ readB ⟨item kind n bs ++ rest, 0⟩ kind most = (if kind = 0 ∨ kind = 1 then [] else bs) ∧ readS ⟨item kind n bs ++ rest, 0⟩ kind most = ⟨rest, 0⟩ := by
  unfold readN readB readS item
  by_cases hk : kind = 0 ∨ kind = 1
  · obtain ⟨e1, e2⟩ := uint_quad h0 h1 rest
    simp only [if_pos hk]
    exact ⟨e1, trivial, e2⟩
  · simp only [if_neg hk]
    obtain ⟨e1, e2⟩ := arr_item bs rest most hl hm
    have e : quad (bs.length : Int) ++ bs ++ padL bs.length ++ rest = quad (bs.length : Int) ++ (bs ++ padL bs.length ++ rest) := by simp
    rw [e]
    refine ⟨trivial, ?_⟩
    by_cases h2 : kind = 2
    · rw [if_pos h2, if_pos h2]
      have hz : noZ bs = true := by
        unfold Rdb at hr
        rw [h2] at hr
        exact hr
      unfold strV strS
      rw [e1, e2, if_pos hz, if_pos hz]
      exact ⟨rfl, rfl⟩
    · rw [if_neg h2, if_neg h2]
      exact ⟨e1, e2⟩
theorem read_limit {kind n : Int} {bs : List Int} (hk : ¬ (kind = 0 ∨ kind = 1)) (hl : bs.length ≤ 1000000) (most : Int) (hm : mx most 0 < (bs.length : Int)) :
    readB ⟨item kind n bs, 0⟩ kind most = [] ∧ readS ⟨item kind n bs, 0⟩ kind most = ⟨[], 5⟩ := by
  obtain ⟨e1, e2⟩ := arr_limit bs [] most hl hm
  rw [List.append_nil] at e1 e2
  unfold readB readS item
  simp only [if_neg hk]
  rw [List.append_assoc]
  by_cases h2 : kind = 2
  · rw [if_pos h2, if_pos h2]
    unfold strV strS
    rw [e1, e2]
    exact ⟨rfl, rfl⟩
  · rw [if_neg h2, if_neg h2]
    exact ⟨e1, e2⟩
def lightB (l : List S25) : Bool := decide (l.length ≤ 12) && l.all (fun x => decide (x.f2.length ≤ 300))
theorem rdT {l : List S25} {i : Nat} (h : i < l.length) : rd_T25 l (i : Int) = l[i] := by
  unfold rd_T25
  rw [Int.toNat_natCast, List.getD_eq_getElem?_getD, List.getElem?_eq_getElem h]
  rfl
theorem light_l (l : List S25) (hl : l.length ≤ 12) (d : Nat) : ∀ i : Nat, i + d = l.length → compositorlaw01_light.l0 (d + 1) l (i : Int) = some ((l.drop i).all (fun x => decide (x.f2.length ≤ 300))) := by
  induction d with
  | zero =>
    intro i hi
    unfold compositorlaw01_light.l0
    rw [if_neg (by omega), List.drop_eq_nil_of_le (by omega)]
    rfl
  | succ d ih =>
    intro i hi
    unfold compositorlaw01_light.l0
    rw [if_pos (by omega), if_pos (by omega), rdT (by omega), List.drop_eq_getElem_cons (by omega), List.all_cons]
    by_cases h3 : 300 < (l[i]'(by omega)).f2.length
    · rw [if_pos (by omega), decide_eq_false (by omega)]
      rfl
    · rw [if_neg (by omega), decide_eq_true (by omega), Bool.true_and]
      have hw : wrap64 ((i : Int) + 1) = ((i + 1 : Nat) : Int) := by unfold wrap64; omega
      rw [hw]
      exact ih (i + 1) (by omega)
theorem light_f (l : List S25) : ∃ k, compositorlaw01_light.f k l = some (lightB l) := by
  unfold compositorlaw01_light.f lightB
  by_cases hl : l.length ≤ 12
  · refine ⟨l.length + 1, ?_⟩
    rw [if_neg (by omega), decide_eq_true hl, Bool.true_and]
    exact light_l l hl l.length 0 (by omega)
  · exact ⟨0, by rw [if_pos (by omega), decide_eq_false hl]; rfl⟩
theorem light_c {w0 w : World} {L : List Res} (h : SL w0 w L) (A : Option Addr) (c n : Nat) (l : List S25) (hn : n = l.length) (hr : Kd.C k25 w A l.length l) (hc : l.length ≤ c) :
    Calls Try.prog 10 #[.slice A n c] w fun e w' => e = .returned (.bool (lightB l)) ∧ SL w0 w' L := by
  subst hn
  obtain ⟨k, hk⟩ := light_f l
  refine (compositorlaw01_light.calls k A c l _ w hr hc hk).mono ?_
  rintro e w' ⟨rfl, n, rfl⟩
  exact ⟨rfl, sl_drewN h n⟩
theorem readable_l (bs : List Int) (n : Int) (hl : bs.length ≤ 1000000) (d : Nat) : ∀ i : Nat, i + d = bs.length → compositorlaw01_readable.l0 (2 * d + 2) (i : Int) 2 n bs = some (noZ (bs.drop i)) := by
  induction d with
  | zero =>
    intro i hi
    rw [List.drop_eq_nil_of_le (by omega)]
    unfold compositorlaw01_readable.l0
    rw [if_neg (by omega)]
    unfold compositorlaw01_readable.j1
    rfl
  | succ d ih =>
    intro i hi
    have e : 2 * (d + 1) + 2 = (2 * d + 2) + 1 + 1 := by omega
    rw [e]
    unfold compositorlaw01_readable.l0
    rw [if_pos (by omega)]
    unfold compositorlaw01_readable.j1
    rw [if_pos (show ((2 : Int) == 2) = true from rfl), if_pos (by omega), if_pos (by omega), rd_get (by omega), List.drop_eq_getElem_cons (by omega)]
    unfold noZ
    rw [List.all_cons]
    by_cases hz : bs[i]'(by omega) = 0
    · rw [if_pos hz, hz]
      rfl
    · have hz2 : (bs[i]'(by omega) != 0) = true := bne_iff_ne.2 hz
      rw [if_neg hz, hz2, Bool.true_and]
      have hw : wrap64 ((i : Int) + 1) = ((i + 1 : Nat) : Int) := by unfold wrap64; omega
      rw [hw]
      exact ih (i + 1) (by omega)
theorem readable_f (kind n : Int) (bs : List Int) (hl : bs.length ≤ 1000000) : ∃ k, compositorlaw01_readable.f k kind n bs = some (Rdb kind bs) := by
  unfold compositorlaw01_readable.f Rdb
  by_cases h2 : kind = 2
  · subst h2
    exact ⟨2 * bs.length + 2, readable_l bs n hl bs.length 0 (by omega)⟩
  · have hz : (kind == 2) = false := beq_eq_false_iff_ne.2 h2
    have hz2 : (kind != 2) = true := bne_iff_ne.2 h2
    refine ⟨2, ?_⟩
    rw [hz2, Bool.true_or]
    unfold compositorlaw01_readable.l0
    rw [hz]
    split
    · unfold compositorlaw01_readable.j1
      rfl
    · unfold compositorlaw01_readable.j1
      rfl
theorem readable_c {w0 w : World} {L : List Res} (h : SL w0 w L) (kind n : Int) (A : Option Addr) (c m : Nat) (bs : List Int) (hn : m = bs.length) (hr : Kd.C (Kd.int .u8) w A bs.length bs) (hc : bs.length ≤ c) (hl : bs.length ≤ 1000000) :
    Calls Try.prog 33 #[.agg #[.int .i64 kind, .int .u32 n, .slice A m c]] w fun e w' => e = .returned (.bool (Rdb kind bs)) ∧ SL w0 w' L := by
  subst hn
  obtain ⟨k, hk⟩ := readable_f kind n bs hl
  refine (compositorlaw01_readable.calls k kind n A c bs _ w hr hc hk).mono ?_
  rintro e w' ⟨rfl, hb⟩
  exact ⟨rfl, sl_below h hb⟩
/-! ### Lists of values: what they are written as -/
def itemOf (x : S25) : List Int := item x.f0 x.f1 x.f2
def allI (l : List S25) : List Int := l.flatMap itemOf
def OkI (x : S25) : Prop := (0 ≤ x.f1 ∧ x.f1 < 4294967296) ∧ Byt x.f2
def LiI (l : List S25) : Prop := l.length ≤ 12 ∧ ∀ x ∈ l, x.f2.length ≤ 300
theorem light_t {l : List S25} (h : lightB l = true) : LiI l := by
  unfold lightB at h
  rw [Bool.and_eq_true, List.all_eq_true] at h
  exact ⟨of_decide_eq_true h.1, fun x hx => of_decide_eq_true (h.2 x hx)⟩
theorem allI_cons (x : S25) (l : List S25) : allI (x :: l) = itemOf x ++ allI l := List.flatMap_cons
theorem allI_add (l : List S25) (x : S25) : allI (l ++ [x]) = allI l ++ itemOf x := by simp [allI]
theorem allI_take {l : List S25} {i : Nat} (h : i < l.length) : allI (l.take (i + 1)) = allI (l.take i) ++ itemOf l[i] := by
  rw [List.take_succ_eq_append_getElem h, allI_add]
theorem allI_drop {l : List S25} {i : Nat} (h : i < l.length) : allI (l.drop i) = itemOf l[i] ++ allI (l.drop (i + 1)) := by
  rw [List.drop_eq_getElem_cons h, allI_cons]
theorem allI_len : ∀ l : List S25, (∀ x ∈ l, x.f2.length ≤ 300) → (allI l).length ≤ 308 * l.length
  | [], _ => by simp [allI]
  | x :: l, h => by
    have h1 := allI_len l fun y hy => h y (by simp [hy])
    have h2 := item_len x.f0 x.f1 x.f2
    have h3 := h x (by simp)
    rw [allI_cons, List.length_append, List.length_cons]
    unfold itemOf
    omega
theorem allI_byt : ∀ l : List S25, (∀ x ∈ l, OkI x) → (∀ x ∈ l, x.f2.length ≤ 300) → Byt (allI l)
  | [], _, _ => fun x hx => by simp [allI] at hx
  | x :: l, h, hb => fun y hy => by
    have hx := h x (by simp)
    rw [allI_cons, List.mem_append] at hy
    rcases hy with hy | hy
    · exact item_byt hx.2 hx.1.1 hx.1.2 (by have := hb x (by simp); omega) y hy
    · exact allI_byt l (fun z hz => h z (by simp [hz])) (fun z hz => hb z (by simp [hz])) y hy
theorem item_mod (kind n : Int) (bs : List Int) : (item kind n bs).length % 4 = 0 := by
  unfold item
  split
  · simp [quad]
  · have := padN_nat bs.length
    unfold padN at this
    simp only [List.length_append]
    show (4 + bs.length + (padL bs.length).length) % 4 = 0
    omega
theorem allI_mod : ∀ l : List S25, (allI l).length % 4 = 0
  | [] => by simp [allI]
  | x :: l => by
    have h1 := allI_mod l
    have h2 := item_mod x.f0 x.f1 x.f2
    rw [allI_cons, List.length_append]
    unfold itemOf
    omega
/-- Two values of one kind are equal. -/
def equalB (a b : S25) : Bool := if a.f0 = 0 ∨ a.f0 = 1 then decide (a.f1 = b.f1) else decide (a.f2 = b.f2)
theorem item_inj {k n m : Int} {b d r s : List Int} (hn : 0 ≤ n ∧ n < 4294967296) (hm : 0 ≤ m ∧ m < 4294967296) (hb : b.length ≤ 300) (hd : d.length ≤ 300) :
    item k n b ++ r = item k m d ++ s ↔ (if k = 0 ∨ k = 1 then n = m else b = d) ∧ r = s := by
  unfold item
  by_cases hk : k = 0 ∨ k = 1
  · simp only [if_pos hk]
    constructor
    · intro h
      obtain ⟨e1, e2⟩ := uint_quad hn.1 hn.2 r
      obtain ⟨e3, e4⟩ := uint_quad hm.1 hm.2 s
      rw [h] at e1 e2
      refine ⟨e1.symm.trans e3, ?_⟩
      have := e2.symm.trans e4
      injection this
    · rintro ⟨rfl, rfl⟩
      rfl
  · simp only [if_neg hk]
    constructor
    · intro h
      have a1 : quad (b.length : Int) ++ b ++ padL b.length ++ r = quad (b.length : Int) ++ (b ++ padL b.length ++ r) := by simp
      have a2 : quad (d.length : Int) ++ d ++ padL d.length ++ s = quad (d.length : Int) ++ (d ++ padL d.length ++ s) := by simp
      rw [a1, a2] at h
      have hx : mx 1000 0 = 1000 := by unfold mx; omega
      obtain ⟨e1, e2⟩ := arr_item b r 1000 (by omega) (by rw [hx]; omega)
      obtain ⟨e3, e4⟩ := arr_item d s 1000 (by omega) (by rw [hx]; omega)
      rw [h] at e1 e2
      refine ⟨e1.symm.trans e3, ?_⟩
      have := e2.symm.trans e4
      injection this
    · rintro ⟨rfl, rfl⟩
      rfl
/-- m's values with l's kinds. -/
def mixI (l m : List S25) : List S25 := List.zipWith (fun x y => (⟨x.f0, y.f1, y.f2⟩ : S25)) l m
def eqI : List S25 → List S25 → Bool
  | x :: l, y :: m => equalB x y && eqI l m
  | _, _ => true
theorem all_mix : ∀ l m : List S25, l.length = m.length → (∀ x ∈ l, OkI x) → (∀ x ∈ m, OkI x) → (∀ x ∈ l, x.f2.length ≤ 300) → (∀ x ∈ m, x.f2.length ≤ 300) → decide (allI l = allI (mixI l m)) = eqI l (mixI l m)
  | [], [], _, _, _, _, _ => by simp [mixI, eqI]
  | x :: l, y :: m, h, hl, hm, bl, bm => by
    have ih := all_mix l m (by simpa using h) (fun z hz => hl z (by simp [hz])) (fun z hz => hm z (by simp [hz])) (fun z hz => bl z (by simp [hz])) (fun z hz => bm z (by simp [hz]))
    have e : mixI (x :: l) (y :: m) = (⟨x.f0, y.f1, y.f2⟩ : S25) :: mixI l m := rfl
    rw [e]
    unfold eqI
    rw [← ih, allI_cons, allI_cons]
    unfold itemOf equalB
    have key := item_inj (k := x.f0) (n := x.f1) (m := y.f1) (b := x.f2) (d := y.f2) (r := allI l) (s := allI (mixI l m)) (hl x (by simp)).1 (hm y (by simp)).1 (bl x (by simp)) (bm y (by simp))
    by_cases hk : x.f0 = 0 ∨ x.f0 = 1
    · simp only [if_pos hk] at key ⊢
      rw [← Bool.decide_and]
      exact decide_eq_decide.2 key
    · simp only [if_neg hk] at key ⊢
      rw [← Bool.decide_and]
      exact decide_eq_decide.2 key
theorem mix_len {l m : List S25} (h : l.length = m.length) : (mixI l m).length = l.length := by
  unfold mixI
  rw [List.length_zipWith]
  omega
theorem mix_take {l m : List S25} {i : Nat} (h1 : i < l.length) (h2 : i < m.length) : mixI (l.take (i + 1)) (m.take (i + 1)) = mixI (l.take i) (m.take i) ++ [(⟨l[i].f0, m[i].f1, m[i].f2⟩ : S25)] := by
  unfold mixI
  rw [List.take_succ_eq_append_getElem h1, List.take_succ_eq_append_getElem h2, List.zipWith_append (by rw [List.length_take, List.length_take]; omega)]
  rfl
theorem eqI_add : ∀ (l m : List S25) (x y : S25), l.length = m.length → eqI (l ++ [x]) (m ++ [y]) = (eqI l m && equalB x y)
  | [], [], x, y, _ => by simp [eqI]
  | a :: l, b :: m, x, y, h => by
    have ih := eqI_add l m x y (by simpa using h)
    show (equalB a b && eqI (l ++ [x]) (m ++ [y])) = _
    rw [ih, ← Bool.and_assoc]
    rfl
theorem eqI_take {l m : List S25} {i : Nat} (h1 : i < l.length) (h2 : i < m.length) : eqI (l.take (i + 1)) (mixI (l.take (i + 1)) (m.take (i + 1))) = (eqI (l.take i) (mixI (l.take i) (m.take i)) && equalB l[i] (⟨l[i].f0, m[i].f1, m[i].f2⟩ : S25)) := by
  rw [mix_take h1 h2, List.take_succ_eq_append_getElem h1]
  refine eqI_add _ _ _ _ ?_
  rw [mix_len (by rw [List.length_take, List.length_take]; omega)]
theorem mix_ok {l m : List S25} (hm : ∀ x ∈ m, OkI x) (bm : ∀ x ∈ m, x.f2.length ≤ 300) : ∀ x ∈ mixI l m, OkI x ∧ x.f2.length ≤ 300 := by
  intro x hx
  unfold mixI at hx
  obtain ⟨i, hi⟩ := List.getElem?_of_mem hx
  rw [List.getElem?_zipWith] at hi
  cases h1 : l[i]? <;> cases h2 : m[i]? <;> rw [h1, h2] at hi
  · cases hi
  · cases hi
  · cases hi
  · rename_i a b
    have : (⟨a.f0, b.f1, b.f2⟩ : S25) = x := by simpa using hi
    subst this
    have hb := List.mem_of_getElem? h2
    exact ⟨hm b hb, bm b hb⟩
/-! ### What is left of an encoding without its last bytes -/
/-- An error stays. -/
theorem read_err (er : Int) (he : er ≠ 0) (kind most : Int) : readN ⟨[], er⟩ kind = 0 ∧ readB ⟨[], er⟩ kind most = [] ∧ readS ⟨[], er⟩ kind most = ⟨[], er⟩ := by
  have u1 : uintV ⟨[], er⟩ = 0 := if_neg (fun h => he h.1)
  have u2 : uintS ⟨[], er⟩ = ⟨[], er⟩ := if_neg he
  have a1 : arrV ⟨[], er⟩ most = [] := by unfold arrV; rw [u2, if_pos he]
  have a2 : arrS ⟨[], er⟩ most = ⟨[], er⟩ := by unfold arrS; rw [u2, if_pos he]
  have s1 : strV ⟨[], er⟩ most = [] := by unfold strV; rw [a1]; rfl
  have s2 : strS ⟨[], er⟩ most = ⟨[], er⟩ := by unfold strS; rw [a1, a2]; rfl
  unfold readN readB readS
  rw [u1, u2, a1, a2, s1, s2]
  simp
/-- A string with a zero byte. -/
theorem read_zero {n : Int} {bs : List Int} (hl : bs.length ≤ 300) (hr : Rdb 2 bs = false) (rest : List Int) :
    readN ⟨item 2 n bs ++ rest, 0⟩ 2 = 0 ∧ readB ⟨item 2 n bs ++ rest, 0⟩ 2 300 = [] ∧ readS ⟨item 2 n bs ++ rest, 0⟩ 2 300 = ⟨[], 3⟩ := by
  have hx : mx 300 0 = 300 := by unfold mx; omega
  obtain ⟨e1, e2⟩ := arr_item bs rest 300 (by omega) (by rw [hx]; omega)
  have e : item 2 n bs ++ rest = quad (bs.length : Int) ++ (bs ++ padL bs.length ++ rest) := by
    unfold item
    rw [if_neg (by omega)]
    simp
  have hz : noZ bs = false := hr
  unfold readN readB readS strV strS
  rw [e, e1, e2, hz]
  exact ⟨rfl, rfl, rfl⟩
theorem uint_short {u : List Int} (h : u.length < 4) : uintV ⟨u, 0⟩ = 0 ∧ uintS ⟨u, 0⟩ = ⟨[], 4⟩ := by
  constructor
  · exact if_neg (fun h2 => by have := h2.2; simp only at this; omega)
  · unfold uintS
    rw [if_pos rfl, if_neg (by simp only; omega)]
/-- Too few bytes. -/
theorem read_cut {kind n : Int} {bs : List Int} (hn : 0 ≤ n ∧ n < 4294967296) (hl : bs.length ≤ 300) {m : Nat} (hm : m < (item kind n bs).length) (rest : List Int) :
    readN ⟨(item kind n bs ++ rest).take m, 0⟩ kind = 0 ∧ readB ⟨(item kind n bs ++ rest).take m, 0⟩ kind 300 = [] ∧ readS ⟨(item kind n bs ++ rest).take m, 0⟩ kind 300 = ⟨[], 4⟩ := by
  rw [List.take_append_of_le_length (by omega)]
  have hlen : ((item kind n bs).take m).length = m := by rw [List.length_take]; omega
  by_cases hk : kind = 0 ∨ kind = 1
  · have h4 : (item kind n bs).length = 4 := by unfold item; rw [if_pos hk]; rfl
    obtain ⟨e1, e2⟩ := uint_short (u := (item kind n bs).take m) (by omega)
    unfold readN readB readS
    simp only [if_pos hk, e1, e2]
    trivial
  · have hi : item kind n bs = quad (bs.length : Int) ++ (bs ++ padL bs.length) := by
      unfold item
      rw [if_neg hk]
      simp
    have hx : mx 300 0 = 300 := by unfold mx; omega
    have key : arrV ⟨(item kind n bs).take m, 0⟩ 300 = [] ∧ arrS ⟨(item kind n bs).take m, 0⟩ 300 = ⟨[], 4⟩ := by
      by_cases h4 : m < 4
      · obtain ⟨e1, e2⟩ := uint_short (u := (item kind n bs).take m) (by omega)
        unfold arrV arrS
        rw [e2]
        exact ⟨if_pos (by decide), if_pos (by decide)⟩
      · have hq : (item kind n bs).take m = quad (bs.length : Int) ++ (bs ++ padL bs.length).take (m - 4) := by
          rw [hi, List.take_append]
          congr 1
          exact List.take_of_length_le (by show 4 ≤ m; omega)
        obtain ⟨e1, e2⟩ := uint_quad (n := bs.length) (by omega) (by omega) ((bs ++ padL bs.length).take (m - 4))
        rw [hq]
        have e3 : needN ⟨quad (bs.length : Int) ++ (bs ++ padL bs.length).take (m - 4), 0⟩ = ((bs ++ padL bs.length).length : Int) := by
          unfold needN
          rw [e1, padN_nat, List.length_append]
          omega
        have hml : m < 4 + (bs ++ padL bs.length).length := by
          rw [hi, List.length_append] at hm
          exact hm
        have h5 : ((((bs ++ padL bs.length).take (m - 4)).length : Nat) : Int) < ((bs ++ padL bs.length).length : Int) := by
          rw [List.length_take]
          omega
        unfold arrV arrS
        rw [e1, e2, e3]
        refine ⟨?_, ?_⟩
        · rw [if_neg (by intro h; exact h rfl), if_neg (by omega), if_pos h5]
        · rw [if_neg (by intro h; exact h rfl), if_neg (by omega), if_pos h5]
    obtain ⟨a1, a2⟩ := key
    have s1 : strV ⟨(item kind n bs).take m, 0⟩ 300 = [] := by unfold strV; rw [a1]; rfl
    have s2 : strS ⟨(item kind n bs).take m, 0⟩ 300 = ⟨[], 4⟩ := by unfold strS; rw [a1, a2]; rfl
    unfold readN readB readS
    simp only [if_neg hk, a1, a2, s1, s2]
    refine ⟨trivial, ?_, ?_⟩ <;> simp
/-- A reader of what is left, behind i values: it has read them, or is at the end for good. -/
def CutI (l : List S25) (i : Nat) (s : RSt) : Prop := (∃ m, m < (allI (l.drop i)).length ∧ s = ⟨(allI (l.drop i)).take m, 0⟩) ∨ s = ⟨[], 4⟩
theorem CutI.step {l : List S25} {i : Nat} {s : RSt} (h : CutI l i s) (hi : i < l.length) (ok : OkI l[i]) (hl : l[i].f2.length ≤ 300) :
    (CutI l (i + 1) (readS s l[i].f0 300) ∧ ((readS s l[i].f0 300).er ≠ 0 → readN s l[i].f0 = 0 ∧ readB s l[i].f0 300 = []) ∧ (readS s l[i].f0 300).er ≠ 3) ∨ ((readS s l[i].f0 300).er = 3 ∧ Rdb l[i].f0 l[i].f2 = false) := by
  have hx : mx 300 0 = 300 := by unfold mx; omega
  rcases h with ⟨m, hm, rfl⟩ | rfl
  · rw [allI_drop hi] at hm ⊢
    unfold itemOf at hm ⊢
    by_cases hlt : m < (item l[i].f0 l[i].f1 l[i].f2).length
    · obtain ⟨e1, e2, e3⟩ := read_cut ok.1 hl hlt (allI (l.drop (i + 1)))
      rw [e1, e2, e3]
      exact .inl ⟨.inr rfl, fun _ => ⟨rfl, rfl⟩, by decide⟩
    · have ht : (item l[i].f0 l[i].f1 l[i].f2 ++ allI (l.drop (i + 1))).take m = item l[i].f0 l[i].f1 l[i].f2 ++ (allI (l.drop (i + 1))).take (m - (item l[i].f0 l[i].f1 l[i].f2).length) := by
        rw [List.take_append]
        congr 1
        exact List.take_of_length_le (by omega)
      rw [ht]
      by_cases hr : Rdb l[i].f0 l[i].f2 = true
      · obtain ⟨_, _, e3⟩ := read_item ok.1.1 ok.1.2 (by omega) 300 (by rw [hx]; omega) hr ((allI (l.drop (i + 1))).take (m - (item l[i].f0 l[i].f1 l[i].f2).length))
        rw [e3]
        refine .inl ⟨.inl ⟨_, ?_, rfl⟩, fun h => absurd rfl h, (show (0 : Int) ≠ 3 by decide)⟩
        rw [List.length_append] at hm
        omega
      · have hr : Rdb l[i].f0 l[i].f2 = false := Bool.eq_false_iff.2 hr
        have hk : l[i].f0 = 2 := by
          refine Decidable.byContradiction fun hk => ?_
          have : (l[i].f0 != 2) = true := bne_iff_ne.2 hk
          unfold Rdb at hr
          rw [this] at hr
          cases hr
        rw [hk] at hr ⊢
        obtain ⟨_, _, e3⟩ := read_zero (n := l[i].f1) hl hr ((allI (l.drop (i + 1))).take (m - (item 2 l[i].f1 l[i].f2).length))
        rw [e3]
        exact .inr ⟨rfl, hr⟩
  · obtain ⟨e1, e2, e3⟩ := read_err 4 (by decide) l[i].f0 300
    rw [e1, e2, e3]
    exact .inl ⟨.inr rfl, fun _ => ⟨rfl, rfl⟩, by decide⟩
theorem CutI.out {l : List S25} {s : RSt} (h : CutI l l.length s) : s = ⟨[], 4⟩ := by
  rcases h with ⟨m, hm, _⟩ | h
  · rw [List.drop_length] at hm
    exact absurd hm (by simp [allI])
  · exact h
theorem CutI.start (l : List S25) {m : Nat} (h : m < (allI l).length) : CutI l 0 ⟨(allI l).take m, 0⟩ := .inl ⟨m, h, rfl⟩
theorem CutI.rdok {l : List S25} {i : Nat} {s : RSt} (h : CutI l i s) (ok : ∀ x ∈ l, OkI x) (hl : LiI l) : RdOk s ∧ Byt s.u := by
  rcases h with ⟨m, hm, rfl⟩ | rfl
  · have hb : Byt ((allI (l.drop i)).take m) := fun x hx => allI_byt (l.drop i) (fun y hy => ok y (List.mem_of_mem_drop hy)) (fun y hy => hl.2 y (List.mem_of_mem_drop hy)) x (List.mem_of_mem_take hx)
    refine ⟨RdOk_of hb ?_, hb⟩
    have := allI_len (l.drop i) (fun y hy => hl.2 y (List.mem_of_mem_drop hy))
    have := hl.1
    rw [List.length_drop] at *
    rw [List.length_take]
    omega
  · exact ⟨RdOk_of (fun x hx => by simp at hx) (by simp), fun x hx => by simp at hx⟩
theorem arrV_byt {s : RSt} (most : Int) (h : Byt s.u) : Byt (arrV s most) := by
  have h2 : Byt (uintS s).u := by
    unfold uintS
    split
    · split
      · exact fun x hx => h x (List.mem_of_mem_drop hx)
      · exact fun x hx => by simp at hx
    · exact h
  unfold arrV
  repeat' split
  all_goals first | exact (fun x hx => by simp at hx) | exact fun x hx => h2 x (List.mem_of_mem_take hx)
theorem strV_byt {s : RSt} (most : Int) (h : Byt s.u) : Byt (strV s most) := by
  unfold strV
  split
  · exact arrV_byt most h
  · exact fun x hx => by simp at hx
end Go.Proofs.Ytmihibikhmldgaa.Q
