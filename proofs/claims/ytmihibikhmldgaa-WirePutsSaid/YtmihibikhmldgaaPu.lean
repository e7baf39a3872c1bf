import Derived.Laws.IdiomStrings
import Derived.Test.YtmihibikhmldgaaWe
namespace Go.Proofs.Ytmihibikhmldgaa.Q
open Go.RowKit Go.Proofs.YtmihibikhmldgaaW.PrintWords Go.Proofs.YtmihibikhmldgaaW.PrintLast Go.Proofs.YtmihibikhmldgaaW.PrintMore Go.Proofs.Ytmihibikhmldgaa.Sl Go.Proofs.Ytmihibikhmldgaa.Hand 
attribute [local go_sem] max2_int min2_int max_two min_two max_three min_three max_four min_four 
set_option linter.unusedVariables false
set_option linter.unusedSimpArgs false

/-! ### What the reference writes -/
theorem rPutUint_f (b : List Int) (n : Int) (h0 : 0 ≤ n) (h1 : n < 4294967296) (hl : b.length ≤ 1000000) : compositorref01_PutUint.f 5 b n = some (b ++ quad n) := by
  have w0 : IntKind.u64.wrap (8 * IntKind.u64.wrap 0) = 0 := by decide
  have w1 : IntKind.u64.wrap (8 * IntKind.u64.wrap 1) = 8 := by decide
  have w2 : IntKind.u64.wrap (8 * IntKind.u64.wrap 2) = 16 := by decide
  have w3 : IntKind.u64.wrap (8 * IntKind.u64.wrap 3) = 24 := by decide
  have v1 : wrap64 (0 + 1) = 1 := by unfold wrap64; omega
  have v2 : wrap64 (1 + 1) = 2 := by unfold wrap64; omega
  have v3 : wrap64 (2 + 1) = 3 := by unfold wrap64; omega
  have v4 : wrap64 (3 + 1) = 4 := by unfold wrap64; omega
  have s0 : shr .u32 n 0 % 256 = n % 256 := by unfold shr; simp
  have s1 : shr .u32 n 8 % 256 = n / 256 % 256 := by unfold shr; rfl
  have s2 : shr .u32 n 16 % 256 = n / 65536 % 256 := by unfold shr; rfl
  have s3 : shr .u32 n 24 % 256 = n / 16777216 := by
    have : shr .u32 n 24 = n / 16777216 := by unfold shr; rfl
    rw [this]
    omega
  unfold compositorref01_PutUint.f
  rw [if_pos (by simp; omega), List.nil_append]
  unfold compositorref01_PutUint.l0
  rw [w0, if_pos (by decide), if_pos (by decide), if_pos (by omega), v1, s0]
  unfold compositorref01_PutUint.l0
  rw [w1, if_pos (by decide), if_pos (by decide), if_pos (by simp; omega), v2, s1]
  unfold compositorref01_PutUint.l0
  rw [w2, if_pos (by decide), if_pos (by decide), if_pos (by simp; omega), v3, s2]
  unfold compositorref01_PutUint.l0
  rw [w3, if_pos (by decide), if_pos (by decide), if_pos (by simp; omega), v4, s3]
  unfold compositorref01_PutUint.l0
  rw [if_neg (by decide)]
  simp [quad]
theorem rpad_f (n : Nat) (hn : n ≤ 1000000) : compositorref01_padding.f (n : Int) = some (padN n) := by
  unfold compositorref01_padding.f padN
  have e1 : Int.tmod (n : Int) 4 = (n : Int) % 4 := Int.tmod_eq_emod_of_nonneg (by omega)
  have e2 : wrap64 (4 - (n : Int) % 4) = 4 - (n : Int) % 4 := by unfold wrap64; omega
  rw [e1, e2, Int.tmod_eq_emod_of_nonneg (by omega)]
theorem rPutArr_l (x : List Int) (hx : x.length ≤ 1000000) (d : Nat) : ∀ (i : Nat) (o : List Int), (i : Int) + d = padN x.length → o.length ≤ 10000000 + i → compositorref01_PutArray.l0 (d + 1) x o (i : Int) = some (o ++ List.replicate d 0) := by
  induction d with
  | zero =>
    intro i o hi ho
    unfold compositorref01_PutArray.l0
    rw [rpad_f _ hx, Option.bind_some, if_neg (by omega)]
    simp
  | succ d ih =>
    intro i o hi ho
    unfold compositorref01_PutArray.l0
    have hp : padN x.length ≤ 3 := by unfold padN; omega
    rw [rpad_f _ hx, Option.bind_some, if_pos (by omega), if_pos (by omega)]
    have hw : wrap64 ((i : Int) + 1) = ((i + 1 : Nat) : Int) := by unfold wrap64; omega
    rw [hw, ih (i + 1) (o ++ [0]) (by omega) (by rw [List.length_append, List.length_singleton]; omega), List.replicate_succ]
    simp
theorem le_mono_add {α : Type} {f : Nat → Option α} (hm : ∀ k, LeO (f k) (f (k + 1))) {r : α} (k : Nat) (h : f k = some r) : ∀ d, f (k + d) = some r
  | 0 => h
  | d + 1 => hm (k + d) r (le_mono_add hm k h d)
theorem rPutArr_f (b x : List Int) (hb : b.length ≤ 1000000) (hx : x.length ≤ 1000000) : ∃ k, compositorref01_PutArray.f k b x = some (b ++ quad x.length ++ x ++ padL x.length) := by
  have hp : 0 ≤ padN x.length ∧ padN x.length ≤ 3 := by unfold padN; omega
  refine ⟨(padN x.length).toNat + 1 + 5, ?_⟩
  have e : ((x.length : Int)) % 4294967296 = (x.length : Int) := by omega
  have h1 := le_mono_add (f := fun k => compositorref01_PutUint.f k b (x.length : Int)) (fun k => compositorref01_PutUint.mono b (x.length : Int) k) 5 (rPutUint_f b x.length (by omega) (by omega) hb) ((padN x.length).toNat + 1)
  have h2 := rPutArr_l x hx (padN x.length).toNat 0 (b ++ quad x.length ++ x) (by omega) (by simp [quad]; omega)
  unfold compositorref01_PutArray.f
  have h1 : compositorref01_PutUint.f ((padN x.length).toNat + 1 + 5) b (x.length : Int) = some (b ++ quad x.length) := by rw [Nat.add_comm]; exact h1
  rw [e, h1, Option.bind_some, if_pos (by simp [quad]; omega)]
  have h3 := le_mono_add (f := fun k => compositorref01_PutArray.l0 k x (b ++ quad x.length ++ x) 0) (fun k => compositorref01_PutArray.mono_l k _ _ _) _ h2 5
  exact h3
section
variable {w0 w : World} {L : List Res}
theorem sl_newO {v : Value} {xs : List Int} {w1 : World} {ok : Nat → Prop} (h : SL w0 w L) (hw : Below w.heap.size w w1) (hr : (Kd.int .u8).R 5 w1 w.heap.size ok v xs) : SL w0 w1 (L ++ [rowO v xs]) :=
  sl_new h hw (F := fun k => w.heap.size ≤ k ∧ k < w1.heap.size) (Kd.R_lower (Kd.R_mono (Kd.R_bound hr) (fun k hk => ⟨hk.2.1, hk.2.2.1⟩)) (Nat.zero_le _)) (fun k hk => hk)
theorem rPutUint_c (h : SL w0 w L) (A : Option Addr) (c : Nat) (b : List Int) (n : Int) (hr : Kd.C (Kd.int .u8) w A b.length b) (hc : b.length ≤ c) (h0 : 0 ≤ n) (h1 : n < 4294967296) (hl : b.length ≤ 1000000) :
    Calls Try.prog 39 #[.slice A b.length c, .int .u32 n] w fun e w' => ∃ A' c', e = .returned (.slice A' (b ++ quad n).length c') ∧ SL w0 w' (L ++ [rowO (.slice A' (b ++ quad n).length c') (b ++ quad n)]) := by
  refine (compositorref01_PutUint.calls 5 A c b n _ w hr hc (rPutUint_f b n h0 h1 hl)).mono ?_
  rintro e w' ⟨v, rfl, h2, h3⟩
  obtain ⟨A', c', rfl⟩ := Kd.R_slice h2
  exact ⟨A', c', rfl, sl_newO h h3 h2⟩
theorem rPutInt_c (h : SL w0 w L) (A : Option Addr) (c : Nat) (b : List Int) (m n : Int) (hn : m % 4294967296 = n) (hr : Kd.C (Kd.int .u8) w A b.length b) (hc : b.length ≤ c) (h0 : 0 ≤ n) (h1 : n < 4294967296) (hl : b.length ≤ 1000000) :
    Calls Try.prog 40 #[.slice A b.length c, .int .i32 m] w fun e w' => ∃ A' c', e = .returned (.slice A' (b ++ quad n).length c') ∧ SL w0 w' (L ++ [rowO (.slice A' (b ++ quad n).length c') (b ++ quad n)]) := by
  refine (compositorref01_PutInt.calls 5 A c b m _ w hr hc (by unfold compositorref01_PutInt.f; rw [hn, rPutUint_f b n h0 h1 hl]; rfl)).mono ?_
  rintro e w' ⟨v, rfl, h2, h3⟩
  obtain ⟨A', c', rfl⟩ := Kd.R_slice h2
  exact ⟨A', c', rfl, sl_newO h h3 h2⟩
theorem rPutArr_c (h : SL w0 w L) (A B : Option Addr) (c e m : Nat) (b x : List Int) (hm : x.length = m) (hr : Kd.C (Kd.int .u8) w A b.length b) (hc : b.length ≤ c) (hx : Kd.C (Kd.int .u8) w B x.length x) (he : x.length ≤ e) (hl : b.length ≤ 1000000) (hlx : m ≤ 1000000) :
    Calls Try.prog 42 #[.slice A b.length c, .slice B m e] w fun e w' => ∃ A' c', e = .returned (.slice A' (b ++ quad m ++ x ++ padL m).length c') ∧ SL w0 w' (L ++ [rowO (.slice A' (b ++ quad m ++ x ++ padL m).length c') (b ++ quad m ++ x ++ padL m)]) := by
  subst hm
  obtain ⟨k, hk⟩ := rPutArr_f b x hl hlx
  refine (compositorref01_PutArray.calls k A c b B e x _ w hr hc hx he hk).mono ?_
  rintro e w' ⟨v, rfl, h2, h3⟩
  obtain ⟨A', c', rfl⟩ := Kd.R_slice h2
  exact ⟨A', c', rfl, sl_newO h h3 h2⟩
end
set_option maxHeartbeats 2000000 in
set_option maxRecDepth 100000 in
theorem rPutStr_c {w0 w : World} {L : List Res} (h : SL w0 w L) (A : Option Addr) (c : Nat) (b : List Int) (s : ByteArray) (hr : Kd.C (Kd.int .u8) w A b.length b) (hc : b.length ≤ c) (hl : b.length ≤ 1000000) (hls : s.size ≤ 1000000) :
    Calls Try.prog 41 #[.slice A b.length c, .string s] w fun e w' => ∃ A' c', e = .returned (.slice A' (b ++ quad s.size ++ bytesL s ++ padL s.size).length c') ∧ SL w0 w' (L ++ [rowO (.slice A' (b ++ quad s.size ++ bytesL s ++ padL s.size).length c') (b ++ quad s.size ++ bytesL s ++ padL s.size)]) := by
  have H := Aside0.mk h
  have HR := Aside0.mk hr
  have HC := Aside0.mk hc
  have HL := Aside0.mk (And.intro hl hls)
  have HBl := Aside0.mk (bytesL_len s)
  have hconv := fun (w : World) => run_bytes_of_string (P := Try.prog) w 9 22 5 s Try.underlying9 Try.underlying22 Try.underlying5
  clear h hr hc hl hls
  go_enter Try.func41, Try.ntmps41
  have HS := Aside0.mk (sl_start w)
  go_wp2_with (first | (go_at_call 42; refine (rPutArr_c (by repeat (with_reducible first | exact HS.out | apply sl_drewN | apply sl_drew | apply sl_alloc)) A _ c _ s.size b (bytesL s) HBl.out (Kd.C_below HR.out (by repeat (with_reducible first | exact Below.refl _ _ | apply below_alloc | apply pw_below_drewN | apply below_drew1))) HC.out (by exact str_C w.drew s _ _ HL.out.2) (by rw [HBl.out]; exact grownCap_ge _ _ _ _) HL.out.1 HL.out.2).mono ?_; rintro e w1 ⟨A1, c1, rfl, hs⟩; replace HS := Aside0.mk hs; clear hs))
  go_ret
  exact ⟨A1, c1, by simp only [List.length_append, Nat.add_assoc]; rfl, sl_new2 H.out HS.out⟩
set_option maxHeartbeats 4000000 in
set_option maxRecDepth 100000 in
theorem want_c {w0 w : World} {L : List Res} (h : SL w0 w L) (A B : Option Addr) (c e : Nat) (b bs : List Int) (kind n : Int) (hr : Kd.C (Kd.int .u8) w A b.length b) (hc : b.length ≤ c) (hx : Kd.C (Kd.int .u8) w B bs.length bs) (hxe : bs.length ≤ e) (n0 : 0 ≤ n) (n1 : n < 4294967296) (hb : Byt bs) (hl : b.length ≤ 1000000) (hlx : bs.length ≤ 1000000) :
    Calls Try.prog 14 #[.slice A b.length c, .agg #[.int .i64 kind, .int .u32 n, .slice B bs.length e]] w fun r w' => ∃ A' c', r = .returned (.slice A' (b ++ item kind n bs).length c') ∧ SL w0 w' (L ++ [rowO (.slice A' (b ++ item kind n bs).length c') (b ++ item kind n bs)]) := by
  have HS := Aside0.mk h
  have HR := Aside0.mk hr
  have HC := Aside0.mk hc
  have HX := Aside0.mk hx
  have HXe := Aside0.mk hxe
  have HL := Aside0.mk (And.intro hl hlx)
  have HN := Aside0.mk (And.intro n0 n1)
  clear h hr hc hx hl hlx hxe
  by_cases k0 : kind = 0
  · subst k0
    go_enter Try.func14, Try.ntmps14
    go_wp2_with (first | (go_at_call 39; refine (rPutUint_c (sl_alloc HS.out _) A c b n (Kd.C_alloc HR.out _) HC.out HN.out.1 HN.out.2 HL.out.1).mono ?_; rintro r w1 ⟨A1, c1, rfl, hs⟩; replace HS := Aside0.mk hs; clear hs))
    go_ret
    have e1 : item 0 n bs = quad n := if_pos (.inl rfl)
    rw [e1]
    exact ⟨A1, c1, by simp only [List.length_append, Nat.add_assoc]; rfl, HS.out⟩
  by_cases k1 : kind = 1
  · subst k1
    obtain ⟨⟨m0, m1⟩, m2⟩ := wrap32_mod HN.out.1 HN.out.2
    obtain ⟨m, em⟩ : ∃ m, wrap32 n = m := ⟨_, rfl⟩
    rw [em] at m0 m1 m2
    have HM := Aside0.mk (And.intro (And.intro m0 m1) m2)
    clear m0 m1 m2 k0
    go_enter Try.func14, Try.ntmps14
    go_wp2_with (first | (go_at_call 40; refine (rPutInt_c (sl_alloc HS.out _) A c b m n HM.out.2 (Kd.C_alloc HR.out _) HC.out HN.out.1 HN.out.2 HL.out.1).mono ?_; rintro r w1 ⟨A1, c1, rfl, hs⟩; replace HS := Aside0.mk hs; clear hs))
    go_ret
    have e1 : item 1 n bs = quad n := if_pos (.inr rfl)
    rw [e1]
    exact ⟨A1, c1, by simp only [List.length_append, Nat.add_assoc]; rfl, HS.out⟩
  have e1 : item kind n bs = quad (bs.length : Int) ++ bs ++ padL bs.length := if_neg (by omega)
  have e3 : b ++ (quad (bs.length : Int) ++ bs ++ padL bs.length) = b ++ quad bs.length ++ bs ++ padL bs.length := by simp
  rw [e1, e3]
  clear e1 e3
  have z0 : (kind == 0) = false := beq_eq_false_iff_ne.2 k0
  have z1 : (kind == 1) = false := beq_eq_false_iff_ne.2 k1
  clear k0 k1
  by_cases k2 : kind = 2
  · subst k2
    have hs1 := str_bytes bs hb
    have hs2 := str_size bs
    obtain ⟨st, est⟩ : ∃ st, strOfNums bs = st := ⟨_, rfl⟩
    have hcv := fun (o : Obj) => Kd.C_string (P := Try.prog) (c := e) Try.underlying22 Try.underlying5 Try.underlying9 (Kd.C_alloc HX.out o)
    rw [est] at hcv hs1 hs2
    have HE := Aside0.mk (And.intro hs1 hs2)
    clear hs1 hs2 est z0 z1
    go_enter Try.func14, Try.ntmps14
    go_wp2_with (first | (go_at_call 41; refine (rPutStr_c (sl_alloc HS.out _) A c b st (Kd.C_alloc HR.out _) HC.out HL.out.1 (by rw [HE.out.2]; exact HL.out.2)).mono ?_; rw [HE.out.1, HE.out.2]; rintro r w1 ⟨A1, c1, rfl, hs⟩; replace HS := Aside0.mk hs; clear hs))
    go_ret
    exact ⟨A1, c1, by simp only [List.length_append, Nat.add_assoc]; rfl, HS.out⟩
  · have z2 : (kind == 2) = false := beq_eq_false_iff_ne.2 k2
    clear k2
    go_enter Try.func14, Try.ntmps14
    go_wp2_with (first | (go_at_call 42; refine (rPutArr_c (sl_alloc HS.out _) A B c e _ b bs rfl (Kd.C_alloc HR.out _) HC.out (Kd.C_alloc HX.out _) HXe.out HL.out.1 HL.out.2).mono ?_; rintro r w1 ⟨A1, c1, rfl, hs⟩; replace HS := Aside0.mk hs; clear hs))
    go_ret
    exact ⟨A1, c1, by simp only [List.length_append, Nat.add_assoc]; rfl, HS.out⟩
end Go.Proofs.Ytmihibikhmldgaa.Q
