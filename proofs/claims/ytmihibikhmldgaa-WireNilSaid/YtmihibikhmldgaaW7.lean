import Derived.Laws.IdiomStrings
import Derived.Test.YtmihibikhmldgaaW6
namespace Go.Proofs.Ytmihibikhmldgaa.Q
open Go.RowKit Go.Proofs.YtmihibikhmldgaaW.PrintWords Go.Proofs.YtmihibikhmldgaaW.PrintLast Go.Proofs.YtmihibikhmldgaaW.PrintMore Go.Proofs.Ytmihibikhmldgaa.Sl Go.Proofs.Ytmihibikhmldgaa.Hand 
attribute [local go_sem] max2_int min2_int max_two min_two max_three min_three max_four min_four 
set_option linter.unusedVariables false
set_option linter.unusedSimpArgs false

/-- A string's bytes. -/
def bytesL (s : ByteArray) : List Int := s.data.toList.map (fun b => (b.toNat : Int))
theorem bytesL_len (s : ByteArray) : (bytesL s).length = s.size := by unfold bytesL; rw [List.length_map, Array.length_toList]; rfl
theorem str_C (w : World) (s : ByteArray) (cap : Nat) (fr : Nat × Nat) (hs : s.size ≤ 1000000) : Kd.C (Kd.int .u8) (w.alloc (.cells (bytesRow s cap) 5 fr)) (some ⟨w.heap.size, 0, none⟩) (bytesL s).length (bytesL s) := by
  refine ⟨rfl, by rw [bytesL_len]; omega, fun _ => ⟨_, rfl, fun j p hj => ⟨[.int .u8 p], rfl, rfl, fun i u hu => ?_⟩⟩⟩
  have hi : i = 0 := by
    have h_ := (List.getElem?_eq_some_iff.1 hu).1
    exact Nat.lt_one_iff.1 h_
  subst hi
  have hu : Value.int .u8 p = u := Option.some.inj hu
  subst hu
  refine World.news_of_block (cs := bytesRow s cap) (t := 5) (fr := fr) (heap_alloc_new _ _) (j * (Kd.int .u8).sz + 0) _ ?_
  have e : j * (Kd.int .u8).sz + 0 = j := Nat.mul_one j
  rw [e]
  have hl := (List.getElem?_eq_some_iff.1 hj).1
  rw [bytesL_len] at hl
  unfold bytesRow
  rw [Array.toList_append, List.getElem?_append_left (by rw [Array.length_toList, Array.size_map]; exact hl), Array.toList_map]
  unfold bytesL at hj
  rw [List.getElem?_map] at hj ⊢
  obtain ⟨q, hq, rfl⟩ := Option.map_eq_some_iff.1 hj
  rw [hq]
  rfl
theorem PutArray_len {w0 w : World} {L : List Res} (h : SL w0 w L) (A B : Option Addr) (c e m : Nat) (b x : List Int) (hm : x.length = m) (hr : Kd.C (Kd.int .u8) w A b.length b) (hc : b.length ≤ c) (hx : Kd.C (Kd.int .u8) w B x.length x) (hl : b.length ≤ 1000000) (hlx : m ≤ 1000000) :
    Calls Try.prog 38 #[.slice A b.length c, .slice B m e] w fun e w' => ∃ A' c', e = .returned (.slice A' (b.length + 4 + m + (padN m).toNat) c') ∧ SL w0 w' (L ++ [rowO (.slice A' (b.length + 4 + m + (padN m).toNat) c') (b ++ quad m ++ x ++ padL m)]) := by
  subst hm
  exact PutArray_sl h A B c e b x hr hc hx hl hlx
set_option maxHeartbeats 2000000 in
set_option maxRecDepth 100000 in
theorem PutString_sl {w0 w : World} {L : List Res} (h : SL w0 w L) (A : Option Addr) (c : Nat) (b : List Int) (s : ByteArray) (hr : Kd.C (Kd.int .u8) w A b.length b) (hc : b.length ≤ c) (hl : b.length ≤ 1000000) (hls : s.size ≤ 1000000) :
    Calls Try.prog 35 #[.slice A b.length c, .string s] w fun e w' => ∃ A' c', e = .returned (.slice A' (b.length + 4 + s.size + (padN s.size).toNat) c') ∧ SL w0 w' (L ++ [rowO (.slice A' (b.length + 4 + s.size + (padN s.size).toNat) c') (b ++ quad s.size ++ bytesL s ++ padL s.size)]) := by
  have H := Aside0.mk h
  have HR := Aside0.mk hr
  have HC := Aside0.mk hc
  have HL := Aside0.mk (And.intro hl hls)
  have HBl := Aside0.mk (bytesL_len s)
  have hconv := fun (w : World) => run_bytes_of_string (P := Try.prog) w 9 22 5 s Try.underlying9 Try.underlying22 Try.underlying5
  clear h hr hc hl hls
  go_enter Try.func35, Try.ntmps35
  have HS := Aside0.mk (sl_start w)
  go_wp2_with (first | (go_at_call 38; refine (PutArray_len (by repeat (with_reducible first | exact HS.out | apply sl_drewN | apply sl_drew | apply sl_alloc)) A _ c _ s.size b (bytesL s) HBl.out (Kd.C_below HR.out (by repeat (with_reducible first | exact Below.refl _ _ | apply below_alloc | apply pw_below_drewN | apply below_drew1))) HC.out (by exact str_C w.drew s _ _ HL.out.2) HL.out.1 HL.out.2).mono ?_; rintro e w1 ⟨A1, c1, rfl, hs⟩; replace HS := Aside0.mk hs; clear hs))
  go_ret
  exact ⟨A1, c1, rfl, sl_new2 H.out HS.out⟩
end Go.Proofs.Ytmihibikhmldgaa.Q
