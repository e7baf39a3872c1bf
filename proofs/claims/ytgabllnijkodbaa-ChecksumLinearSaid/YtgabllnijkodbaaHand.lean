import Derived.Test.YtgabllnijkodbaaProg
import Derived.Below
import Derived.Deep.Draws
import Derived.Deep.AppendLies
import Derived.Maps.AppendAt
import Derived.OwnWalk
import Derived.Laws.BytesArg
import Derived.Laws.MakeOwn
import Derived.Laws.OwnMore
import Derived.Deep.OwnRows
import Derived.Tactics
import Derived.Lib.ConvBytes
import Derived.Laws.Slices
import Derived.WalkKit
import Derived.KernelRfl
import Derived.RowKit3
import Derived.Deep.LoopGhost
import Derived.Deep.QuietTactic
import Derived.BigQuiet
import Derived.WideLaws
import Derived.Deep.DeepCutAuto
import Derived.Deep.CutBlock
import Derived.Deep.RegionHeld3
import Derived.Laws.Rows
import Derived.Lib.AppendStr
import Derived.ArgAppend
import Derived.Laws.IdiomCopy
import Derived.OrdersHeld
import Derived.Laws.BitsLemmas
import Derived.RowKit
import Derived.Test.YtgabllnijkodbaaWWords
import Derived.Test.YtgabllnijkodbaaWLast
import Derived.Test.YtgabllnijkodbaaWTab
import Derived.Test.YtgabllnijkodbaaWFour
import Derived.Test.YtgabllnijkodbaaWQPut
import Derived.Test.YtgabllnijkodbaaWApart
import Derived.Test.YtgabllnijkodbaaWArr
import Derived.Test.YtgabllnijkodbaaWZeros
import Derived.Test.YtgabllnijkodbaaWFoot
import Derived.Test.YtgabllnijkodbaaWKept
import Derived.Test.YtgabllnijkodbaaWShare
import Derived.Test.YtgabllnijkodbaaWN
import Derived.Test.YtgabllnijkodbaaWFootNe
import Derived.Test.YtgabllnijkodbaaWAt
import Derived.Test.YtgabllnijkodbaaWEqStruct
import Derived.Test.YtgabllnijkodbaaWRepsOne
import Derived.Test.YtgabllnijkodbaaWInv
import Derived.Test.YtgabllnijkodbaaWInvWords
import Derived.Test.YtgabllnijkodbaaWGuard
import Derived.Test.YtgabllnijkodbaaWNEv
import Derived.Test.YtgabllnijkodbaaWMore
namespace Go.Proofs.Ytgabllnijkodbaa.Hand
open Go.RowKit Go.Proofs.YtgabllnijkodbaaW.PrintWords Go.Proofs.YtgabllnijkodbaaW.PrintLast Go.Proofs.YtgabllnijkodbaaW.PrintMore
attribute [local go_sem] max2_int min2_int max_two min_two max_three min_three max_four min_four
set_option linter.unusedVariables false
set_option linter.unusedSimpArgs false

theorem C_cast {α : Type} {R : α → List Value → Prop} {size : Nat} {w : World} {A : Option Addr} {n m : Nat} {ps : List α} (e : n = m) (h : ReadsRow R size w A n ps) : ReadsRow R size w A m ps := e ▸ h
theorem comb28 (A B : Int) (hA : 0 ≤ A) (hB : 0 ≤ B) : IntKind.u64.wrap ((IntKind.u64.wrap (A % 65521 + B % 65521 + IntKind.u64.wrap 0)).tmod 65521 * 65536) = (A + B) % 65521 * 65536 := by
  simp only [IntKind.wrap_u64]
  rw [Int.tmod_eq_emod_of_nonneg (by omega)]
  omega
theorem ret_i {k : IntKind} {a b : Int} (h : a = b) : Ending.returned (.int k a) = .returned (.int k b) := by rw [h]
theorem sg_u32 : IntKind.u32.signed = false := rfl
theorem sg_u8 : IntKind.u8.signed = false := rfl
theorem sg_u16 : IntKind.u16.signed = false := rfl
theorem sg_u64 : IntKind.u64.signed = false := rfl
def Z256 : Array Value := Array.replicate 256 (.int .u32 0)
theorem zero43 (W : World) : (zeroValue 43).run Try.prog W = .ok (.agg Z256) W := by kernel_rfl
theorem Z256_size : Z256.size = 256 := by simp [Z256]

def sh1 (n : Int) : Int := Go.bits .xor .u32 (n / 2) ((3988292384 * Go.bits .and .u32 n 1) % 4294967296)
def itr : Nat → Int → Int
  | 0, n => n
  | k + 1, n => sh1 (itr k n)
def tabArr : Nat → Array Value
  | 0 => Z256
  | i + 1 => (tabArr i).setIfInBounds i (.int .u32 (itr 8 (i : Int)))
theorem tabArr_size : ∀ i, (tabArr i).size = 256
  | 0 => Z256_size
  | i + 1 => by simp [tabArr, tabArr_size i]
theorem size43 : (Try.prog.info? 43).map (·.size) = some 256 := by kernel_rfl
theorem und43 : Try.prog.underlying 43 = some (.array 256 22) := by kernel_rfl

theorem below_setRow {B : Nat} {a w : World} (h : Below B a w) {g : Nat} (hp : B ≤ g) (cs : Array Value) : Below B a (w.setRow g cs) :=
  h.trans ⟨rfl, rfl, rfl, by simp, fun k hk => setRow_other w g k cs (by omega)⟩
theorem Z256_one : ∀ v ∈ Z256, v.oneCell' = true := by
  intro v hv
  simp only [Z256, Array.mem_replicate] at hv
  rw [hv.2]; rfl
theorem tabArr_one : ∀ i, ∀ v ∈ tabArr i, v.oneCell' = true
  | 0 => Z256_one
  | i + 1 => by
    intro v hv
    simp only [tabArr] at hv
    rcases Array.mem_or_eq_of_mem_setIfInBounds hv with h | h
    · exact tabArr_one i v h
    · rw [h]; rfl
theorem tabArr_all (i : Nat) : (tabArr i).all (·.oneCell') = true := Array.all_eq_true_iff_forall_mem.2 (tabArr_one i)

set_option maxHeartbeats 1000000 in
set_option maxRecDepth 100000 in
theorem rem_calls (w : World) :
    Calls Try.prog 29 #[] w fun e w' => e = .returned (.agg (tabArr 256)) ∧ Below w.heap.size w w' := by
  have hz := zero43
  go_enter Try.func29, Try.ntmps29
  go_wp2
  go_loopg [4] 256 (fun n v4 wr => ∃ i : Nat, Aside0 (i + n = 256) ∧ v4 = .int .i64 i ∧ Aside0 (wr.heap[w.heap.size + 1]? = some (.cells (tabArr i) 43 (0, 0)) ∧ wr.heap[w.heap.size]? = some (.cells Z256 43 (0, 0)) ∧ Below w.heap.size w wr))
  case atStart => exact ⟨0, ⟨by omega⟩, rfl, ⟨heap_alloc2_new _ _ _, heap_alloc2_old _ _ _, ((Below.refl _ _).alloc (Nat.le_refl _) _).alloc (by simp) _⟩⟩
  case round =>
    obtain ⟨i, HN, rfl, HW⟩ := hrel
    by_cases hlt : i < 256
    · obtain ⟨gi, rfl⟩ : ∃ x : Nat, x = gk := ⟨_, rfl⟩
      go_wp2
      go_loopg [3, 9] 8 (fun n v3 v9 wq => ∃ j : Nat, Aside0 (j + n = 8) ∧ v9 = .int .i64 j ∧ v3 = .int .u32 (itr j (i : Int)) ∧ wq = wr)
      case atStart => exact ⟨0, ⟨by omega⟩, rfl, rfl, rfl⟩
      case round =>
        obtain ⟨j, HJ, rfl, rfl, rfl⟩ := hrel
        by_cases hj : j < 8
        · go_wp2
          go_roundg (gk - 1)
          case measure => have := HJ.out; omega
          case rel => exact ⟨j + 1, ⟨by have := HJ.out; omega⟩, by go_num, rfl, rfl⟩
        · have h8 : j = 8 := by have := HJ.out; omega
          subst h8
          have hc : wr.cell? ⟨w.heap.size + 1, i, none⟩ = some ((tabArr i)[i]'(by rw [tabArr_size]; exact hlt)) := by
            rw [blk_cell HW.out.1]; exact Array.getElem?_eq_getElem _
          have hf : wr.frozen? ⟨w.heap.size + 1, i, none⟩ = false := blk_frozen HW.out.1 i
          go_wp2
          go_roundg (gi - 1)
          case measure => have := HN.out; omega
          case rel => exact ⟨i + 1, ⟨by have := HN.out; omega⟩, by go_num, ⟨blk_set HW.out.1 i _, blk_far HW.out.2.1 (by simp) _, HW.out.2.2.setCell (by simp) _⟩⟩
    · have h8 : i = 256 := by have := HN.out; omega
      subst h8
      go_wp2_with (first | (refine wpList_load_row rfl 43 _ rfl (w.heap.size + 1) rfl 43 _ (0, 0) _ HW.out.1 und43 rfl (by rw [tabArr_size]; exact size43) ?_) | (refine wpList_store_row rfl 43 _ _ rfl w.heap.size (tabArr 256) rfl rfl 43 Z256 HW.out.2.1 (by rw [tabArr_size]; exact size43) (by rw [tabArr_size]; exact Z256_size) (tabArr_all 256) ?_))
      refine bodyPost_ret (v := .agg (tabArr 256)) (results_cell_row (P := Try.prog) Try.results29 _ _ w.heap.size 43 (tabArr 256) (0, 0) _ rfl (setRow_heap _ _ _ _ _ _ HW.out.2.1) und43 rfl (by rw [tabArr_size]; exact size43)) rfl ⟨rfl, below_setRow HW.out.2.2 (Nat.le_refl _) _⟩
theorem bits_u8_range (op : BinOp) (x y : Int) : 0 ≤ Go.bits op .u8 x y ∧ Go.bits op .u8 x y < 256 := by
  unfold Go.bits
  rw [IntKind.wrap_u8]
  omega
def cidx (s c : Int) : Int := Go.bits .xor .u8 (s % 256) c
def cstep (s c : Int) : Int := Go.bits .xor .u32 (s / 256) (itr 8 (cidx s c))
def crcL (s : Int) (l : List Int) : Int := l.foldl cstep s
def inv32 (x : Int) : Int := Go.bits .xor .u32 IntKind.u32.max x
theorem crcL_snoc (s : Int) (l : List Int) (i : Nat) (h : i < l.length) : crcL s (l.take (i + 1)) = cstep (crcL s (l.take i)) (rd l (i : Int)) := by
  unfold crcL
  rw [List.take_succ_eq_append_getElem h, List.foldl_append]
  simp [rd, List.getD_eq_getElem?_getD, List.getElem?_eq_getElem h]
theorem tabArr_get : ∀ (i j : Nat), j < i → i ≤ 256 → (tabArr i)[j]? = some (.int .u32 (itr 8 (j : Int)))
  | 0, j, h, _ => by omega
  | i + 1, j, h, h2 => by
    simp only [tabArr]
    rw [Array.getElem?_setIfInBounds]
    by_cases e : i = j
    · subst e; rw [if_pos rfl, if_pos (by rw [tabArr_size]; omega)]
    · rw [if_neg e]; exact tabArr_get i j (by omega) (by omega)

set_option maxHeartbeats 1000000 in
set_option maxRecDepth 100000 in
theorem upd_calls (a0 : Int) (A1 : Option Addr) (c1 : Nat) (l1 : List Int) (w : World) (hr1 : Kd.C (Kd.int .u8) w A1 l1.length l1) (hc1 : l1.length ≤ c1) (hl : l1.length ≤ 9223372036854775807) :
    Calls Try.prog 13 #[.int .u32 a0, .slice A1 l1.length c1] w fun e w' => e = .returned (.int .u32 (inv32 (crcL (inv32 a0) l1))) ∧ Below w.heap.size w w' := by
  have hz := zero43
  have hsg : IntKind.u32.signed = false := rfl
  have HR1 := Aside0.mk hr1
  clear hr1
  go_enter Try.func13, Try.ntmps13
  go_wp2_with (first | (go_at_call 29; refine (rem_calls _).mono ?_; rintro e w1 ⟨rfl, hb⟩; have HB := Aside0.mk hb; clear hb) | (refine wpList_store_row rfl 43 _ _ rfl w1.heap.size (tabArr 256) rfl rfl 43 Z256 (heap_alloc_new _ _) (by rw [tabArr_size]; exact size43) (by rw [tabArr_size]; exact Z256_size) (tabArr_all 256) ?_))
  have HBW : Aside0 (Below w.heap.size w ((w1.alloc (.cells Z256 43)).setRow w1.heap.size (tabArr 256))) := ⟨below_setRow (HB.out.alloc HB.out.size _) HB.out.size _⟩
  have HTW : Aside0 (((w1.alloc (.cells Z256 43)).setRow w1.heap.size (tabArr 256)).heap[w1.heap.size]? = some (.cells (tabArr 256) 43 (0, 0))) := ⟨setRow_heap _ _ _ _ _ _ (heap_alloc_new _ _)⟩
  generalize ((w1.alloc (.cells Z256 43)).setRow w1.heap.size (tabArr 256)) = W at HBW HTW ⊢
  generalize w1.heap.size = g at HTW ⊢
  have HRW : Aside0 (Kd.C (Kd.int .u8) W A1 l1.length l1) := ⟨Kd.C_below HR1.out HBW.out⟩
  clear HR1 HB
  go_loopg [0, 13] l1.length (fun n v0 v13 wr => ∃ i : Nat, Aside0 (i + n = l1.length) ∧ v13 = .int .i64 i ∧ v0 = .int .u32 (crcL (inv32 a0) (l1.take i)) ∧ wr = W)
  case atStart => exact ⟨0, ⟨by omega⟩, rfl, rfl, rfl⟩
  case round =>
    obtain ⟨i, HN, rfl, rfl, rfl⟩ := hrel
    by_cases hlt : i < l1.length
    · have HS := Aside0.mk (crcL_snoc (inv32 a0) l1 i hlt)
      generalize hs : crcL (inv32 a0) (l1.take i) = s at HS ⊢
      clear hs
      obtain ⟨ad, e1, hx⟩ := Kd.at_int HRW.out (i : Int) (by omega) (by omega)
      cases e1
      simp only [Int.toNat_natCast] at hx
      have hi0 := (bits_u8_range .xor (s % 256) (rd l1 (i : Int))).1
      have hi1 := (bits_u8_range .xor (s % 256) (rd l1 (i : Int))).2
      have hc : wr.cell? ⟨g, (Go.bits .xor .u8 (s % 256) (rd l1 (i : Int))).toNat, none⟩ = some (.int .u32 (itr 8 (cidx s (rd l1 (i : Int))))) := by
        rw [blk_cell HTW.out, tabArr_get 256 _ (by omega) (Nat.le_refl _)]
        unfold cidx
        rw [Int.toNat_of_nonneg hi0]
      go_wp2
      go_roundg (gk - 1)
      case measure => have := HN.out; omega
      case rel => exact ⟨i + 1, ⟨by have := HN.out; omega⟩, by go_num, by rw [HS.out]; rfl, rfl⟩
    · have h8 : i = l1.length := by have := HN.out; omega
      subst h8
      go_wp2
      go_ret
      exact ⟨by rw [List.take_length]; rfl, HBW.out⟩

def checksum_UpdateCRC32.f (a0 : Int) (l1 : List Int) : Option Int := some (inv32 (crcL (inv32 a0) l1))
theorem checksum_UpdateCRC32.calls (a0 : Int) (A1 : Option Addr) (c1 : Nat) (l1 : List Int) (r : Int) (w : World) (hr1 : Kd.C (Kd.int .u8) w A1 l1.length l1) (hc1 : l1.length ≤ c1) (h : checksum_UpdateCRC32.f a0 l1 = some r) :
    Calls Try.prog 13 #[.int .u32 a0, .slice A1 l1.length c1] w fun e w' => e = .returned (.int .u32 r) ∧ Below w.heap.size w w' := by
  obtain rfl := Option.some.inj h
  exact upd_calls a0 A1 c1 l1 w hr1 hc1 hr1.2.1
end Go.Proofs.Ytgabllnijkodbaa.Hand
