import Derived.Test.YtlfediaeaaodpaaQx5
import Derived.Test.YtlfediaeaaodpaaSlr
import Derived.Test.YtlfediaeaaodpaaFr
namespace Go.Proofs.Ytlfediaeaaodpaa.Q
open Go.RowKit Go.Proofs.YtlfediaeaaodpaaW.PrintWords Go.Proofs.YtlfediaeaaodpaaW.PrintLast Go.Proofs.YtlfediaeaaodpaaW.PrintMore Go.Proofs.Ytlfediaeaaodpaa.Sl Go.Proofs.Ytlfediaeaaodpaa.Hand 
attribute [local go_sem] max2_int min2_int max_two min_two max_three min_three max_four min_four 
set_option linter.unusedVariables false
set_option linter.unusedSimpArgs false

/-- What a bucket holds. -/
structure BSt where
  rate : Int
  burst : Int
  level : Int
  started : Bool
  now : Int
def bcells (b : BSt) : Array Value := #[.int .i64 b.rate, .int .i64 b.burst, .int .i64 b.level, .bool b.started, .int .i64 b.now]
/-- A bucket that lies at block g. -/
def bucketR (g : Nat) (b : BSt) : Res := cellsR g 61 (bcells b)
structure Bok (b : BSt) : Prop where
  r0 : 0 ≤ b.rate
  r1 : b.rate ≤ 1048576
  b0 : 1 ≤ b.burst
  b1 : b.burst ≤ 1048576
  l0 : 0 ≤ b.level
  l1 : b.level ≤ b.burst * 1000
  n0 : -9223372036854775808 ≤ b.now
  n1 : b.now < 9223372036854775808
def lvl (b : BSt) (t : Int) : Int := if b.burst * 1000 ≤ b.level + (t - b.now) * b.rate then b.burst * 1000 else b.level + (t - b.now) * b.rate
def advB (b : BSt) (t : Int) : BSt := if b.started = false then { b with started := true, now := t } else if t ≤ b.now then b else { b with level := lvl b t, now := t }
theorem advB_ok {b : BSt} (h : Bok b) {t : Int} (h0 : -9223372036854775808 ≤ t) (h1 : t < 9223372036854775808) : Bok (advB b t) := by
  obtain ⟨a1, a2, a3, a4, a5, a6, a7, a8⟩ := h
  unfold advB
  split
  · exact ⟨a1, a2, a3, a4, a5, a6, h0, h1⟩
  · split
    · exact ⟨a1, a2, a3, a4, a5, a6, a7, a8⟩
    · rename_i h2 h3
      have h4 : 0 ≤ (t - b.now) * b.rate := Int.mul_nonneg (by omega) a1
      refine ⟨a1, a2, a3, a4, ?_, ?_, h0, h1⟩
      · show 0 ≤ lvl b t
        unfold lvl
        split <;> omega
      · show lvl b t ≤ b.burst * 1000
        unfold lvl
        split <;> omega
theorem u64_sub {a b : Int} (h0 : b < a) (h1 : -9223372036854775808 ≤ b) (h2 : a < 9223372036854775808) : IntKind.u64.wrap (IntKind.u64.wrap a - IntKind.u64.wrap b) = a - b := by
  rw [IntKind.wrap_u64, IntKind.wrap_u64, IntKind.wrap_u64]
  omega
/-- What fills the bucket. -/
theorem need_le {l f r e : Int} (hr : 0 < r) (h : (f - l + r - 1) / r ≤ e) : f ≤ l + e * r := by
  have h1 : f - l + r - 1 < ((f - l + r - 1) / r + 1) * r := Int.lt_ediv_add_one_mul_self _ hr
  have h2 : ((f - l + r - 1) / r + 1) * r ≤ (e + 1) * r := Int.mul_le_mul_of_nonneg_right (by omega) (by omega)
  rw [Int.add_mul e 1 r, Int.one_mul] at h2
  omega
theorem need_gt {l f r e : Int} (hr : 0 < r) (h : e < (f - l + r - 1) / r) : l + e * r < f := by
  have h1 : ((f - l + r - 1) / r) * r ≤ f - l + r - 1 := Int.ediv_mul_le _ (by omega)
  have h2 : (e + 1) * r ≤ ((f - l + r - 1) / r) * r := Int.mul_le_mul_of_nonneg_right (by omega) (by omega)
  rw [Int.add_mul, Int.one_mul] at h2
  omega
theorem w64 (n : Int) (h : -9223372036854775808 ≤ n ∧ n ≤ 9223372036854775807) : Go.RowKit.wrap64 n = n := by unfold Go.RowKit.wrap64; omega
end Go.Proofs.Ytlfediaeaaodpaa.Q
