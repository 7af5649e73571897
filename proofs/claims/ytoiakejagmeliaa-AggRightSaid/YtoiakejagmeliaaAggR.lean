/-
  The walks of the reference's Plus and Bucket.
-/
import Derived.Test.YtoiakejagmeliaaAggA
set_option linter.unusedSimpArgs false
set_option linter.unusedVariables false
namespace Go.Proofs.Ytoiakejagmeliaa
open Go.RowKit

def R64 (x : Int) : Prop := -9223372036854775808 ≤ x ∧ x ≤ 9223372036854775807
theorem plusW_in (a b : Int) : R64 (plusW a b) := by
  unfold plusW R64 wrap64
  split
  · omega
  · split <;> omega
theorem rp1 {a b : Int} (ha : R64 a) (hb : R64 b) (h1 : 0 < b) (h2 : wrap64 (9223372036854775807 - b) < a) : 9223372036854775807 = plusW a b := by
  unfold R64 at ha hb; unfold plusW wrap64 at *; rw [if_pos]; omega
theorem rp2 {a b : Int} (ha : R64 a) (hb : R64 b) (h1 : b < 0) (h2 : a < wrap64 (-9223372036854775808 - b)) : -9223372036854775808 = plusW a b := by
  unfold R64 at ha hb; unfold plusW wrap64 at *; rw [if_neg, if_pos] <;> omega
theorem rp3 {a b : Int} (ha : R64 a) (hb : R64 b) (h1 : ¬ (0 < b ∧ wrap64 (9223372036854775807 - b) < a)) (h2 : ¬ (b < 0 ∧ a < wrap64 (-9223372036854775808 - b))) : wrap64 (a + b) = plusW a b := by
  unfold R64 at ha hb; unfold plusW wrap64 at *; rw [if_neg, if_neg] <;> omega

set_option maxHeartbeats 400000 in
theorem rplus_any (a b : Int) (w : World) (ha : R64 a) (hb : R64 b) :
    Calls Try.prog 11 #[.int .i64 a, .int .i64 b] w fun e w' => e = .returned (.int .i64 (plusW a b)) ∧ w = w' := by
  have Ha := Lib.hid ha
  have Hb := Lib.hid hb
  clear ha hb
  go_enter Try.func11, Try.ntmps11
  go_wp2
  all_goals go_ret
  all_goals refine ⟨ret_int ?_, rfl⟩
  all_goals first
    | exact rp1 Ha.out Hb.out ‹_› ‹_›
    | exact rp2 Ha.out Hb.out ‹_› ‹_›
    | exact rp3 Ha.out Hb.out (by omega) (by omega)

set_option maxHeartbeats 400000 in
theorem rbucket_any (a : Int) (w : World) :
    Calls Try.prog 13 #[.int .i64 a] w fun e w' => e = .returned (.int .i64 (bucketW a)) ∧ w = w' := by
  go_enter Try.func13, Try.ntmps13
  go_wp2
  all_goals go_ret
  all_goals (refine ⟨ret_int ?_, rfl⟩; unfold bucketW)
  · rw [if_pos (by assumption)]
  · rw [if_neg (by omega), if_pos (by assumption)]
  · rw [if_neg (by omega), if_neg (by omega), if_pos (by assumption)]
  · rw [if_neg (by omega), if_neg (by omega), if_neg (by omega)]

theorem r1 : R64 1 := by unfold R64; omega
theorem plusW0 {a : Int} (h : R64 a) : plusW a 0 = a := by
  unfold R64 at h; unfold plusW wrap64; rw [if_neg (by omega), if_neg (by omega)]; omega
end Go.Proofs.Ytoiakejagmeliaa
