/-
  The walks of agg.Plus and agg.Bucket: what they compute.
-/
import Derived.Test.YtnjfjdfjheiocaaGreatMsgQa
import Derived.WalkKit
import Derived.WalkSpells
import Derived.WalkLawsBesides
import Derived.Lib.Hide
import Derived.Handy
set_option linter.unusedSimpArgs false
set_option linter.unusedVariables false
namespace Go.Proofs.YtnjfjdfjheiocaaGreat
open Go.RowKit

def plusW (a b : Int) : Int :=
  if 0 < a ∧ 0 < b ∧ wrap64 (a + b) < 0 then 9223372036854775807
  else if a < 0 ∧ b < 0 ∧ 0 ≤ wrap64 (a + b) then -9223372036854775808
  else wrap64 (a + b)
theorem plusW1 {a b : Int} (h1 : 0 < a) (h2 : 0 < b) (h3 : wrap64 (a + b) < 0) : 9223372036854775807 = plusW a b := by
  unfold plusW; rw [if_pos ⟨h1, h2, h3⟩]
theorem plusW2 {a b : Int} (h1 : a < 0) (h2 : b < 0) (h3 : 0 ≤ wrap64 (a + b)) : -9223372036854775808 = plusW a b := by
  unfold plusW; rw [if_neg (by omega), if_pos ⟨h1, h2, h3⟩]
theorem plusW3 {a b : Int} (h1 : ¬ (0 < a ∧ 0 < b ∧ wrap64 (a + b) < 0)) (h2 : ¬ (a < 0 ∧ b < 0 ∧ 0 ≤ wrap64 (a + b))) : wrap64 (a + b) = plusW a b := by
  unfold plusW; rw [if_neg h1, if_neg h2]

set_option maxHeartbeats 400000 in
theorem plus_any (a b : Int) (w : World) :
    Calls Tryz.prog 121 #[.int .i64 a, .int .i64 b] w fun e w' => e = .returned (.int .i64 (plusW a b)) ∧ w = w' := by
  go_enter Tryz.func121, Tryz.ntmps121
  go_wp2
  all_goals go_ret
  all_goals refine ⟨ret_int ?_, rfl⟩
  · exact plusW1 ‹_› ‹_› ‹_›
  · exact plusW3 (by omega) (by omega)
  · exact plusW3 (by omega) (by omega)
  · exact plusW2 ‹_› ‹_› ‹_›
  · exact plusW3 (by omega) (by omega)
  · exact plusW3 (by omega) (by omega)
  · exact plusW3 (by omega) (by omega)

def bucketW (v : Int) : Int := if v < 0 then 0 else if v < 10 then 1 else if v < 100 then 2 else 3

set_option maxHeartbeats 400000 in
theorem bucket_any (a : Int) (w : World) :
    Calls Tryz.prog 122 #[.int .i64 a] w fun e w' => e = .returned (.int .i64 (bucketW a)) ∧ w = w' := by
  have i0 : ∀ w, (Instr.index 138 (.agg #[.int .i64 0, .int .i64 10, .int .i64 100]) (.int .i64 0)).run Tryz.prog w = .ok (.int .i64 0) w := fun _ => by kernel_rfl
  have i1 : ∀ w, (Instr.index 138 (.agg #[.int .i64 0, .int .i64 10, .int .i64 100]) (.int .i64 1)).run Tryz.prog w = .ok (.int .i64 10) w := fun _ => by kernel_rfl
  have i2 : ∀ w, (Instr.index 138 (.agg #[.int .i64 0, .int .i64 10, .int .i64 100]) (.int .i64 2)).run Tryz.prog w = .ok (.int .i64 100) w := fun _ => by kernel_rfl
  go_enter Tryz.func122, Tryz.ntmps122
  go_wp2
  go_rounds 4
  all_goals go_ret
  all_goals (refine ⟨ret_int ?_, rfl⟩; unfold bucketW)
  · rw [if_pos (by assumption)]
  · rw [if_neg (by omega), if_pos (by assumption)]
  · rw [if_neg (by omega), if_neg (by omega), if_pos (by assumption)]
  · rw [if_neg (by omega), if_neg (by omega), if_neg (by omega)]
end Go.Proofs.YtnjfjdfjheiocaaGreat
