/-
  Of nothing; the chapter's first example.
-/
import Derived.Test.YtoiakejagmeliaaAggV
import Derived.Test.YtoiakejagmeliaaAggE
set_option linter.unusedSimpArgs false
set_option linter.unusedVariables false
namespace Go.Proofs.Ytoiakejagmeliaa
open Go.RowKit

set_option maxHeartbeats 1000000 in
theorem of_nil (w : World) : Calls Try.prog 19 #[.slice none 0 0] w fun e w' => e = .returned (.agg (of8 []).arr) ∧ Below w.heap.size w w' := by
  go_enter Try.func19, Try.ntmps19
  go_wp2
  go_rounds 1
  exact bodyPost_ret (v := .agg #[.int .i64 0, .int .i64 0, .int .i64 0, .int .i64 0, .int .i64 0, .int .i64 0, .int .i64 0, .int .i64 0]) (by simp [results, Try.results19, go_sem]) rfl ⟨rfl, ((Below.refl _ _).alloc (Nat.le_refl _) _).alloc (by simp) _⟩
theorem of8_wakes : of8 (([5, -3, 100] : List Int).take 3) = ⟨3, 102, -3, 100, 1, 1, 0, 1⟩ := by kernel_rfl
theorem plus_wakes : plusW 9223372036854775807 1 = 9223372036854775807 := by kernel_rfl
attribute [local go_sem ↓] run_eq_agg
set_option maxHeartbeats 1000000 in
theorem wakes_any (w : World) : Calls Try.prog 18 #[] w fun e w' => e = .returned (.bool true) ∧ Below w.heap.size w w' := by
  go_enter Try.func18, Try.ntmps18
  go_wp2_with fail
  refine (of_any w.heap.size 0 3 3 [5, -3, 100] _ (by decide) (by decide) (by simp) ?_).mono ?_
  · intro j hj
    rcases (by omega : j = 0 ∨ j = 1 ∨ j = 2) with rfl | rfl | rfl <;> go_simp
  rintro e w' ⟨rfl, hb⟩
  rw [of8_wakes]
  unfold A8.arr
  dsimp only
  have HB : Hid (Below w.heap.size w w') := ((Below.refl _ _).alloc (Nat.le_refl _) _).trans (hb.mono (by simp))
  clear hb
  go_wp2_with fail
  refine (plus_any _ _ _).mono ?_
  rintro e w1 ⟨rfl, rfl⟩
  rw [plus_wakes]
  go_wp2
  go_ret
  exact ⟨rfl, HB.out⟩
end Go.Proofs.Ytoiakejagmeliaa
