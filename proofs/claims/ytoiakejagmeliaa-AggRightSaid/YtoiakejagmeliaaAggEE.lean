/-
  The law AggKnown: the walk.
-/
import Derived.Test.YtoiakejagmeliaaAggSt
set_option linter.unusedSimpArgs false
set_option linter.unusedVariables false
namespace Go.Proofs.Ytoiakejagmeliaa
open Go.RowKit
attribute [local go_sem ↓] run_eq_agg

theorem k_of1 : of8 (([9223372036854775807, 1, -1] : List Int).take 3) = ⟨3, 9223372036854775806, -1, 9223372036854775807, 1, 1, 0, 1⟩ := by kernel_rfl
theorem k_of2 : of8 [] = ⟨0, 0, 0, 0, 0, 0, 0, 0⟩ := by kernel_rfl
theorem k_of3 : of8 (([7] : List Int).take 1) = ⟨1, 7, 7, 7, 0, 1, 0, 0⟩ := by kernel_rfl
theorem k_join : join8 ⟨0, 0, 0, 0, 0, 0, 0, 0⟩ ⟨1, 7, 7, 7, 0, 1, 0, 0⟩ = ⟨1, 7, 7, 7, 0, 1, 0, 0⟩ := by kernel_rfl
theorem k_b1 : bucketW (-1) = 0 := by kernel_rfl
theorem k_b2 : bucketW 0 = 1 := by kernel_rfl
theorem k_b3 : bucketW 9 = 1 := by kernel_rfl
theorem k_b4 : bucketW 10 = 2 := by kernel_rfl
theorem k_b5 : bucketW 99 = 2 := by kernel_rfl
theorem k_b6 : bucketW 100 = 3 := by kernel_rfl
theorem k_b7 : bucketW (-9223372036854775808) = 0 := by kernel_rfl
theorem k_b8 : bucketW 9223372036854775807 = 3 := by kernel_rfl
theorem k_p1 : plusW 9223372036854775807 1 = 9223372036854775807 := by kernel_rfl
theorem k_p2 : plusW (-9223372036854775808) (-1) = -9223372036854775808 := by kernel_rfl
theorem k_p3 : plusW 9223372036854775807 (-9223372036854775808) = -1 := by kernel_rfl
theorem k_p4 : plusW (-9223372036854775808) (-9223372036854775808) = -9223372036854775808 := by kernel_rfl
theorem k_p5 : plusW 9223372036854775807 9223372036854775807 = 9223372036854775807 := by kernel_rfl
theorem k_p6 : plusW 0 (-9223372036854775808) = -9223372036854775808 := by kernel_rfl
theorem k_r1 : rightB ⟨0, 0, 0, 0, 0, 0, 0, 0⟩ = true := by kernel_rfl
theorem k_r2 : rightB ⟨0, 1, 0, 0, 0, 0, 0, 0⟩ = false := by kernel_rfl
theorem k_r3 : rightB ⟨1, 0, 0, 0, 0, 0, 0, 0⟩ = false := by kernel_rfl
theorem k_r4 : rightB ⟨9223372036854775807, 0, 0, 0, 0, 9223372036854775807, 0, 0⟩ = true := by kernel_rfl
theorem k_r5 : rightB ⟨1, 0, 2, 1, 0, 1, 0, 0⟩ = false := by kernel_rfl
theorem k_r6 : rightB ⟨1, 0, 5, 5, 0, 0, 1, 0⟩ = false := by kernel_rfl

set_option maxHeartbeats 4000000 in
theorem known_law (W0 : World) : Calls Try.prog 8 #[] W0 fun e w' => e = .returned (.bool true) ∧ Below W0.heap.size W0 w' := by
  go_enter Try.func8, Try.ntmps8
  go_wp2_with fail
  refine (of_any W0.heap.size 0 3 3 [9223372036854775807, 1, -1] _ (by decide) (by decide) (by simp) ?_).mono ?_
  · intro j hj
    rcases (by omega : j = 0 ∨ j = 1 ∨ j = 2) with rfl | rfl | rfl <;> go_simp
  rintro e w1 ⟨rfl, hb⟩
  have HS := Lib.hid (((St.init W0).other _).call hb)
  clear hb
  rw [k_of1]
  unfold A8.arr
  dsimp only
  go_wp2_with fail
  refine (of_empty _ _ _).mono ?_
  rintro e w2 ⟨rfl, hb⟩
  have HS2 := Lib.hid ((HS.out.alloc _).call hb)
  clear hb HS
  rw [k_of2]
  unfold A8.arr
  dsimp only
  go_wp2_with fail
  refine (of_any w2.heap.size 0 1 1 [7] _ (by decide) (by decide) (by simp) ?_).mono ?_
  · intro j hj
    rcases (by omega : j = 0) with rfl <;> go_simp
  rintro e w3 ⟨rfl, hb⟩
  have HS3 := Lib.hid ((HS2.out.other _).call hb)
  clear hb HS2
  rw [k_of3]
  unfold A8.arr
  dsimp only
  go_wp2_with fail
  refine (join_8 ⟨0, 0, 0, 0, 0, 0, 0, 0⟩ ⟨1, 7, 7, 7, 0, 1, 0, 0⟩ _).mono ?_
  rintro e w4 ⟨rfl, hb⟩
  have HS4 := Lib.hid ((HS3.out.call hb).alloc #[.int .i64 1, .int .i64 7, .int .i64 7, .int .i64 7, .int .i64 0, .int .i64 1, .int .i64 0, .int .i64 0])
  clear hb HS3
  rw [k_join]
  unfold A8.arr
  dsimp only
  go_wp2_with (first | (go_at_call 12; refine (bucket_any _ _).mono ?_; rintro e w' ⟨rfl, rfl⟩; first | rw [k_b1] | rw [k_b2] | rw [k_b3] | rw [k_b4] | rw [k_b5] | rw [k_b6] | rw [k_b7] | rw [k_b8]) | (go_at_call 10; refine (plus_any _ _ _).mono ?_; rintro e w' ⟨rfl, rfl⟩; first | rw [k_p1] | rw [k_p2] | rw [k_p3] | rw [k_p4] | rw [k_p5] | rw [k_p6]))
  refine (right_8 ⟨0, 0, 0, 0, 0, 0, 0, 0⟩ _).mono ?_
  rintro e w5 ⟨rfl, hb⟩
  have HS5 := Lib.hid (HS4.out.call hb)
  clear hb HS4
  rw [k_r1]
  go_wp2_with fail
  refine (right_8 ⟨0, 1, 0, 0, 0, 0, 0, 0⟩ _).mono ?_
  rintro e w6 ⟨rfl, hb⟩
  have HS6 := Lib.hid (HS5.out.call hb)
  clear hb HS5
  rw [k_r2]
  go_wp2_with fail
  refine (right_8 ⟨1, 0, 0, 0, 0, 0, 0, 0⟩ _).mono ?_
  rintro e w7 ⟨rfl, hb⟩
  have HS7 := Lib.hid (HS6.out.call hb)
  clear hb HS6
  rw [k_r3]
  go_wp2_with fail
  refine (right_8 ⟨9223372036854775807, 0, 0, 0, 0, 9223372036854775807, 0, 0⟩ _).mono ?_
  rintro e w8 ⟨rfl, hb⟩
  have HS8 := Lib.hid (HS7.out.call hb)
  clear hb HS7
  rw [k_r4]
  go_wp2_with fail
  refine (right_8 ⟨1, 0, 2, 1, 0, 1, 0, 0⟩ _).mono ?_
  rintro e w9 ⟨rfl, hb⟩
  have HS9 := Lib.hid (HS8.out.call hb)
  clear hb HS8
  rw [k_r5]
  go_wp2_with fail
  refine (right_8 ⟨1, 0, 5, 5, 0, 0, 1, 0⟩ _).mono ?_
  rintro e w10 ⟨rfl, hb⟩
  have HS10 := Lib.hid (HS9.out.call hb)
  clear hb HS9
  rw [k_r6]
  have hc1 := HS10.out.cells w1.heap.size #[.int .i64 3, .int .i64 9223372036854775806, .int .i64 (-1), .int .i64 9223372036854775807, .int .i64 1, .int .i64 1, .int .i64 0, .int .i64 1] (by simp)
  have hc2 := HS10.out.cells w4.heap.size #[.int .i64 1, .int .i64 7, .int .i64 7, .int .i64 7, .int .i64 0, .int .i64 1, .int .i64 0, .int .i64 0] (by simp)
  go_wp2_with fail
  refine (wakes_any _).mono ?_
  rintro e w11 ⟨rfl, hb⟩
  have HS11 := Lib.hid (HS10.out.call hb)
  clear hb hc1 hc2 HS10
  go_wp2
  go_ret
  exact ⟨rfl, HS11.out.1⟩
end Go.Proofs.Ytoiakejagmeliaa
