/-
  The walks of slices.Min, slices.Index, slices.Contains over four numbers.
-/
import Derived.Test.YtoiakejagmeliaaAggV
set_option linter.unusedSimpArgs false
set_option linter.unusedVariables false
namespace Go.Proofs.Ytoiakejagmeliaa
open Go.RowKit
attribute [local go_sem ↓] run_min_mn run_max_mx

def mn4 (a0 a1 a2 a3 : Int) : Int := mnI (mnI (mnI a0 a1) a2) a3
def idx4 (v a0 a1 a2 a3 : Int) : Int := if v = a0 then 0 else if v = a1 then 1 else if v = a2 then 2 else if v = a3 then 3 else -1

theorem idx_0 {v a0 a1 a2 a3 : Int} (h0 : (v == a0) = true) : 0 = idx4 v a0 a1 a2 a3 := by
  rw [beq_iff_eq] at h0; unfold idx4; rw [if_pos h0]
theorem idx_1 {v a0 a1 a2 a3 : Int} (h0 : (v == a0) = false) (h1 : (v == a1) = true) : 1 = idx4 v a0 a1 a2 a3 := by
  rw [beq_eq_false_iff_ne] at h0; rw [beq_iff_eq] at h1; unfold idx4; rw [if_neg h0, if_pos h1]
theorem idx_2 {v a0 a1 a2 a3 : Int} (h0 : (v == a0) = false) (h1 : (v == a1) = false) (h2 : (v == a2) = true) : 2 = idx4 v a0 a1 a2 a3 := by
  rw [beq_eq_false_iff_ne] at h0 h1; rw [beq_iff_eq] at h2; unfold idx4; rw [if_neg h0, if_neg h1, if_pos h2]
theorem idx_3 {v a0 a1 a2 a3 : Int} (h0 : (v == a0) = false) (h1 : (v == a1) = false) (h2 : (v == a2) = false) (h3 : (v == a3) = true) : 3 = idx4 v a0 a1 a2 a3 := by
  rw [beq_eq_false_iff_ne] at h0 h1 h2; rw [beq_iff_eq] at h3; unfold idx4; rw [if_neg h0, if_neg h1, if_neg h2, if_pos h3]
theorem idx_4 {v a0 a1 a2 a3 : Int} (h0 : (v == a0) = false) (h1 : (v == a1) = false) (h2 : (v == a2) = false) (h3 : (v == a3) = false) : -1 = idx4 v a0 a1 a2 a3 := by
  rw [beq_eq_false_iff_ne] at h0 h1 h2 h3; unfold idx4; rw [if_neg h0, if_neg h1, if_neg h2, if_neg h3]

set_option maxHeartbeats 1000000 in
theorem min4_any (b : Nat) (a0 a1 a2 a3 : Int) (w : World) (h0 : w.cell? ⟨b, 4, none⟩ = some (.int .i64 a0)) (h1 : w.cell? ⟨b, 5, none⟩ = some (.int .i64 a1)) (h2 : w.cell? ⟨b, 6, none⟩ = some (.int .i64 a2)) (h3 : w.cell? ⟨b, 7, none⟩ = some (.int .i64 a3)) :
    Calls Try.prog 23 #[.slice (some ⟨b, 4, none⟩) 4 4] w fun e w' => e = .returned (.int .i64 (mn4 a0 a1 a2 a3)) ∧ w = w' := by
  go_enter Try.func23, Try.ntmps23
  go_wp2
  go_rounds 4
  go_ret
  exact ⟨rfl, rfl⟩

set_option maxHeartbeats 1000000 in
theorem idx4_any (b : Nat) (v a0 a1 a2 a3 : Int) (w : World) (h0 : w.cell? ⟨b, 4, none⟩ = some (.int .i64 a0)) (h1 : w.cell? ⟨b, 5, none⟩ = some (.int .i64 a1)) (h2 : w.cell? ⟨b, 6, none⟩ = some (.int .i64 a2)) (h3 : w.cell? ⟨b, 7, none⟩ = some (.int .i64 a3)) :
    Calls Try.prog 25 #[.slice (some ⟨b, 4, none⟩) 4 4, .int .i64 v] w fun e w' => e = .returned (.int .i64 (idx4 v a0 a1 a2 a3)) ∧ w = w' := by
  go_enter Try.func25, Try.ntmps25
  go_wp2
  go_rounds 5
  all_goals go_ret
  all_goals refine ⟨ret_int ?_, rfl⟩
  all_goals first
    | exact idx_0 ‹_›
    | exact idx_1 ‹(v == a0) = false› ‹_›
    | exact idx_2 ‹(v == a0) = false› ‹(v == a1) = false› ‹_›
    | exact idx_3 ‹(v == a0) = false› ‹(v == a1) = false› ‹(v == a2) = false› ‹_›
    | exact idx_4 ‹(v == a0) = false› ‹(v == a1) = false› ‹(v == a2) = false› ‹_›

set_option maxHeartbeats 1000000 in
theorem contains4_any (b : Nat) (v a0 a1 a2 a3 : Int) (w : World) (h0 : w.cell? ⟨b, 4, none⟩ = some (.int .i64 a0)) (h1 : w.cell? ⟨b, 5, none⟩ = some (.int .i64 a1)) (h2 : w.cell? ⟨b, 6, none⟩ = some (.int .i64 a2)) (h3 : w.cell? ⟨b, 7, none⟩ = some (.int .i64 a3)) :
    Calls Try.prog 24 #[.slice (some ⟨b, 4, none⟩) 4 4, .int .i64 v] w fun e w' => e = .returned (.bool (decide (0 ≤ idx4 v a0 a1 a2 a3))) ∧ w = w' := by
  go_enter Try.func24, Try.ntmps24
  go_wp2_with (go_at_call 25; refine (idx4_any b v a0 a1 a2 a3 _ h0 h1 h2 h3).mono ?_; rintro e w' ⟨rfl, rfl⟩)
  go_ret
  exact ⟨rfl, rfl⟩
end Go.Proofs.Ytoiakejagmeliaa
