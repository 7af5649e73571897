/-
  The walk of the reference's Put, in twenty cases. Printed by genRPut.py.
-/
import Derived.Test.YtoiakejagmeliaaAggT
set_option linter.unusedSimpArgs false
set_option linter.unusedVariables false
namespace Go.Proofs.Ytoiakejagmeliaa
open Go.RowKit

set_option maxHeartbeats 4000000 in
theorem rput_1 (ac as' amn amx a0 a1 a2 a3 v : Int) (w : World) (hv : bucketW v = 1) (hr : R64 ac ∧ R64 as' ∧ R64 v ∧ R64 a0 ∧ R64 a1 ∧ R64 a2 ∧ R64 a3) :
    Calls Try.prog 15 #[.agg #[.int .i64 ac, .int .i64 as', .int .i64 amn, .int .i64 amx, .int .i64 a0, .int .i64 a1, .int .i64 a2, .int .i64 a3], .int .i64 v] w fun e w' => e = .returned (.agg #[.int .i64 (plusW ac 1), .int .i64 (plusW as' v), .int .i64 (jmn ac 1 amn v), .int .i64 (jmx ac 1 amx v), .int .i64 (plusW a0 (hI v 0)), .int .i64 (plusW a1 (hI v 1)), .int .i64 (plusW a2 (hI v 2)), .int .i64 (plusW a3 (hI v 3))]) ∧ Below w.heap.size w w' := by
  have hI0 : hI v 0 = 0 := by simp [hI, hv]
  have hI1 : hI v 1 = 1 := by simp [hI, hv]
  have hI2 : hI v 2 = 0 := by simp [hI, hv]
  have hI3 : hI v 3 = 0 := by simp [hI, hv]
  rw [hI0, hI1, hI2, hI3]
  clear hI0 hI1 hI2 hI3
  have Hv := Lib.hid hv
  have HR := Lib.hid hr
  clear hv hr
  rw [plusW0 HR.out.2.2.2.1]
  rw [plusW0 HR.out.2.2.2.2.2.1]
  rw [plusW0 HR.out.2.2.2.2.2.2]
  by_cases h0 : ac = 0
  · have e1 : jmn ac 1 amn v = v := by unfold jmn; rw [if_pos h0, if_neg (by decide)]
    have e2 : jmx ac 1 amx v = v := by unfold jmx; rw [if_pos h0, if_neg (by decide)]
    rw [e1, e2]
    have hac : (ac == 0) = true := beq_iff_eq.2 h0
    clear e1 e2 h0
    go_enter Try.func15, Try.ntmps15
    go_wp2_with fail
    refine (rplus_any ac 1 _ HR.out.1 r1).mono ?_
    rintro e w' ⟨rfl, rfl⟩
    go_wp2_with fail
    refine (rplus_any as' v _ HR.out.2.1 HR.out.2.2.1).mono ?_
    rintro e w' ⟨rfl, rfl⟩
    go_wp2_with fail
    refine (rbucket_any v _).mono ?_
    rintro e w' ⟨rfl, rfl⟩
    rw [Hv.out]
    go_wp2_with fail
    refine (rplus_any a1 1 _ HR.out.2.2.2.2.1 r1).mono ?_
    rintro e w' ⟨rfl, rfl⟩
    go_wp2
    exact bodyPost_ret (v := .agg #[.int .i64 (plusW ac 1), .int .i64 (plusW as' v), .int .i64 v, .int .i64 v, .int .i64 a0, .int .i64 (plusW a1 1), .int .i64 a2, .int .i64 a3]) (by simp [results, Try.results15, go_sem]) rfl ⟨rfl, ((Below.refl _ _).alloc (Nat.le_refl _) _).alloc (by simp) _⟩
  · have hac : (ac == 0) = false := beq_eq_false_iff_ne.2 h0
    have e1 : jmn ac 1 amn v = mnI amn v := by unfold jmn; rw [if_neg h0, if_neg (by decide)]
    have e2 : jmx ac 1 amx v = mxI amx v := by unfold jmx; rw [if_neg h0, if_neg (by decide)]
    rw [e1, e2]
    clear e1 e2 h0
    by_cases h1 : v < amn <;> by_cases h2 : amx < v
    · have e1 : mnI amn v = v := by unfold mnI; rw [if_pos h1]
      have e2 : mxI amx v = v := by unfold mxI; rw [if_pos h2]
      rw [e1, e2]
      clear e1 e2
      
      
      go_enter Try.func15, Try.ntmps15
      go_wp2_with fail
      refine (rplus_any ac 1 _ HR.out.1 r1).mono ?_
      rintro e w' ⟨rfl, rfl⟩
      go_wp2_with fail
      refine (rplus_any as' v _ HR.out.2.1 HR.out.2.2.1).mono ?_
      rintro e w' ⟨rfl, rfl⟩
      go_wp2_with fail
      refine (rbucket_any v _).mono ?_
      rintro e w' ⟨rfl, rfl⟩
      rw [Hv.out]
      go_wp2_with fail
      refine (rplus_any a1 1 _ HR.out.2.2.2.2.1 r1).mono ?_
      rintro e w' ⟨rfl, rfl⟩
      go_wp2
      exact bodyPost_ret (v := .agg #[.int .i64 (plusW ac 1), .int .i64 (plusW as' v), .int .i64 v, .int .i64 v, .int .i64 a0, .int .i64 (plusW a1 1), .int .i64 a2, .int .i64 a3]) (by simp [results, Try.results15, go_sem]) rfl ⟨rfl, ((Below.refl _ _).alloc (Nat.le_refl _) _).alloc (by simp) _⟩
    · have e1 : mnI amn v = v := by unfold mnI; rw [if_pos h1]
      have e2 : mxI amx v = amx := by unfold mxI; rw [if_neg h2]
      rw [e1, e2]
      clear e1 e2
      
      replace h2 := Int.not_lt.1 h2
      go_enter Try.func15, Try.ntmps15
      go_wp2_with fail
      refine (rplus_any ac 1 _ HR.out.1 r1).mono ?_
      rintro e w' ⟨rfl, rfl⟩
      go_wp2_with fail
      refine (rplus_any as' v _ HR.out.2.1 HR.out.2.2.1).mono ?_
      rintro e w' ⟨rfl, rfl⟩
      go_wp2_with fail
      refine (rbucket_any v _).mono ?_
      rintro e w' ⟨rfl, rfl⟩
      rw [Hv.out]
      go_wp2_with fail
      refine (rplus_any a1 1 _ HR.out.2.2.2.2.1 r1).mono ?_
      rintro e w' ⟨rfl, rfl⟩
      go_wp2
      exact bodyPost_ret (v := .agg #[.int .i64 (plusW ac 1), .int .i64 (plusW as' v), .int .i64 v, .int .i64 amx, .int .i64 a0, .int .i64 (plusW a1 1), .int .i64 a2, .int .i64 a3]) (by simp [results, Try.results15, go_sem]) rfl ⟨rfl, ((Below.refl _ _).alloc (Nat.le_refl _) _).alloc (by simp) _⟩
    · have e1 : mnI amn v = amn := by unfold mnI; rw [if_neg h1]
      have e2 : mxI amx v = v := by unfold mxI; rw [if_pos h2]
      rw [e1, e2]
      clear e1 e2
      replace h1 := Int.not_lt.1 h1
      
      go_enter Try.func15, Try.ntmps15
      go_wp2_with fail
      refine (rplus_any ac 1 _ HR.out.1 r1).mono ?_
      rintro e w' ⟨rfl, rfl⟩
      go_wp2_with fail
      refine (rplus_any as' v _ HR.out.2.1 HR.out.2.2.1).mono ?_
      rintro e w' ⟨rfl, rfl⟩
      go_wp2_with fail
      refine (rbucket_any v _).mono ?_
      rintro e w' ⟨rfl, rfl⟩
      rw [Hv.out]
      go_wp2_with fail
      refine (rplus_any a1 1 _ HR.out.2.2.2.2.1 r1).mono ?_
      rintro e w' ⟨rfl, rfl⟩
      go_wp2
      exact bodyPost_ret (v := .agg #[.int .i64 (plusW ac 1), .int .i64 (plusW as' v), .int .i64 amn, .int .i64 v, .int .i64 a0, .int .i64 (plusW a1 1), .int .i64 a2, .int .i64 a3]) (by simp [results, Try.results15, go_sem]) rfl ⟨rfl, ((Below.refl _ _).alloc (Nat.le_refl _) _).alloc (by simp) _⟩
    · have e1 : mnI amn v = amn := by unfold mnI; rw [if_neg h1]
      have e2 : mxI amx v = amx := by unfold mxI; rw [if_neg h2]
      rw [e1, e2]
      clear e1 e2
      replace h1 := Int.not_lt.1 h1
      replace h2 := Int.not_lt.1 h2
      go_enter Try.func15, Try.ntmps15
      go_wp2_with fail
      refine (rplus_any ac 1 _ HR.out.1 r1).mono ?_
      rintro e w' ⟨rfl, rfl⟩
      go_wp2_with fail
      refine (rplus_any as' v _ HR.out.2.1 HR.out.2.2.1).mono ?_
      rintro e w' ⟨rfl, rfl⟩
      go_wp2_with fail
      refine (rbucket_any v _).mono ?_
      rintro e w' ⟨rfl, rfl⟩
      rw [Hv.out]
      go_wp2_with fail
      refine (rplus_any a1 1 _ HR.out.2.2.2.2.1 r1).mono ?_
      rintro e w' ⟨rfl, rfl⟩
      go_wp2
      exact bodyPost_ret (v := .agg #[.int .i64 (plusW ac 1), .int .i64 (plusW as' v), .int .i64 amn, .int .i64 amx, .int .i64 a0, .int .i64 (plusW a1 1), .int .i64 a2, .int .i64 a3]) (by simp [results, Try.results15, go_sem]) rfl ⟨rfl, ((Below.refl _ _).alloc (Nat.le_refl _) _).alloc (by simp) _⟩
end Go.Proofs.Ytoiakejagmeliaa
