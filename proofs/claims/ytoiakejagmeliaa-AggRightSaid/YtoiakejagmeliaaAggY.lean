/-
  The walk of agg.Right.
-/
import Derived.Test.YtoiakejagmeliaaAggX
import Derived.Test.YtoiakejagmeliaaAggE
import Derived.LoopTactic
import Derived.Deep.RegionWith
set_option linter.unusedSimpArgs false
set_option linter.unusedVariables false
namespace Go.Proofs.Ytoiakejagmeliaa
open Go.RowKit
attribute [local go_sem ↓] run_min_mn run_max_mx run_eq_agg

def A8.h (a : A8) : Nat → Int
  | 0 => a.h0
  | 1 => a.h1
  | 2 => a.h2
  | _ => a.h3
def sumK (a : A8) : Nat → Int
  | 0 => 0
  | k + 1 => plusW (sumK a k) (a.h k)
def lowK (a : A8) : Nat → Int
  | 0 => 4
  | k + 1 => if 0 < a.h k then mnI (lowK a k) k else lowK a k
def highK (a : A8) : Nat → Int
  | 0 => -1
  | k + 1 => if 0 < a.h k then k else highK a k
/-- What Right answers. -/
def rightB (a : A8) : Bool :=
  if a.c = 0 then decide (a.s = 0 ∧ a.mn = 0 ∧ a.mx = 0 ∧ a.h0 = 0 ∧ a.h1 = 0 ∧ a.h2 = 0 ∧ a.h3 = 0)
  else if a.c < 0 ∨ a.mx < a.mn ∨ mn4 a.h0 a.h1 a.h2 a.h3 < 0 then false
  else if 0 ≤ idx4 9223372036854775807 a.h0 a.h1 a.h2 a.h3 then true
  else decide (sumK a 4 = a.c ∧ lowK a 4 = bucketW a.mn ∧ highK a 4 = bucketW a.mx)

set_option maxHeartbeats 1000000 in
theorem right_zero (ac as' amn amx a0 a1 a2 a3 : Int) (w : World) (h0 : (ac == 0) = true) :
    Calls Try.prog 21 #[.agg #[.int .i64 ac, .int .i64 as', .int .i64 amn, .int .i64 amx, .int .i64 a0, .int .i64 a1, .int .i64 a2, .int .i64 a3]] w fun e w' => e = .returned (.bool (decide (ac = 0 ∧ as' = 0 ∧ amn = 0 ∧ amx = 0 ∧ a0 = 0 ∧ a1 = 0 ∧ a2 = 0 ∧ a3 = 0))) ∧ Below w.heap.size w w' := by
  go_enter Try.func21, Try.ntmps21
  go_wp2
  go_ret
  exact ⟨ret_bool (by simp only [Bool.decide_and]), (Below.refl _ _).alloc (Nat.le_refl _) _⟩
set_option maxHeartbeats 1000000 in
theorem right_neg (ac as' amn amx a0 a1 a2 a3 : Int) (w : World) (h0 : (ac == 0) = false) (h1 : ac < 0) : Calls Try.prog 21 #[.agg #[.int .i64 ac, .int .i64 as', .int .i64 amn, .int .i64 amx, .int .i64 a0, .int .i64 a1, .int .i64 a2, .int .i64 a3]] w fun e w' => e = .returned (.bool false) ∧ Below w.heap.size w w' := by
  go_enter Try.func21, Try.ntmps21
  go_wp2
  go_ret
  exact ⟨rfl, (Below.refl _ _).alloc (Nat.le_refl _) _⟩
set_option maxHeartbeats 1000000 in
theorem right_mm (ac as' amn amx a0 a1 a2 a3 : Int) (w : World) (h0 : (ac == 0) = false) (h1 : 0 ≤ ac) (h2 : amx < amn) : Calls Try.prog 21 #[.agg #[.int .i64 ac, .int .i64 as', .int .i64 amn, .int .i64 amx, .int .i64 a0, .int .i64 a1, .int .i64 a2, .int .i64 a3]] w fun e w' => e = .returned (.bool false) ∧ Below w.heap.size w w' := by
  go_enter Try.func21, Try.ntmps21
  go_wp2
  go_ret
  exact ⟨rfl, (Below.refl _ _).alloc (Nat.le_refl _) _⟩
set_option maxHeartbeats 1000000 in
theorem right_min (ac as' amn amx a0 a1 a2 a3 : Int) (w : World) (h0 : (ac == 0) = false) (h1 : 0 ≤ ac) (h2 : amn ≤ amx) (h3 : mn4 a0 a1 a2 a3 < 0) : Calls Try.prog 21 #[.agg #[.int .i64 ac, .int .i64 as', .int .i64 amn, .int .i64 amx, .int .i64 a0, .int .i64 a1, .int .i64 a2, .int .i64 a3]] w fun e w' => e = .returned (.bool false) ∧ Below w.heap.size w w' := by
  go_enter Try.func21, Try.ntmps21
  go_wp2_with (go_at_call 23; refine (min4_any w.heap.size a0 a1 a2 a3 _ (by go_simp) (by go_simp) (by go_simp) (by go_simp)).mono ?_; rintro e w' ⟨rfl, rfl⟩)
  go_ret
  exact ⟨rfl, (Below.refl _ _).alloc (Nat.le_refl _) _⟩
set_option maxHeartbeats 1000000 in
theorem right_held (ac as' amn amx a0 a1 a2 a3 : Int) (w : World) (h0 : (ac == 0) = false) (h1 : 0 ≤ ac) (h2 : amn ≤ amx) (h3 : 0 ≤ mn4 a0 a1 a2 a3) (h4 : 0 ≤ idx4 9223372036854775807 a0 a1 a2 a3) : Calls Try.prog 21 #[.agg #[.int .i64 ac, .int .i64 as', .int .i64 amn, .int .i64 amx, .int .i64 a0, .int .i64 a1, .int .i64 a2, .int .i64 a3]] w fun e w' => e = .returned (.bool true) ∧ Below w.heap.size w w' := by
  have h5 : decide (0 ≤ idx4 9223372036854775807 a0 a1 a2 a3) = true := by simpa using h4
  have H5 := Lib.hid h5
  clear h4 h5
  go_enter Try.func21, Try.ntmps21
  go_wp2_with (first | (go_at_call 23; refine (min4_any w.heap.size a0 a1 a2 a3 _ (by go_simp) (by go_simp) (by go_simp) (by go_simp)).mono ?_; rintro e w' ⟨rfl, rfl⟩) | (go_at_call 24; refine (contains4_any w.heap.size 9223372036854775807 a0 a1 a2 a3 _ (by go_simp) (by go_simp) (by go_simp) (by go_simp)).mono ?_; rintro e w' ⟨rfl, rfl⟩; rw [H5.out]))
  go_ret
  exact ⟨rfl, (Below.refl _ _).alloc (Nat.le_refl _) _⟩
theorem ret_v {k : IntKind} {a b : Int} (h : a = b) : Value.int k a = .int k b := by rw [h]
theorem lowK_pos {a : A8} {k : Nat} (h : 0 < a.h k) : lowK a (k + 1) = mnI (lowK a k) k := if_pos h
theorem lowK_neg {a : A8} {k : Nat} (h : a.h k ≤ 0) : lowK a (k + 1) = lowK a k := if_neg (by omega)
theorem highK_pos {a : A8} {k : Nat} (h : 0 < a.h k) : highK a (k + 1) = k := if_pos h
theorem highK_neg {a : A8} {k : Nat} (h : a.h k ≤ 0) : highK a (k + 1) = highK a k := if_neg (by omega)
def RightRel (a : A8) (k : Nat) (s l h : Value) : Prop := s = .int .i64 (sumK a k) ∧ l = .int .i64 (lowK a k) ∧ h = .int .i64 (highK a k)
set_option maxHeartbeats 4000000 in
theorem right_else (ac as' amn amx a0 a1 a2 a3 : Int) (w : World) (h0 : (ac == 0) = false) (h1 : 0 ≤ ac) (h2 : amn ≤ amx) (h3 : 0 ≤ mn4 a0 a1 a2 a3) (h4 : idx4 9223372036854775807 a0 a1 a2 a3 < 0) :
    Calls Try.prog 21 #[.agg #[.int .i64 ac, .int .i64 as', .int .i64 amn, .int .i64 amx, .int .i64 a0, .int .i64 a1, .int .i64 a2, .int .i64 a3]] w fun e w' => e = .returned (.bool (decide (sumK ⟨ac, as', amn, amx, a0, a1, a2, a3⟩ 4 = ac ∧ lowK ⟨ac, as', amn, amx, a0, a1, a2, a3⟩ 4 = bucketW amn ∧ highK ⟨ac, as', amn, amx, a0, a1, a2, a3⟩ 4 = bucketW amx))) ∧ Below w.heap.size w w' := by
  have h5 : decide (0 ≤ idx4 9223372036854775807 a0 a1 a2 a3) = false := by simpa using h4
  have H5 := Lib.hid h5
  clear h4 h5
  go_enter Try.func21, Try.ntmps21
  go_wp2_with (first | (go_at_call 23; refine (min4_any w.heap.size a0 a1 a2 a3 _ (by go_simp) (by go_simp) (by go_simp) (by go_simp)).mono ?_; rintro e w' ⟨rfl, rfl⟩) | (go_at_call 24; refine (contains4_any w.heap.size 9223372036854775807 a0 a1 a2 a3 _ (by go_simp) (by go_simp) (by go_simp) (by go_simp)).mono ?_; rintro e w' ⟨rfl, rfl⟩; rw [H5.out]))
  have i0 : ∀ w, (Instr.index 22 (.agg #[.int .i64 a0, .int .i64 a1, .int .i64 a2, .int .i64 a3]) (.int .i64 0)).run Try.prog w = .ok (.int .i64 a0) w := fun _ => by kernel_rfl
  have i1 : ∀ w, (Instr.index 22 (.agg #[.int .i64 a0, .int .i64 a1, .int .i64 a2, .int .i64 a3]) (.int .i64 1)).run Try.prog w = .ok (.int .i64 a1) w := fun _ => by kernel_rfl
  have i2 : ∀ w, (Instr.index 22 (.agg #[.int .i64 a0, .int .i64 a1, .int .i64 a2, .int .i64 a3]) (.int .i64 2)).run Try.prog w = .ok (.int .i64 a2) w := fun _ => by kernel_rfl
  have i3 : ∀ w, (Instr.index 22 (.agg #[.int .i64 a0, .int .i64 a1, .int .i64 a2, .int .i64 a3]) (.int .i64 3)).run Try.prog w = .ok (.int .i64 a3) w := fun _ => by kernel_rfl
  go_loop [3, 4, 5, 35] (fun s l h t => ∃ k : Nat, k ≤ 4 ∧ t = .int .i64 k ∧ RightRel ⟨ac, as', amn, amx, a0, a1, a2, a3⟩ k s l h) (fun _ _ _ t => 4 - (intOf t).toNat)
  case atStart => exact ⟨0, by omega, rfl, rfl, rfl, rfl⟩
  case round =>
    obtain ⟨k, hk, rfl, rfl, rfl, rfl⟩ := hrel
    rcases (by omega : k = 0 ∨ k = 1 ∨ k = 2 ∨ k = 3 ∨ k = 4) with rfl | rfl | rfl | rfl | rfl
    · go_wp2_with (go_at_call 10; refine (plus_any _ a0 _).mono ?_; rintro e w' ⟨rfl, rfl⟩)
      · go_round
        case rel => exact ⟨1, by omega, rfl, ret_v (show plusW _ a0 = _ from rfl), ret_v (lowK_pos (a := ⟨ac, as', amn, amx, a0, a1, a2, a3⟩) (k := 0) ‹_›).symm, ret_v (highK_pos (a := ⟨ac, as', amn, amx, a0, a1, a2, a3⟩) (k := 0) ‹_›).symm⟩
        case measure => simp [intOf]
      · go_round
        case rel => exact ⟨1, by omega, rfl, ret_v (show plusW _ a0 = _ from rfl), ret_v (lowK_neg (a := ⟨ac, as', amn, amx, a0, a1, a2, a3⟩) (k := 0) ‹_›).symm, ret_v (highK_neg (a := ⟨ac, as', amn, amx, a0, a1, a2, a3⟩) (k := 0) ‹_›).symm⟩
        case measure => simp [intOf]
    · go_wp2_with (go_at_call 10; refine (plus_any _ a1 _).mono ?_; rintro e w' ⟨rfl, rfl⟩)
      · go_round
        case rel => exact ⟨2, by omega, rfl, ret_v (show plusW _ a1 = _ from rfl), ret_v (lowK_pos (a := ⟨ac, as', amn, amx, a0, a1, a2, a3⟩) (k := 1) ‹_›).symm, ret_v (highK_pos (a := ⟨ac, as', amn, amx, a0, a1, a2, a3⟩) (k := 1) ‹_›).symm⟩
        case measure => simp [intOf]
      · go_round
        case rel => exact ⟨2, by omega, rfl, ret_v (show plusW _ a1 = _ from rfl), ret_v (lowK_neg (a := ⟨ac, as', amn, amx, a0, a1, a2, a3⟩) (k := 1) ‹_›).symm, ret_v (highK_neg (a := ⟨ac, as', amn, amx, a0, a1, a2, a3⟩) (k := 1) ‹_›).symm⟩
        case measure => simp [intOf]
    · go_wp2_with (go_at_call 10; refine (plus_any _ a2 _).mono ?_; rintro e w' ⟨rfl, rfl⟩)
      · go_round
        case rel => exact ⟨3, by omega, rfl, ret_v (show plusW _ a2 = _ from rfl), ret_v (lowK_pos (a := ⟨ac, as', amn, amx, a0, a1, a2, a3⟩) (k := 2) ‹_›).symm, ret_v (highK_pos (a := ⟨ac, as', amn, amx, a0, a1, a2, a3⟩) (k := 2) ‹_›).symm⟩
        case measure => simp [intOf]
      · go_round
        case rel => exact ⟨3, by omega, rfl, ret_v (show plusW _ a2 = _ from rfl), ret_v (lowK_neg (a := ⟨ac, as', amn, amx, a0, a1, a2, a3⟩) (k := 2) ‹_›).symm, ret_v (highK_neg (a := ⟨ac, as', amn, amx, a0, a1, a2, a3⟩) (k := 2) ‹_›).symm⟩
        case measure => simp [intOf]
    · go_wp2_with (go_at_call 10; refine (plus_any _ a3 _).mono ?_; rintro e w' ⟨rfl, rfl⟩)
      · go_round
        case rel => exact ⟨4, by omega, rfl, ret_v (show plusW _ a3 = _ from rfl), ret_v (lowK_pos (a := ⟨ac, as', amn, amx, a0, a1, a2, a3⟩) (k := 3) ‹_›).symm, ret_v (highK_pos (a := ⟨ac, as', amn, amx, a0, a1, a2, a3⟩) (k := 3) ‹_›).symm⟩
        case measure => simp [intOf]
      · go_round
        case rel => exact ⟨4, by omega, rfl, ret_v (show plusW _ a3 = _ from rfl), ret_v (lowK_neg (a := ⟨ac, as', amn, amx, a0, a1, a2, a3⟩) (k := 3) ‹_›).symm, ret_v (highK_neg (a := ⟨ac, as', amn, amx, a0, a1, a2, a3⟩) (k := 3) ‹_›).symm⟩
        case measure => simp [intOf]
    · generalize hS : sumK ⟨ac, as', amn, amx, a0, a1, a2, a3⟩ 4 = S4
      generalize hL : lowK ⟨ac, as', amn, amx, a0, a1, a2, a3⟩ 4 = L4
      generalize hH : highK ⟨ac, as', amn, amx, a0, a1, a2, a3⟩ 4 = H4
      have HS := Lib.hid hS
      have HL := Lib.hid hL
      have HH := Lib.hid hH
      clear hS hL hH
      cases h5 : (S4 == ac)
      · go_wp2
        go_ret
        refine ⟨?_, (Below.refl _ _).alloc (Nat.le_refl _) _⟩
        exact ret_bool (by rw [HS.out, HL.out, HH.out]; rw [beq_eq_false_iff_ne] at h5; simp [h5])
      · cases h6 : (L4 == bucketW amn)
        · go_wp2_with (go_at_call 12; refine (bucket_any amn _).mono ?_; rintro e w' ⟨rfl, rfl⟩)
          go_ret
          refine ⟨?_, (Below.refl _ _).alloc (Nat.le_refl _) _⟩
          exact ret_bool (by rw [HS.out, HL.out, HH.out]; rw [beq_iff_eq] at h5; rw [beq_eq_false_iff_ne] at h6; simp [h5, h6])
        · go_wp2_with (first | (go_at_call_of 12 (Value.int .i64 amn); refine (bucket_any amn _).mono ?_; rintro e w' ⟨rfl, rfl⟩) | (go_at_call_of 12 (Value.int .i64 amx); refine (bucket_any amx _).mono ?_; rintro e w' ⟨rfl, rfl⟩))
          go_ret
          refine ⟨?_, (Below.refl _ _).alloc (Nat.le_refl _) _⟩
          exact ret_bool (by rw [HS.out, HL.out, HH.out]; rw [beq_iff_eq] at h5 h6; rw [Bool.eq_iff_iff]; simp [h5, h6])

theorem right_8 (a : A8) (w : World) : Calls Try.prog 21 #[.agg a.arr] w fun e w' => e = .returned (.bool (rightB a)) ∧ Below w.heap.size w w' := by
  obtain ⟨ac, as', amn, amx, a0, a1, a2, a3⟩ := a
  unfold rightB A8.arr
  dsimp only
  by_cases h0 : ac = 0
  · rw [if_pos h0]
    refine (right_zero ac as' amn amx a0 a1 a2 a3 w (beq_iff_eq.2 h0)).mono fun e w' ⟨he, hb⟩ => ⟨he.trans (ret_bool ?_), hb⟩
    simp [h0]
  · rw [if_neg h0]
    have h0' := beq_eq_false_iff_ne.2 h0
    by_cases h1 : ac < 0
    · rw [if_pos (.inl h1)]; exact right_neg _ _ _ _ _ _ _ _ _ h0' h1
    · by_cases h2 : amx < amn
      · rw [if_pos (.inr (.inl h2))]; exact right_mm _ _ _ _ _ _ _ _ _ h0' (by omega) h2
      · by_cases h3 : mn4 a0 a1 a2 a3 < 0
        · rw [if_pos (.inr (.inr h3))]; exact right_min _ _ _ _ _ _ _ _ _ h0' (by omega) (by omega) h3
        · rw [if_neg (by simp [h1, h2, h3])]
          by_cases h4 : 0 ≤ idx4 9223372036854775807 a0 a1 a2 a3
          · rw [if_pos h4]; exact right_held _ _ _ _ _ _ _ _ _ h0' (by omega) (by omega) (by omega) h4
          · rw [if_neg h4]; exact right_else _ _ _ _ _ _ _ _ _ h0' (by omega) (by omega) (by omega) (by omega)
end Go.Proofs.Ytoiakejagmeliaa
