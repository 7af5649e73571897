/-
  The walk of the reference's Right.
-/
import Derived.Test.YtoiakejagmeliaaAggY
import Derived.Test.YtoiakejagmeliaaAggW
set_option linter.unusedSimpArgs false
set_option linter.unusedVariables false
namespace Go.Proofs.Ytoiakejagmeliaa
open Go.RowKit
attribute [local go_sem ↓] run_eq_agg

def firstK (a : A8) : Nat → Int
  | 0 => -1
  | k + 1 => if 0 < a.h k then (if firstK a k < 0 then k else firstK a k) else firstK a k
def heldK (a : A8) : Nat → Bool
  | 0 => false
  | k + 1 => heldK a k || (a.h k == 9223372036854775807)

set_option maxHeartbeats 1000000 in
theorem rright_zero (ac as' amn amx a0 a1 a2 a3 : Int) (w : World) (h0 : (ac == 0) = true) :
    Calls Try.prog 22 #[.agg #[.int .i64 ac, .int .i64 as', .int .i64 amn, .int .i64 amx, .int .i64 a0, .int .i64 a1, .int .i64 a2, .int .i64 a3]] w fun e w' => e = .returned (.bool (decide (ac = 0 ∧ as' = 0 ∧ amn = 0 ∧ amx = 0 ∧ a0 = 0 ∧ a1 = 0 ∧ a2 = 0 ∧ a3 = 0))) ∧ Below w.heap.size w w' := by
  go_enter Try.func22, Try.ntmps22
  go_wp2
  go_ret
  exact ⟨ret_bool (by simp only [Bool.decide_and]), (Below.refl _ _).alloc (Nat.le_refl _) _⟩
set_option maxHeartbeats 1000000 in
theorem rright_neg (ac as' amn amx a0 a1 a2 a3 : Int) (w : World) (h0 : (ac == 0) = false) (h1 : ac < 0) : Calls Try.prog 22 #[.agg #[.int .i64 ac, .int .i64 as', .int .i64 amn, .int .i64 amx, .int .i64 a0, .int .i64 a1, .int .i64 a2, .int .i64 a3]] w fun e w' => e = .returned (.bool false) ∧ Below w.heap.size w w' := by
  go_enter Try.func22, Try.ntmps22
  go_wp2
  go_ret
  exact ⟨rfl, (Below.refl _ _).alloc (Nat.le_refl _) _⟩
set_option maxHeartbeats 1000000 in
theorem rright_mm (ac as' amn amx a0 a1 a2 a3 : Int) (w : World) (h0 : (ac == 0) = false) (h1 : 0 ≤ ac) (h2 : amx < amn) : Calls Try.prog 22 #[.agg #[.int .i64 ac, .int .i64 as', .int .i64 amn, .int .i64 amx, .int .i64 a0, .int .i64 a1, .int .i64 a2, .int .i64 a3]] w fun e w' => e = .returned (.bool false) ∧ Below w.heap.size w w' := by
  go_enter Try.func22, Try.ntmps22
  go_wp2
  go_ret
  exact ⟨rfl, (Below.refl _ _).alloc (Nat.le_refl _) _⟩
theorem firstK_pos {a : A8} {k : Nat} (h : 0 < a.h k) (h' : firstK a k < 0) : firstK a (k + 1) = k := by unfold firstK; rw [if_pos h, if_pos h']
theorem firstK_old {a : A8} {k : Nat} (h : 0 < a.h k) (h' : 0 ≤ firstK a k) : firstK a (k + 1) = firstK a k := by
  show (if 0 < a.h k then (if firstK a k < 0 then (k : Int) else firstK a k) else firstK a k) = _
  rw [if_pos h, if_neg (by omega)]
theorem firstK_neg {a : A8} {k : Nat} (h : a.h k ≤ 0) : firstK a (k + 1) = firstK a k := by
  show (if 0 < a.h k then (if firstK a k < 0 then (k : Int) else firstK a k) else firstK a k) = _
  rw [if_neg (by omega)]
theorem heldK_true {a : A8} {k : Nat} (h : heldK a k = true) : true = heldK a (k + 1) := by
  show true = (heldK a k || _)
  rw [h]; rfl
theorem heldK_false {a : A8} {k : Nat} (h : heldK a k = false) : (a.h k == 9223372036854775807) = heldK a (k + 1) := by
  show _ = (heldK a k || _)
  rw [h]; rfl
def RRel (a : A8) (k : Nat) (d s f l : Value) : Prop := d = .bool (heldK a k) ∧ s = .int .i64 (sumK a k) ∧ f = .int .i64 (firstK a k) ∧ l = .int .i64 (highK a k) ∧ ∀ j, j < k → 0 ≤ a.h j
theorem sumK_in (a : A8) : ∀ k, R64 (sumK a k)
  | 0 => by unfold sumK R64; omega
  | k + 1 => plusW_in _ _
theorem below_more {a : A8} {k : Nat} (h : ∀ j, j < k → 0 ≤ a.h j) (hk : 0 ≤ a.h k) : ∀ j, j < k + 1 → 0 ≤ a.h j := fun j hj => by
  rcases Nat.lt_succ_iff_lt_or_eq.1 hj with h' | rfl
  · exact h j h'
  · exact hk

set_option maxHeartbeats 8000000 in
theorem rright_loop (ac as' amn amx a0 a1 a2 a3 : Int) (w : World) (B : Bool) (h0 : (ac == 0) = false) (h1 : 0 ≤ ac) (h2 : amn ≤ amx) (hr : R64 a0 ∧ R64 a1 ∧ R64 a2 ∧ R64 a3)
    (hb1 : ∀ k, k < 4 → A8.h ⟨ac, as', amn, amx, a0, a1, a2, a3⟩ k < 0 → B = false) (hb2 : (∀ k, k < 4 → 0 ≤ A8.h ⟨ac, as', amn, amx, a0, a1, a2, a3⟩ k) → heldK ⟨ac, as', amn, amx, a0, a1, a2, a3⟩ 4 = true → B = true)
    (hb3 : (∀ k, k < 4 → 0 ≤ A8.h ⟨ac, as', amn, amx, a0, a1, a2, a3⟩ k) → heldK ⟨ac, as', amn, amx, a0, a1, a2, a3⟩ 4 = false → B = decide (sumK ⟨ac, as', amn, amx, a0, a1, a2, a3⟩ 4 = ac ∧ firstK ⟨ac, as', amn, amx, a0, a1, a2, a3⟩ 4 = bucketW amn ∧ highK ⟨ac, as', amn, amx, a0, a1, a2, a3⟩ 4 = bucketW amx)) :
    Calls Try.prog 22 #[.agg #[.int .i64 ac, .int .i64 as', .int .i64 amn, .int .i64 amx, .int .i64 a0, .int .i64 a1, .int .i64 a2, .int .i64 a3]] w fun e w' => e = .returned (.bool B) ∧ Below w.heap.size w w' := by
  have HR := Lib.hid hr
  have H1 := Lib.hid hb1
  have H2 := Lib.hid hb2
  have H3 := Lib.hid hb3
  clear hr hb1 hb2 hb3
  go_enter Try.func22, Try.ntmps22
  go_wp2
  go_loop [3, 4, 5, 6, 7] (fun d s f l t => ∃ k : Nat, k ≤ 4 ∧ t = .int .i64 k ∧ RRel ⟨ac, as', amn, amx, a0, a1, a2, a3⟩ k d s f l) (fun _ _ _ _ t => 4 - (intOf t).toNat)
  case atStart => exact ⟨0, by omega, rfl, rfl, rfl, rfl, rfl, fun j hj => by omega⟩
  case round =>
    obtain ⟨k, hk, rfl, rfl, rfl, rfl, rfl, hall⟩ := hrel
    have Hall := Lib.hid hall
    clear hall
    rcases (by omega : k = 0 ∨ k = 1 ∨ k = 2 ∨ k = 3 ∨ k = 4) with rfl | rfl | rfl | rfl | rfl
    · by_cases hn : a0 < 0
      · go_wp2
        go_ret
        exact ⟨ret_bool (H1.out 0 (by omega) hn).symm, (Below.refl _ _).alloc (Nat.le_refl _) _⟩
      · have hn' : 0 ≤ a0 := by omega
        clear hn
        have hall' := below_more Hall.out hn'
        have Hall' := Lib.hid hall'
        clear hall'
        cases hh : heldK ⟨ac, as', amn, amx, a0, a1, a2, a3⟩ 0
        all_goals
          have Hh := Lib.hid hh
          clear hh
          go_wp2_with (go_at_call 11; refine (rplus_any _ a0 _ (sumK_in _ _) HR.out.1).mono ?_; rintro e w' ⟨rfl, rfl⟩)
          all_goals
            go_round
            case rel =>
              refine ⟨1, by omega, rfl, ?_, ret_v (show plusW _ a0 = _ from rfl), ?_, ?_, Hall'.out⟩
              · first | exact congrArg Value.bool (heldK_true Hh.out) | exact congrArg Value.bool (heldK_false Hh.out)
              · first | exact ret_v (firstK_pos (a := ⟨ac, as', amn, amx, a0, a1, a2, a3⟩) (k := 0) ‹_› ‹_›).symm | exact ret_v (firstK_old (a := ⟨ac, as', amn, amx, a0, a1, a2, a3⟩) (k := 0) ‹_› ‹_›).symm | exact ret_v (firstK_neg (a := ⟨ac, as', amn, amx, a0, a1, a2, a3⟩) (k := 0) ‹_›).symm
              · first | exact ret_v (highK_pos (a := ⟨ac, as', amn, amx, a0, a1, a2, a3⟩) (k := 0) ‹_›).symm | exact ret_v (highK_neg (a := ⟨ac, as', amn, amx, a0, a1, a2, a3⟩) (k := 0) ‹_›).symm
            case measure => simp [intOf]
    · by_cases hn : a1 < 0
      · go_wp2
        go_ret
        exact ⟨ret_bool (H1.out 1 (by omega) hn).symm, (Below.refl _ _).alloc (Nat.le_refl _) _⟩
      · have hn' : 0 ≤ a1 := by omega
        clear hn
        have hall' := below_more Hall.out hn'
        have Hall' := Lib.hid hall'
        clear hall'
        cases hh : heldK ⟨ac, as', amn, amx, a0, a1, a2, a3⟩ 1
        all_goals
          have Hh := Lib.hid hh
          clear hh
          go_wp2_with (go_at_call 11; refine (rplus_any _ a1 _ (sumK_in _ _) HR.out.2.1).mono ?_; rintro e w' ⟨rfl, rfl⟩)
          all_goals
            go_round
            case rel =>
              refine ⟨2, by omega, rfl, ?_, ret_v (show plusW _ a1 = _ from rfl), ?_, ?_, Hall'.out⟩
              · first | exact congrArg Value.bool (heldK_true Hh.out) | exact congrArg Value.bool (heldK_false Hh.out)
              · first | exact ret_v (firstK_pos (a := ⟨ac, as', amn, amx, a0, a1, a2, a3⟩) (k := 1) ‹_› ‹_›).symm | exact ret_v (firstK_old (a := ⟨ac, as', amn, amx, a0, a1, a2, a3⟩) (k := 1) ‹_› ‹_›).symm | exact ret_v (firstK_neg (a := ⟨ac, as', amn, amx, a0, a1, a2, a3⟩) (k := 1) ‹_›).symm
              · first | exact ret_v (highK_pos (a := ⟨ac, as', amn, amx, a0, a1, a2, a3⟩) (k := 1) ‹_›).symm | exact ret_v (highK_neg (a := ⟨ac, as', amn, amx, a0, a1, a2, a3⟩) (k := 1) ‹_›).symm
            case measure => simp [intOf]
    · by_cases hn : a2 < 0
      · go_wp2
        go_ret
        exact ⟨ret_bool (H1.out 2 (by omega) hn).symm, (Below.refl _ _).alloc (Nat.le_refl _) _⟩
      · have hn' : 0 ≤ a2 := by omega
        clear hn
        have hall' := below_more Hall.out hn'
        have Hall' := Lib.hid hall'
        clear hall'
        cases hh : heldK ⟨ac, as', amn, amx, a0, a1, a2, a3⟩ 2
        all_goals
          have Hh := Lib.hid hh
          clear hh
          go_wp2_with (go_at_call 11; refine (rplus_any _ a2 _ (sumK_in _ _) HR.out.2.2.1).mono ?_; rintro e w' ⟨rfl, rfl⟩)
          all_goals
            go_round
            case rel =>
              refine ⟨3, by omega, rfl, ?_, ret_v (show plusW _ a2 = _ from rfl), ?_, ?_, Hall'.out⟩
              · first | exact congrArg Value.bool (heldK_true Hh.out) | exact congrArg Value.bool (heldK_false Hh.out)
              · first | exact ret_v (firstK_pos (a := ⟨ac, as', amn, amx, a0, a1, a2, a3⟩) (k := 2) ‹_› ‹_›).symm | exact ret_v (firstK_old (a := ⟨ac, as', amn, amx, a0, a1, a2, a3⟩) (k := 2) ‹_› ‹_›).symm | exact ret_v (firstK_neg (a := ⟨ac, as', amn, amx, a0, a1, a2, a3⟩) (k := 2) ‹_›).symm
              · first | exact ret_v (highK_pos (a := ⟨ac, as', amn, amx, a0, a1, a2, a3⟩) (k := 2) ‹_›).symm | exact ret_v (highK_neg (a := ⟨ac, as', amn, amx, a0, a1, a2, a3⟩) (k := 2) ‹_›).symm
            case measure => simp [intOf]
    · by_cases hn : a3 < 0
      · go_wp2
        go_ret
        exact ⟨ret_bool (H1.out 3 (by omega) hn).symm, (Below.refl _ _).alloc (Nat.le_refl _) _⟩
      · have hn' : 0 ≤ a3 := by omega
        clear hn
        have hall' := below_more Hall.out hn'
        have Hall' := Lib.hid hall'
        clear hall'
        cases hh : heldK ⟨ac, as', amn, amx, a0, a1, a2, a3⟩ 3
        all_goals
          have Hh := Lib.hid hh
          clear hh
          go_wp2_with (go_at_call 11; refine (rplus_any _ a3 _ (sumK_in _ _) HR.out.2.2.2).mono ?_; rintro e w' ⟨rfl, rfl⟩)
          all_goals
            go_round
            case rel =>
              refine ⟨4, by omega, rfl, ?_, ret_v (show plusW _ a3 = _ from rfl), ?_, ?_, Hall'.out⟩
              · first | exact congrArg Value.bool (heldK_true Hh.out) | exact congrArg Value.bool (heldK_false Hh.out)
              · first | exact ret_v (firstK_pos (a := ⟨ac, as', amn, amx, a0, a1, a2, a3⟩) (k := 3) ‹_› ‹_›).symm | exact ret_v (firstK_old (a := ⟨ac, as', amn, amx, a0, a1, a2, a3⟩) (k := 3) ‹_› ‹_›).symm | exact ret_v (firstK_neg (a := ⟨ac, as', amn, amx, a0, a1, a2, a3⟩) (k := 3) ‹_›).symm
              · first | exact ret_v (highK_pos (a := ⟨ac, as', amn, amx, a0, a1, a2, a3⟩) (k := 3) ‹_›).symm | exact ret_v (highK_neg (a := ⟨ac, as', amn, amx, a0, a1, a2, a3⟩) (k := 3) ‹_›).symm
            case measure => simp [intOf]
    · generalize hS : sumK ⟨ac, as', amn, amx, a0, a1, a2, a3⟩ 4 = S4
      generalize hL : firstK ⟨ac, as', amn, amx, a0, a1, a2, a3⟩ 4 = L4
      generalize hH : highK ⟨ac, as', amn, amx, a0, a1, a2, a3⟩ 4 = H4
      have HS := Lib.hid hS
      have HL := Lib.hid hL
      have HH := Lib.hid hH
      clear hS hL hH
      cases hh : heldK ⟨ac, as', amn, amx, a0, a1, a2, a3⟩ 4
      · have hB := H3.out Hall.out hh
        have HB := Lib.hid hB
        clear hB hh
        cases h5 : (S4 == ac)
        · go_wp2
          go_ret
          refine ⟨?_, (Below.refl _ _).alloc (Nat.le_refl _) _⟩
          exact ret_bool (by rw [HB.out, HS.out, HL.out, HH.out]; rw [beq_eq_false_iff_ne] at h5; simp [h5])
        · cases h6 : (L4 == bucketW amn)
          · go_wp2_with (go_at_call 13; refine (rbucket_any amn _).mono ?_; rintro e w' ⟨rfl, rfl⟩)
            go_ret
            refine ⟨?_, (Below.refl _ _).alloc (Nat.le_refl _) _⟩
            exact ret_bool (by rw [HB.out, HS.out, HL.out, HH.out]; rw [beq_iff_eq] at h5; rw [beq_eq_false_iff_ne] at h6; simp [h5, h6])
          · go_wp2_with (first | (go_at_call_of 13 (Value.int .i64 amn); refine (rbucket_any amn _).mono ?_; rintro e w' ⟨rfl, rfl⟩) | (go_at_call_of 13 (Value.int .i64 amx); refine (rbucket_any amx _).mono ?_; rintro e w' ⟨rfl, rfl⟩))
            go_ret
            refine ⟨?_, (Below.refl _ _).alloc (Nat.le_refl _) _⟩
            exact ret_bool (by rw [HB.out, HS.out, HL.out, HH.out]; rw [beq_iff_eq] at h5 h6; rw [Bool.eq_iff_iff]; simp [h5, h6])
      · have hB := H2.out Hall.out hh
        have HB := Lib.hid hB
        clear hB hh
        go_wp2
        go_ret
        exact ⟨ret_bool HB.out.symm, (Below.refl _ _).alloc (Nat.le_refl _) _⟩
end Go.Proofs.Ytoiakejagmeliaa
