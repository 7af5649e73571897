/-
  The law AggHeld: the walk.
-/
import Derived.Test.YtoiakejagmeliaaAggWk
set_option linter.unusedSimpArgs false
set_option linter.unusedVariables false
namespace Go.Proofs.Ytoiakejagmeliaa
open Go.RowKit

theorem plusW_comm (a b : Int) : plusW a b = plusW b a := by
  unfold plusW
  rw [Int.add_comm b a]
  have e1 : (0 < b ∧ 0 < a ∧ wrap64 (a + b) < 0) = (0 < a ∧ 0 < b ∧ wrap64 (a + b) < 0) := propext ⟨fun h => ⟨h.2.1, h.1, h.2.2⟩, fun h => ⟨h.2.1, h.1, h.2.2⟩⟩
  have e2 : (b < 0 ∧ a < 0 ∧ 0 ≤ wrap64 (a + b)) = (a < 0 ∧ b < 0 ∧ 0 ≤ wrap64 (a + b)) := propext ⟨fun h => ⟨h.2.1, h.1, h.2.2⟩, fun h => ⟨h.2.1, h.1, h.2.2⟩⟩
  simp only [e1, e2]
theorem plusW_mono {a b c : Int} (ha : R64 a) (hb : R64 b) (hc : R64 c) (h : b ≤ c) : plusW a b ≤ plusW a c := by
  unfold R64 at ha hb hc; unfold plusW wrap64
  split <;> split <;> (try split) <;> (try split) <;> omega
theorem held_f {a b : Int} (ha : R64 a) (hb : R64 b) (h1 : 0 ≤ a) (h2 : 0 ≤ b) : a ≤ plusW a b ∧ plusW a b ≤ 9223372036854775807 ∧ a ≤ 9223372036854775807 ∧ (plusW a b < 9223372036854775807 → plusW a b - a = b) ∧ (plusW a b = 9223372036854775807 → 9223372036854775807 - a ≤ b) := by
  unfold R64 at ha hb; unfold plusW wrap64
  split
  · omega
  · split <;> omega
theorem held_g {a b : Int} (ha : R64 a) (hb : R64 b) (h1 : a < 0) (h2 : b < 0) : plusW a b ≤ a ∧ -9223372036854775808 ≤ plusW a b ∧ -9223372036854775808 ≤ a ∧ (-9223372036854775808 < plusW a b → plusW a b - a = b) ∧ (plusW a b = -9223372036854775808 → b ≤ -9223372036854775808 - a) := by
  unfold R64 at ha hb; unfold plusW wrap64
  split
  · omega
  · split <;> omega
theorem held_d {a b : Int} (ha : R64 a) (hb : R64 b) (h1 : ¬ (0 ≤ a ∧ 0 ≤ b)) (h2 : ¬ (a < 0 ∧ b < 0)) : plusW a b - a = b ∧ wrap64 (plusW a b - a) = b := by
  unfold R64 at ha hb; unfold plusW wrap64
  rw [if_neg (by omega), if_neg (by omega)]; omega

set_option maxHeartbeats 4000000 in
theorem held_law (a b c : Int) (w : World) (ha : R64 a) (hb : R64 b) (hc : R64 c) :
    Calls Try.prog 4 #[.int .i64 a, .int .i64 b, .int .i64 c] w fun e w' => e = .returned (.bool true) ∧ Below w.heap.size w w' := by
  have Ha := Lib.hid ha
  have Hb := Lib.hid hb
  have e1 := plusW_comm b a
  have e2 := plusW0 ha
  have e3 : c < b ∨ (b ≤ c ∧ plusW a b ≤ plusW a c) := by
    by_cases h : c < b
    · exact .inl h
    · exact .inr ⟨by omega, plusW_mono ha hb hc (by omega)⟩
  clear ha hb hc
  by_cases hp : 0 ≤ a ∧ 0 ≤ b
  · obtain ⟨p1, p2⟩ := hp
    have HF := Lib.hid (held_f Ha.out Hb.out p1 p2)
    rcases e3 with e3 | ⟨e3, e4⟩
    all_goals
      go_enter Try.func4, Try.ntmps4
      go_wp2_with (first | (go_at_call 10; refine (plus_any _ _ _).mono ?_; rintro e w' ⟨rfl, rfl⟩) | (go_at_call 18; refine (wakes_any _).mono ?_; rintro e w' ⟨rfl, hbel⟩))
      all_goals first
        | (exfalso; have := HF.out; omega)
        | (go_ret; exact ⟨rfl, ‹_›⟩)
        | (go_ret; exact ⟨ret_bool (by simp; omega), ‹_›⟩)
  · by_cases hn : a < 0 ∧ b < 0
    · obtain ⟨p1, p2⟩ := hn
      clear hp
      have HF := Lib.hid (held_g Ha.out Hb.out p1 p2)
      rcases e3 with e3 | ⟨e3, e4⟩
      all_goals
        go_enter Try.func4, Try.ntmps4
        go_wp2_with (first | (go_at_call 10; refine (plus_any _ _ _).mono ?_; rintro e w' ⟨rfl, rfl⟩) | (go_at_call 18; refine (wakes_any _).mono ?_; rintro e w' ⟨rfl, hbel⟩))
        all_goals first
          | (exfalso; have := HF.out; omega)
          | (go_ret; exact ⟨rfl, ‹_›⟩)
          | (go_ret; exact ⟨ret_bool (by simp; omega), ‹_›⟩)
    · have e5 : (wrap64 (plusW a b - a) != b) = false := by rw [bne_eq_false_iff_eq]; exact (held_d Ha.out Hb.out hp hn).2
      have HF := Lib.hid (held_d Ha.out Hb.out hp hn)
      have hs : (0 ≤ a ∧ b < 0) ∨ (a < 0 ∧ 0 ≤ b) := by omega
      clear hp hn
      rcases hs with ⟨p1, p2⟩ | ⟨p1, p2⟩
      all_goals
        rcases e3 with e3 | ⟨e3, e4⟩
        all_goals
          go_enter Try.func4, Try.ntmps4
          go_wp2_with (first | (go_at_call 10; refine (plus_any _ _ _).mono ?_; rintro e w' ⟨rfl, rfl⟩) | (go_at_call 18; refine (wakes_any _).mono ?_; rintro e w' ⟨rfl, hbel⟩))
          all_goals first
            | (exfalso; have := HF.out; omega)
            | (go_ret; exact ⟨rfl, ‹_›⟩)
            | (go_ret; exact ⟨ret_bool (by simp; omega), ‹_›⟩)
end Go.Proofs.Ytoiakejagmeliaa
