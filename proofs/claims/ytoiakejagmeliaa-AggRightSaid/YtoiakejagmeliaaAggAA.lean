/-
  The reference's Right answers as the program's; of nothing.
-/
import Derived.Test.YtoiakejagmeliaaAggZ
set_option linter.unusedSimpArgs false
set_option linter.unusedVariables false
namespace Go.Proofs.Ytoiakejagmeliaa
open Go.RowKit

theorem mn4_neg {a0 a1 a2 a3 : Int} : mn4 a0 a1 a2 a3 < 0 ↔ (a0 < 0 ∨ a1 < 0 ∨ a2 < 0 ∨ a3 < 0) := by
  unfold mn4 mnI; split <;> split <;> split <;> omega
theorem idx4_has {v a0 a1 a2 a3 : Int} : 0 ≤ idx4 v a0 a1 a2 a3 ↔ (v = a0 ∨ v = a1 ∨ v = a2 ∨ v = a3) := by
  unfold idx4; split <;> (try split) <;> (try split) <;> (try split) <;> omega
theorem bucket_in (v : Int) : 0 ≤ bucketW v ∧ bucketW v ≤ 3 := by
  rcases bucket_cases v with h | h | h | h <;> rw [h] <;> omega
theorem low_first (a : A8) (m : Int) : lowK a 4 = bucketW m ↔ firstK a 4 = bucketW m := by
  have hb := bucket_in m
  obtain ⟨c, s, mn, mx, h0, h1, h2, h3⟩ := a
  simp only [lowK, firstK, mnI, A8.h]
  by_cases k0 : 0 < h0 <;> by_cases k1 : 0 < h1 <;> by_cases k2 : 0 < h2 <;> by_cases k3 : 0 < h3 <;> simp [k0, k1, k2, k3] <;> omega
theorem rright_8 (a : A8) (w : World) (ha : a.ok) : Calls Try.prog 22 #[.agg a.arr] w fun e w' => e = .returned (.bool (rightB a)) ∧ Below w.heap.size w w' := by
  obtain ⟨ac, as', amn, amx, a0, a1, a2, a3⟩ := a
  obtain ⟨r0, r1, _, _, r4, r5, r6, r7⟩ := ha
  dsimp only at r0 r1 r4 r5 r6 r7
  by_cases h0 : ac = 0
  · refine (rright_zero ac as' amn amx a0 a1 a2 a3 w (beq_iff_eq.2 h0)).mono fun e w' ⟨he, hb⟩ => ⟨he.trans (ret_bool ?_), hb⟩
    unfold rightB
    dsimp only
    rw [if_pos h0]
    simp [h0]
  · have h0' := beq_eq_false_iff_ne.2 h0
    by_cases h1 : ac < 0
    · have e : rightB ⟨ac, as', amn, amx, a0, a1, a2, a3⟩ = false := by
        unfold rightB; dsimp only; rw [if_neg h0, if_pos (.inl h1)]
      rw [e]; exact rright_neg _ _ _ _ _ _ _ _ _ h0' h1
    · by_cases h2 : amx < amn
      · have e : rightB ⟨ac, as', amn, amx, a0, a1, a2, a3⟩ = false := by
          unfold rightB; dsimp only; rw [if_neg h0, if_pos (.inr (.inl h2))]
        rw [e]; exact rright_mm _ _ _ _ _ _ _ _ _ h0' (Int.not_lt.1 h1) h2
      · refine rright_loop ac as' amn amx a0 a1 a2 a3 w _ h0' (Int.not_lt.1 h1) (Int.not_lt.1 h2) ⟨r4, r5, r6, r7⟩ ?_ ?_ ?_
        · intro k hk hn
          have hm : mn4 a0 a1 a2 a3 < 0 := mn4_neg.2 (by
            rcases (by omega : k = 0 ∨ k = 1 ∨ k = 2 ∨ k = 3) with rfl | rfl | rfl | rfl
            · exact .inl hn
            · exact .inr (.inl hn)
            · exact .inr (.inr (.inl hn))
            · exact .inr (.inr (.inr hn)))
          unfold rightB; dsimp only
          rw [if_neg h0, if_pos (.inr (.inr hm))]
        · intro hall hh
          have k0 := hall 0 (by omega)
          have k1 := hall 1 (by omega)
          have k2 := hall 2 (by omega)
          have k3 := hall 3 (by omega)
          simp only [A8.h] at k0 k1 k2 k3
          unfold rightB; dsimp only
          simp [heldK, A8.h] at hh
          have hi : 0 ≤ idx4 9223372036854775807 a0 a1 a2 a3 := idx4_has.2 (by omega)
          have hm : ¬ mn4 a0 a1 a2 a3 < 0 := fun h => by have := mn4_neg.1 h; omega
          rw [if_neg h0, if_neg (by simp [h1, h2, hm]), if_pos hi]
        · intro hall hh
          have k0 := hall 0 (by omega)
          have k1 := hall 1 (by omega)
          have k2 := hall 2 (by omega)
          have k3 := hall 3 (by omega)
          simp only [A8.h] at k0 k1 k2 k3
          unfold rightB; dsimp only
          simp [heldK, A8.h] at hh
          have hi : ¬ 0 ≤ idx4 9223372036854775807 a0 a1 a2 a3 := fun h => by have := idx4_has.1 h; omega
          have hm : ¬ mn4 a0 a1 a2 a3 < 0 := fun h => by have := mn4_neg.1 h; omega
          rw [if_neg h0, if_neg (by simp [h1, h2, hm]), if_neg hi, decide_eq_decide, low_first]

set_option maxHeartbeats 1000000 in
theorem rof_nil (w : World) : Calls Try.prog 20 #[.slice none 0 0] w fun e w' => e = .returned (.agg (of8 []).arr) ∧ Below w.heap.size w w' := by
  go_enter Try.func20, Try.ntmps20
  go_wp2
  go_rounds 1
  exact bodyPost_ret (v := .agg #[.int .i64 0, .int .i64 0, .int .i64 0, .int .i64 0, .int .i64 0, .int .i64 0, .int .i64 0, .int .i64 0]) (by simp [results, Try.results20, go_sem]) rfl ⟨rfl, ((Below.refl _ _).alloc (Nat.le_refl _) _).alloc (by simp) _⟩

end Go.Proofs.Ytoiakejagmeliaa
