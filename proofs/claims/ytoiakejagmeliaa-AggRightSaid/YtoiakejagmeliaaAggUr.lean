/-
  The reference's Put and Join in one contract each, over aggregates as records.
-/
import Derived.Test.YtoiakejagmeliaaAggU
import Derived.Test.YtoiakejagmeliaaAggS
import Derived.Test.YtoiakejagmeliaaAggSa
import Derived.Test.YtoiakejagmeliaaAggSb
import Derived.Test.YtoiakejagmeliaaAggSc
import Derived.Test.YtoiakejagmeliaaAggSd
import Derived.Test.YtoiakejagmeliaaAggSe
import Derived.Test.YtoiakejagmeliaaAggSf
import Derived.Test.YtoiakejagmeliaaAggT
import Derived.Test.YtoiakejagmeliaaAggTa
import Derived.Test.YtoiakejagmeliaaAggTb
import Derived.Test.YtoiakejagmeliaaAggTc
set_option linter.unusedSimpArgs false
set_option linter.unusedVariables false
namespace Go.Proofs.Ytoiakejagmeliaa
open Go.RowKit

theorem rput_8 (a : A8) (v : Int) (w : World) (ha : a.ok) (hv : R64 v) : Calls Try.prog 15 #[.agg a.arr, .int .i64 v] w fun e w' => e = .returned (.agg (put8 a v).arr) ∧ Below w.heap.size w w' := by
  obtain ⟨h0, h1, h2, h3, h4, h5, h6, h7⟩ := ha
  rcases bucket_cases v with h | h | h | h
  · exact rput_0 _ _ _ _ _ _ _ _ _ _ h ⟨h0, h1, hv, h4, h5, h6, h7⟩
  · exact rput_1 _ _ _ _ _ _ _ _ _ _ h ⟨h0, h1, hv, h4, h5, h6, h7⟩
  · exact rput_2 _ _ _ _ _ _ _ _ _ _ h ⟨h0, h1, hv, h4, h5, h6, h7⟩
  · exact rput_3 _ _ _ _ _ _ _ _ _ _ h ⟨h0, h1, hv, h4, h5, h6, h7⟩
theorem rjoin_8 (a b : A8) (w : World) (ha : a.ok) (hb : b.ok) : Calls Try.prog 17 #[.agg a.arr, .agg b.arr] w fun e w' => e = .returned (.agg (join8 a b).arr) ∧ Below w.heap.size w w' := by
  obtain ⟨ac, as', amn, amx, a0, a1, a2, a3⟩ := a
  obtain ⟨bc, bs, bmn, bmx, b0, b1, b2, b3⟩ := b
  obtain ⟨h0, h1, _, _, h4, h5, h6, h7⟩ := ha
  obtain ⟨k0, k1, _, _, k4, k5, k6, k7⟩ := hb
  unfold join8 A8.arr
  dsimp only at *
  have hr : R64 ac ∧ R64 as' ∧ R64 a0 ∧ R64 a1 ∧ R64 a2 ∧ R64 a3 ∧ R64 bc ∧ R64 bs ∧ R64 b0 ∧ R64 b1 ∧ R64 b2 ∧ R64 b3 := ⟨h0, h1, h4, h5, h6, h7, k0, k1, k4, k5, k6, k7⟩
  by_cases ha : ac = 0 <;> by_cases hb : bc = 0
  · have e1 : jmn ac bc amn bmn = 0 := by unfold jmn; rw [if_pos ha, if_pos hb]
    have e2 : jmx ac bc amx bmx = 0 := by unfold jmx; rw [if_pos ha, if_pos hb]
    rw [e1, e2]
    exact rjoin_zz ac as' amn amx a0 a1 a2 a3 bc bs bmn bmx b0 b1 b2 b3 w (beq_iff_eq.2 ha) (beq_iff_eq.2 hb) hr
  · have e1 : jmn ac bc amn bmn = bmn := by unfold jmn; rw [if_pos ha, if_neg hb]
    have e2 : jmx ac bc amx bmx = bmx := by unfold jmx; rw [if_pos ha, if_neg hb]
    rw [e1, e2]
    exact rjoin_zn ac as' amn amx a0 a1 a2 a3 bc bs bmn bmx b0 b1 b2 b3 w (beq_iff_eq.2 ha) (beq_eq_false_iff_ne.2 hb) hr
  · have e1 : jmn ac bc amn bmn = amn := by unfold jmn; rw [if_neg ha, if_pos hb]
    have e2 : jmx ac bc amx bmx = amx := by unfold jmx; rw [if_neg ha, if_pos hb]
    rw [e1, e2]
    exact rjoin_nz ac as' amn amx a0 a1 a2 a3 bc bs bmn bmx b0 b1 b2 b3 w (beq_eq_false_iff_ne.2 ha) (beq_iff_eq.2 hb) hr
  · have e1 : jmn ac bc amn bmn = mnI amn bmn := by unfold jmn; rw [if_neg ha, if_neg hb]
    have e2 : jmx ac bc amx bmx = mxI amx bmx := by unfold jmx; rw [if_neg ha, if_neg hb]
    rw [e1, e2]
    unfold mnI mxI
    split <;> split
    · exact rjoin_nn00 ac as' amn amx a0 a1 a2 a3 bc bs bmn bmx b0 b1 b2 b3 w (beq_eq_false_iff_ne.2 ha) (beq_eq_false_iff_ne.2 hb) (by assumption) (by assumption) hr
    · exact rjoin_nn01 ac as' amn amx a0 a1 a2 a3 bc bs bmn bmx b0 b1 b2 b3 w (beq_eq_false_iff_ne.2 ha) (beq_eq_false_iff_ne.2 hb) (by assumption) (by omega) hr
    · exact rjoin_nn10 ac as' amn amx a0 a1 a2 a3 bc bs bmn bmx b0 b1 b2 b3 w (beq_eq_false_iff_ne.2 ha) (beq_eq_false_iff_ne.2 hb) (by omega) (by assumption) hr
    · exact rjoin_nn11 ac as' amn amx a0 a1 a2 a3 bc bs bmn bmx b0 b1 b2 b3 w (beq_eq_false_iff_ne.2 ha) (beq_eq_false_iff_ne.2 hb) (by omega) (by omega) hr
end Go.Proofs.Ytoiakejagmeliaa
