/-
  agg.Join in one contract; the walk of agg.Put. Printed by genPut.py.
-/
import Derived.Test.YtnjfjdfjheiocaaAggJK
import Derived.Test.YtnjfjdfjheiocaaAggJL
import Derived.Test.YtnjfjdfjheiocaaAggJM
import Derived.Test.YtnjfjdfjheiocaaMemB
set_option linter.unusedSimpArgs false
set_option linter.unusedVariables false
namespace Go.Proofs.Ytnjfjdfjheiocaa
open Go.RowKit

def jmn (ac bc amn bmn : Int) : Int := if ac = 0 then (if bc = 0 then 0 else bmn) else if bc = 0 then amn else mnI amn bmn
def jmx (ac bc amx bmx : Int) : Int := if ac = 0 then (if bc = 0 then 0 else bmx) else if bc = 0 then amx else mxI amx bmx
def hI (v k : Int) : Int := if bucketW v = k then 1 else 0

theorem join_any (ac as' amn amx a0 a1 a2 a3 bc bs bmn bmx b0 b1 b2 b3 : Int) (w : World) :
    Calls Try.prog 73 #[.agg #[.int .i64 ac, .int .i64 as', .int .i64 amn, .int .i64 amx, .int .i64 a0, .int .i64 a1, .int .i64 a2, .int .i64 a3], .agg #[.int .i64 bc, .int .i64 bs, .int .i64 bmn, .int .i64 bmx, .int .i64 b0, .int .i64 b1, .int .i64 b2, .int .i64 b3]] w fun e w' => e = .returned (.agg #[.int .i64 (plusW ac bc), .int .i64 (plusW as' bs), .int .i64 (jmn ac bc amn bmn), .int .i64 (jmx ac bc amx bmx), .int .i64 (plusW a0 b0), .int .i64 (plusW a1 b1), .int .i64 (plusW a2 b2), .int .i64 (plusW a3 b3)]) ∧ Below w.heap.size w w' := by
  by_cases ha : ac = 0 <;> by_cases hb : bc = 0
  · have e1 : jmn ac bc amn bmn = 0 := by unfold jmn; rw [if_pos ha, if_pos hb]
    have e2 : jmx ac bc amx bmx = 0 := by unfold jmx; rw [if_pos ha, if_pos hb]
    rw [e1, e2]
    exact join_zz ac as' amn amx a0 a1 a2 a3 bc bs bmn bmx b0 b1 b2 b3 w (beq_iff_eq.2 ha) (beq_iff_eq.2 hb)
  · have e1 : jmn ac bc amn bmn = bmn := by unfold jmn; rw [if_pos ha, if_neg hb]
    have e2 : jmx ac bc amx bmx = bmx := by unfold jmx; rw [if_pos ha, if_neg hb]
    rw [e1, e2]
    exact join_zn ac as' amn amx a0 a1 a2 a3 bc bs bmn bmx b0 b1 b2 b3 w (beq_iff_eq.2 ha) (beq_eq_false_iff_ne.2 hb)
  · have e1 : jmn ac bc amn bmn = amn := by unfold jmn; rw [if_neg ha, if_pos hb]
    have e2 : jmx ac bc amx bmx = amx := by unfold jmx; rw [if_neg ha, if_pos hb]
    rw [e1, e2]
    exact join_nz ac as' amn amx a0 a1 a2 a3 bc bs bmn bmx b0 b1 b2 b3 w (beq_eq_false_iff_ne.2 ha) (beq_iff_eq.2 hb)
  · have e1 : jmn ac bc amn bmn = mnI amn bmn := by unfold jmn; rw [if_neg ha, if_neg hb]
    have e2 : jmx ac bc amx bmx = mxI amx bmx := by unfold jmx; rw [if_neg ha, if_neg hb]
    rw [e1, e2]
    exact join_nn ac as' amn amx a0 a1 a2 a3 bc bs bmn bmx b0 b1 b2 b3 w (beq_eq_false_iff_ne.2 ha) (beq_eq_false_iff_ne.2 hb)

set_option maxHeartbeats 1000000 in
theorem put_0 (ac as' amn amx a0 a1 a2 a3 v : Int) (w : World) (hv : bucketW v = 0) :
    Calls Try.prog 64 #[.agg #[.int .i64 ac, .int .i64 as', .int .i64 amn, .int .i64 amx, .int .i64 a0, .int .i64 a1, .int .i64 a2, .int .i64 a3], .int .i64 v] w fun e w' => e = .returned (.agg #[.int .i64 (plusW ac 1), .int .i64 (plusW as' v), .int .i64 (jmn ac 1 amn v), .int .i64 (jmx ac 1 amx v), .int .i64 (plusW a0 (hI v 0)), .int .i64 (plusW a1 (hI v 1)), .int .i64 (plusW a2 (hI v 2)), .int .i64 (plusW a3 (hI v 3))]) ∧ Below w.heap.size w w' := by
  have hI0 : hI v 0 = 1 := by simp [hI, hv]
  have hI1 : hI v 1 = 0 := by simp [hI, hv]
  have hI2 : hI v 2 = 0 := by simp [hI, hv]
  have hI3 : hI v 3 = 0 := by simp [hI, hv]
  rw [hI0, hI1, hI2, hI3]
  clear hI0 hI1 hI2 hI3
  have Hv := Lib.hid hv
  clear hv
  go_enter Try.func64, Try.ntmps64
  go_wp2_with fail
  refine (bucket_any _ _).mono ?_
  rintro e w' ⟨rfl, rfl⟩
  rw [Hv.out]
  go_wp2_with fail
  refine (join_any _ _ _ _ _ _ _ _ _ _ _ _ _ _ _ _ _).mono ?_
  rintro e w' ⟨rfl, hb⟩
  have hB := (hb.block (w.heap.size + 1) (by simp)).trans (blk_old (blk_new (w.alloc _) (w.heap.size + 1) _ (by simp)))
  have hl : Below w.heap.size w w' := ((((Below.refl _ _).alloc (Nat.le_refl _) _).alloc (by simp) _).alloc (by simp; omega) _).trans (hb.mono (by simp; omega))
  clear hb
  have hc := cells_at hB
  have hf := thaw_at hB
  have HB := Lib.hid hB
  have HL := Lib.hid hl
  clear hB hl
  go_wp2
  clear hc hf
  have h8 := store8 HB.out HL.out (by omega) (.int .i64 (plusW ac 1)) (.int .i64 (plusW as' v)) (.int .i64 (jmn ac 1 amn v)) (.int .i64 (jmx ac 1 amx v)) (.int .i64 (plusW a0 1)) (.int .i64 (plusW a1 0)) (.int .i64 (plusW a2 0)) (.int .i64 (plusW a3 0))
  generalize (World.setCell (World.setCell (World.setCell (World.setCell (World.setCell (World.setCell (World.setCell (World.setCell _ _ _) _ _) _ _) _ _) _ _) _ _) _ _) _ _) = W5 at h8 ⊢
  have hc := cells_at h8.1
  exact bodyPost_ret (v := .agg #[.int .i64 (plusW ac 1), .int .i64 (plusW as' v), .int .i64 (jmn ac 1 amn v), .int .i64 (jmx ac 1 amx v), .int .i64 (plusW a0 1), .int .i64 (plusW a1 0), .int .i64 (plusW a2 0), .int .i64 (plusW a3 0)]) (by simp [results, Try.results64, go_sem, hc]) rfl ⟨rfl, h8.2⟩

set_option maxHeartbeats 1000000 in
theorem put_1 (ac as' amn amx a0 a1 a2 a3 v : Int) (w : World) (hv : bucketW v = 1) :
    Calls Try.prog 64 #[.agg #[.int .i64 ac, .int .i64 as', .int .i64 amn, .int .i64 amx, .int .i64 a0, .int .i64 a1, .int .i64 a2, .int .i64 a3], .int .i64 v] w fun e w' => e = .returned (.agg #[.int .i64 (plusW ac 1), .int .i64 (plusW as' v), .int .i64 (jmn ac 1 amn v), .int .i64 (jmx ac 1 amx v), .int .i64 (plusW a0 (hI v 0)), .int .i64 (plusW a1 (hI v 1)), .int .i64 (plusW a2 (hI v 2)), .int .i64 (plusW a3 (hI v 3))]) ∧ Below w.heap.size w w' := by
  have hI0 : hI v 0 = 0 := by simp [hI, hv]
  have hI1 : hI v 1 = 1 := by simp [hI, hv]
  have hI2 : hI v 2 = 0 := by simp [hI, hv]
  have hI3 : hI v 3 = 0 := by simp [hI, hv]
  rw [hI0, hI1, hI2, hI3]
  clear hI0 hI1 hI2 hI3
  have Hv := Lib.hid hv
  clear hv
  go_enter Try.func64, Try.ntmps64
  go_wp2_with fail
  refine (bucket_any _ _).mono ?_
  rintro e w' ⟨rfl, rfl⟩
  rw [Hv.out]
  go_wp2_with fail
  refine (join_any _ _ _ _ _ _ _ _ _ _ _ _ _ _ _ _ _).mono ?_
  rintro e w' ⟨rfl, hb⟩
  have hB := (hb.block (w.heap.size + 1) (by simp)).trans (blk_old (blk_new (w.alloc _) (w.heap.size + 1) _ (by simp)))
  have hl : Below w.heap.size w w' := ((((Below.refl _ _).alloc (Nat.le_refl _) _).alloc (by simp) _).alloc (by simp; omega) _).trans (hb.mono (by simp; omega))
  clear hb
  have hc := cells_at hB
  have hf := thaw_at hB
  have HB := Lib.hid hB
  have HL := Lib.hid hl
  clear hB hl
  go_wp2
  clear hc hf
  have h8 := store8 HB.out HL.out (by omega) (.int .i64 (plusW ac 1)) (.int .i64 (plusW as' v)) (.int .i64 (jmn ac 1 amn v)) (.int .i64 (jmx ac 1 amx v)) (.int .i64 (plusW a0 0)) (.int .i64 (plusW a1 1)) (.int .i64 (plusW a2 0)) (.int .i64 (plusW a3 0))
  generalize (World.setCell (World.setCell (World.setCell (World.setCell (World.setCell (World.setCell (World.setCell (World.setCell _ _ _) _ _) _ _) _ _) _ _) _ _) _ _) _ _) = W5 at h8 ⊢
  have hc := cells_at h8.1
  exact bodyPost_ret (v := .agg #[.int .i64 (plusW ac 1), .int .i64 (plusW as' v), .int .i64 (jmn ac 1 amn v), .int .i64 (jmx ac 1 amx v), .int .i64 (plusW a0 0), .int .i64 (plusW a1 1), .int .i64 (plusW a2 0), .int .i64 (plusW a3 0)]) (by simp [results, Try.results64, go_sem, hc]) rfl ⟨rfl, h8.2⟩

set_option maxHeartbeats 1000000 in
theorem put_2 (ac as' amn amx a0 a1 a2 a3 v : Int) (w : World) (hv : bucketW v = 2) :
    Calls Try.prog 64 #[.agg #[.int .i64 ac, .int .i64 as', .int .i64 amn, .int .i64 amx, .int .i64 a0, .int .i64 a1, .int .i64 a2, .int .i64 a3], .int .i64 v] w fun e w' => e = .returned (.agg #[.int .i64 (plusW ac 1), .int .i64 (plusW as' v), .int .i64 (jmn ac 1 amn v), .int .i64 (jmx ac 1 amx v), .int .i64 (plusW a0 (hI v 0)), .int .i64 (plusW a1 (hI v 1)), .int .i64 (plusW a2 (hI v 2)), .int .i64 (plusW a3 (hI v 3))]) ∧ Below w.heap.size w w' := by
  have hI0 : hI v 0 = 0 := by simp [hI, hv]
  have hI1 : hI v 1 = 0 := by simp [hI, hv]
  have hI2 : hI v 2 = 1 := by simp [hI, hv]
  have hI3 : hI v 3 = 0 := by simp [hI, hv]
  rw [hI0, hI1, hI2, hI3]
  clear hI0 hI1 hI2 hI3
  have Hv := Lib.hid hv
  clear hv
  go_enter Try.func64, Try.ntmps64
  go_wp2_with fail
  refine (bucket_any _ _).mono ?_
  rintro e w' ⟨rfl, rfl⟩
  rw [Hv.out]
  go_wp2_with fail
  refine (join_any _ _ _ _ _ _ _ _ _ _ _ _ _ _ _ _ _).mono ?_
  rintro e w' ⟨rfl, hb⟩
  have hB := (hb.block (w.heap.size + 1) (by simp)).trans (blk_old (blk_new (w.alloc _) (w.heap.size + 1) _ (by simp)))
  have hl : Below w.heap.size w w' := ((((Below.refl _ _).alloc (Nat.le_refl _) _).alloc (by simp) _).alloc (by simp; omega) _).trans (hb.mono (by simp; omega))
  clear hb
  have hc := cells_at hB
  have hf := thaw_at hB
  have HB := Lib.hid hB
  have HL := Lib.hid hl
  clear hB hl
  go_wp2
  clear hc hf
  have h8 := store8 HB.out HL.out (by omega) (.int .i64 (plusW ac 1)) (.int .i64 (plusW as' v)) (.int .i64 (jmn ac 1 amn v)) (.int .i64 (jmx ac 1 amx v)) (.int .i64 (plusW a0 0)) (.int .i64 (plusW a1 0)) (.int .i64 (plusW a2 1)) (.int .i64 (plusW a3 0))
  generalize (World.setCell (World.setCell (World.setCell (World.setCell (World.setCell (World.setCell (World.setCell (World.setCell _ _ _) _ _) _ _) _ _) _ _) _ _) _ _) _ _) = W5 at h8 ⊢
  have hc := cells_at h8.1
  exact bodyPost_ret (v := .agg #[.int .i64 (plusW ac 1), .int .i64 (plusW as' v), .int .i64 (jmn ac 1 amn v), .int .i64 (jmx ac 1 amx v), .int .i64 (plusW a0 0), .int .i64 (plusW a1 0), .int .i64 (plusW a2 1), .int .i64 (plusW a3 0)]) (by simp [results, Try.results64, go_sem, hc]) rfl ⟨rfl, h8.2⟩

set_option maxHeartbeats 1000000 in
theorem put_3 (ac as' amn amx a0 a1 a2 a3 v : Int) (w : World) (hv : bucketW v = 3) :
    Calls Try.prog 64 #[.agg #[.int .i64 ac, .int .i64 as', .int .i64 amn, .int .i64 amx, .int .i64 a0, .int .i64 a1, .int .i64 a2, .int .i64 a3], .int .i64 v] w fun e w' => e = .returned (.agg #[.int .i64 (plusW ac 1), .int .i64 (plusW as' v), .int .i64 (jmn ac 1 amn v), .int .i64 (jmx ac 1 amx v), .int .i64 (plusW a0 (hI v 0)), .int .i64 (plusW a1 (hI v 1)), .int .i64 (plusW a2 (hI v 2)), .int .i64 (plusW a3 (hI v 3))]) ∧ Below w.heap.size w w' := by
  have hI0 : hI v 0 = 0 := by simp [hI, hv]
  have hI1 : hI v 1 = 0 := by simp [hI, hv]
  have hI2 : hI v 2 = 0 := by simp [hI, hv]
  have hI3 : hI v 3 = 1 := by simp [hI, hv]
  rw [hI0, hI1, hI2, hI3]
  clear hI0 hI1 hI2 hI3
  have Hv := Lib.hid hv
  clear hv
  go_enter Try.func64, Try.ntmps64
  go_wp2_with fail
  refine (bucket_any _ _).mono ?_
  rintro e w' ⟨rfl, rfl⟩
  rw [Hv.out]
  go_wp2_with fail
  refine (join_any _ _ _ _ _ _ _ _ _ _ _ _ _ _ _ _ _).mono ?_
  rintro e w' ⟨rfl, hb⟩
  have hB := (hb.block (w.heap.size + 1) (by simp)).trans (blk_old (blk_new (w.alloc _) (w.heap.size + 1) _ (by simp)))
  have hl : Below w.heap.size w w' := ((((Below.refl _ _).alloc (Nat.le_refl _) _).alloc (by simp) _).alloc (by simp; omega) _).trans (hb.mono (by simp; omega))
  clear hb
  have hc := cells_at hB
  have hf := thaw_at hB
  have HB := Lib.hid hB
  have HL := Lib.hid hl
  clear hB hl
  go_wp2
  clear hc hf
  have h8 := store8 HB.out HL.out (by omega) (.int .i64 (plusW ac 1)) (.int .i64 (plusW as' v)) (.int .i64 (jmn ac 1 amn v)) (.int .i64 (jmx ac 1 amx v)) (.int .i64 (plusW a0 0)) (.int .i64 (plusW a1 0)) (.int .i64 (plusW a2 0)) (.int .i64 (plusW a3 1))
  generalize (World.setCell (World.setCell (World.setCell (World.setCell (World.setCell (World.setCell (World.setCell (World.setCell _ _ _) _ _) _ _) _ _) _ _) _ _) _ _) _ _) = W5 at h8 ⊢
  have hc := cells_at h8.1
  exact bodyPost_ret (v := .agg #[.int .i64 (plusW ac 1), .int .i64 (plusW as' v), .int .i64 (jmn ac 1 amn v), .int .i64 (jmx ac 1 amx v), .int .i64 (plusW a0 0), .int .i64 (plusW a1 0), .int .i64 (plusW a2 0), .int .i64 (plusW a3 1)]) (by simp [results, Try.results64, go_sem, hc]) rfl ⟨rfl, h8.2⟩

theorem bucket_cases (v : Int) : bucketW v = 0 ∨ bucketW v = 1 ∨ bucketW v = 2 ∨ bucketW v = 3 := by
  unfold bucketW; split <;> (try split) <;> (try split) <;> simp
theorem put_any (ac as' amn amx a0 a1 a2 a3 v : Int) (w : World) :
    Calls Try.prog 64 #[.agg #[.int .i64 ac, .int .i64 as', .int .i64 amn, .int .i64 amx, .int .i64 a0, .int .i64 a1, .int .i64 a2, .int .i64 a3], .int .i64 v] w fun e w' => e = .returned (.agg #[.int .i64 (plusW ac 1), .int .i64 (plusW as' v), .int .i64 (jmn ac 1 amn v), .int .i64 (jmx ac 1 amx v), .int .i64 (plusW a0 (hI v 0)), .int .i64 (plusW a1 (hI v 1)), .int .i64 (plusW a2 (hI v 2)), .int .i64 (plusW a3 (hI v 3))]) ∧ Below w.heap.size w w' := by
  rcases bucket_cases v with h | h | h | h
  · exact put_0 _ _ _ _ _ _ _ _ _ _ h
  · exact put_1 _ _ _ _ _ _ _ _ _ _ h
  · exact put_2 _ _ _ _ _ _ _ _ _ _ h
  · exact put_3 _ _ _ _ _ _ _ _ _ _ h
end Go.Proofs.Ytnjfjdfjheiocaa
