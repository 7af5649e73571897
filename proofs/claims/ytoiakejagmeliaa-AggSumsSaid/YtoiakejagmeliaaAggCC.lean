/-
  The law AggSums: the walk. Printed by genSums.py.
-/
import Derived.Test.YtoiakejagmeliaaAggAA
import Derived.Test.YtoiakejagmeliaaAggWk
import Derived.Test.YtoiakejagmeliaaMemT
import Derived.Deep.RegionHeld3
import Derived.Deep.QuietTactic
import Derived.BigQuiet
set_option linter.unusedSimpArgs false
set_option linter.unusedVariables false
namespace Go.Proofs.Ytoiakejagmeliaa
open Go.RowKit
attribute [local go_sem ↓] run_eq_agg

/-- The two boxed aggregates stand, and all below is as it was. -/
def SW (w : World) (A B : Array Value) (W : World) : Prop :=
  W.heap[w.heap.size]? = some (.cells A 24 (0, 0)) ∧ W.heap[w.heap.size + 1]? = some (.cells B 24 (0, 0)) ∧ Below w.heap.size w W
theorem SW.made (w : World) (A B : Array Value) : SW w A B ((w.alloc (.cells A 24)).alloc (.cells B 24)) :=
  ⟨blk_old (blk_new _ _ _ rfl), blk_new _ _ _ (by simp), ((Below.refl _ _).alloc (Nat.le_refl _) _).alloc (by simp) _⟩
theorem SW.drew {w W : World} {A B : Array Value} (h : SW w A B W) : SW w A B W.drew := ⟨h.1, h.2.1, h.2.2.drew⟩
theorem SW.call {w W W' : World} {A B : Array Value} (h : SW w A B W) (hb : Below W.heap.size W W') : SW w A B W' :=
  ⟨(hb.block _ (blk_lt h.1)).trans h.1, (hb.block _ (blk_lt h.2.1)).trans h.2.1, h.2.2.trans (hb.mono h.2.2.size)⟩
theorem put8_form (a : A8) (v : Int) : ∃ x0 x1 x2 x3 x4 x5 x6 x7 : Int, put8 a v = ⟨x0, x1, x2, x3, x4, x5, x6, x7⟩ := ⟨_, _, _, _, _, _, _, _, rfl⟩
theorem join8_form (a b : A8) : ∃ x0 x1 x2 x3 x4 x5 x6 x7 : Int, join8 a b = ⟨x0, x1, x2, x3, x4, x5, x6, x7⟩ := ⟨_, _, _, _, _, _, _, _, rfl⟩

set_option maxHeartbeats 4000000 in
theorem sums_law (ac as' amn amx a0 a1 a2 a3 bc bs bmn bmx b0 b1 b2 b3 v u : Int) (W0 : World) (ha : A8.ok ⟨ac, as', amn, amx, a0, a1, a2, a3⟩) (hb : A8.ok ⟨bc, bs, bmn, bmx, b0, b1, b2, b3⟩) (hv : R64 v) (hw : R64 u) :
    Calls Try.prog 3 #[.agg #[.int .i64 ac, .int .i64 as', .int .i64 amn, .int .i64 amx, .int .i64 a0, .int .i64 a1, .int .i64 a2, .int .i64 a3], .agg #[.int .i64 bc, .int .i64 bs, .int .i64 bmn, .int .i64 bmx, .int .i64 b0, .int .i64 b1, .int .i64 b2, .int .i64 b3], .int .i64 v, .int .i64 u] W0 fun e w' => e = .returned (.bool true) ∧ Below W0.heap.size W0 w' := by
  obtain ⟨x0, x1, x2, x3, x4, x5, x6, x7, hp⟩ := put8_form ⟨ac, as', amn, amx, a0, a1, a2, a3⟩ v
  obtain ⟨y0, y1, y2, y3, y4, y5, y6, y7, hj⟩ := join8_form ⟨ac, as', amn, amx, a0, a1, a2, a3⟩ ⟨bc, bs, bmn, bmx, b0, b1, b2, b3⟩
  have Hp := Lib.hid hp
  have Hj := Lib.hid hj
  have Ha := Lib.hid ha
  have Hb := Lib.hid hb
  have Hv := Lib.hid hv
  have Hw := Lib.hid hw
  clear hp hj ha hb hv hw
  go_enter Try.func3, Try.ntmps3
  go_wp2_with fail
  have hJ := SW.made W0 #[.int .i64 ac, .int .i64 as', .int .i64 amn, .int .i64 amx, .int .i64 a0, .int .i64 a1, .int .i64 a2, .int .i64 a3] #[.int .i64 bc, .int .i64 bs, .int .i64 bmn, .int .i64 bmx, .int .i64 b0, .int .i64 b1, .int .i64 b2, .int .i64 b3]
  generalize World.alloc (World.alloc _ _) _ = W at hJ ⊢
  have HJ := Lib.hid hJ
  clear hJ
  refine wp_region_held_drew (S := SW W0 #[.int .i64 ac, .int .i64 as', .int .i64 amn, .int .i64 amx, .int .i64 a0, .int .i64 a1, .int .i64 a2, .int .i64 a3] #[.int .i64 bc, .int .i64 bs, .int .i64 bmn, .int .i64 bmx, .int .i64 b0, .int .i64 b1, .int .i64 b2, .int .i64 b3]) (by kernel_rfl) HJ.out.drew (fun hHeld => ?_)
  refine take_at (i := 0) (v := ?_) rfl rfl (by kernel_rfl) (by kernel_rfl) (by kernel_rfl) (fun _ _ _ h => h) (Or.inl ⟨by rfl, ?_⟩) (by assumption) ?_
  rotate_left; (intro w hSw; (try dsimp only at hSw); go_simp; try with_reducible rfl)
  simp only [Act.put, List.setIfInBounds_toArray, List.set_cons_zero, List.set_cons_succ]
  refine take_at (i := 1) (v := ?_) rfl rfl (by kernel_rfl) (by kernel_rfl) (by kernel_rfl) (fun _ _ _ h => h) (Or.inl ⟨by rfl, ?_⟩) (by assumption) ?_
  rotate_left; (intro w hSw; (try dsimp only at hSw); go_simp; try with_reducible rfl)
  simp only [Act.put, List.setIfInBounds_toArray, List.set_cons_zero, List.set_cons_succ]
  refine gives_at (i := 2) (v := (.int .i64 (plusW v u))) rfl rfl (by kernel_rfl) (by kernel_rfl) (by kernel_rfl) (fun _ _ _ h => h) (Or.inl ⟨by rfl, ?_⟩) (by assumption) ?_
  · (intro w hSw; clear hSw; unfold Oper.quietAt; go_simp; refine (plus_any v u _).mono ?_; rintro e w' ⟨rfl, rfl⟩; exact ⟨rfl, rfl⟩)
  simp only [Act.put, List.setIfInBounds_toArray, List.set_cons_zero, List.set_cons_succ]
  refine take_at (i := 3) (v := ?_) rfl rfl (by kernel_rfl) (by kernel_rfl) (by kernel_rfl) (fun _ _ _ h => h) (Or.inl ⟨by rfl, ?_⟩) (by assumption) ?_
  rotate_left; (intro w hSw; (try dsimp only at hSw); go_simp; try with_reducible rfl)
  simp only [Act.put, List.setIfInBounds_toArray, List.set_cons_zero, List.set_cons_succ]
  refine take_at (i := 4) (v := ?_) rfl rfl (by kernel_rfl) (by kernel_rfl) (by kernel_rfl) (fun _ _ _ h => h) (Or.inl ⟨by rfl, ?_⟩) (by assumption) ?_
  rotate_left; (intro w hSw; (try dsimp only at hSw); go_simp; try with_reducible rfl)
  simp only [Act.put, List.setIfInBounds_toArray, List.set_cons_zero, List.set_cons_succ]
  refine gives_at (i := 5) (v := (.int .i64 (plusW v u))) rfl rfl (by kernel_rfl) (by kernel_rfl) (by kernel_rfl) (fun _ _ _ h => h) (Or.inl ⟨by rfl, ?_⟩) (by assumption) ?_
  · (intro w hSw; clear hSw; unfold Oper.quietAt; go_simp; refine (rplus_any v u _ Hv.out Hw.out).mono ?_; rintro e w' ⟨rfl, rfl⟩; exact ⟨rfl, rfl⟩)
  simp only [Act.put, List.setIfInBounds_toArray, List.set_cons_zero, List.set_cons_succ]
  refine take_at (i := 6) (v := ?_) rfl rfl (by kernel_rfl) (by kernel_rfl) (by kernel_rfl) (fun _ _ _ h => h) (Or.inl ⟨by rfl, ?_⟩) (by assumption) ?_
  rotate_left; (intro w hSw; (try dsimp only at hSw); go_simp; try with_reducible rfl)
  simp only [Act.put, List.setIfInBounds_toArray, List.set_cons_zero, List.set_cons_succ]
  refine take_at (i := 7) (v := ?_) rfl rfl (by kernel_rfl) (by kernel_rfl) (by kernel_rfl) (fun _ _ _ h => h) (Or.inl ⟨by rfl, ?_⟩) (by assumption) ?_
  rotate_left; (intro w hSw; (try dsimp only at hSw); go_simp; try with_reducible rfl)
  simp only [Act.put, List.setIfInBounds_toArray, List.set_cons_zero, List.set_cons_succ]
  refine take_at (i := 8) (v := ?_) rfl rfl (by kernel_rfl) (by kernel_rfl) (by kernel_rfl) (fun _ _ _ h => h) (Or.inl ⟨by rfl, ?_⟩) (by assumption) ?_
  rotate_left; (intro w hSw; (try dsimp only at hSw); go_simp; try with_reducible rfl)
  simp only [Act.put, List.setIfInBounds_toArray, List.set_cons_zero, List.set_cons_succ]
  refine gives_at (i := 9) (v := (.int .i64 (bucketW v))) rfl rfl (by kernel_rfl) (by kernel_rfl) (by kernel_rfl) (fun _ _ _ h => h) (Or.inl ⟨by rfl, ?_⟩) (by assumption) ?_
  · (intro w hSw; clear hSw; unfold Oper.quietAt; go_simp; refine (bucket_any v _).mono ?_; rintro e w' ⟨rfl, rfl⟩; exact ⟨rfl, rfl⟩)
  simp only [Act.put, List.setIfInBounds_toArray, List.set_cons_zero, List.set_cons_succ]
  refine take_at (i := 10) (v := ?_) rfl rfl (by kernel_rfl) (by kernel_rfl) (by kernel_rfl) (fun _ _ _ h => h) (Or.inl ⟨by rfl, ?_⟩) (by assumption) ?_
  rotate_left; (intro w hSw; (try dsimp only at hSw); go_simp; try with_reducible rfl)
  simp only [Act.put, List.setIfInBounds_toArray, List.set_cons_zero, List.set_cons_succ]
  refine gives_at (i := 11) (v := (.int .i64 (bucketW v))) rfl rfl (by kernel_rfl) (by kernel_rfl) (by kernel_rfl) (fun _ _ _ h => h) (Or.inl ⟨by rfl, ?_⟩) (by assumption) ?_
  · (intro w hSw; clear hSw; unfold Oper.quietAt; go_simp; refine (rbucket_any v _).mono ?_; rintro e w' ⟨rfl, rfl⟩; exact ⟨rfl, rfl⟩)
  simp only [Act.put, List.setIfInBounds_toArray, List.set_cons_zero, List.set_cons_succ]
  refine take_at (i := 12) (v := ?_) rfl rfl (by kernel_rfl) (by kernel_rfl) (by kernel_rfl) (fun _ _ _ h => h) (Or.inl ⟨by rfl, ?_⟩) (by assumption) ?_
  rotate_left; (intro w hSw; (try dsimp only at hSw); go_simp; try with_reducible rfl)
  simp only [Act.put, List.setIfInBounds_toArray, List.set_cons_zero, List.set_cons_succ]
  refine take_at (i := 13) (v := ?_) rfl rfl (by kernel_rfl) (by kernel_rfl) (by kernel_rfl) (fun _ _ _ h => h) (Or.inl ⟨by rfl, ?_⟩) (by assumption) ?_
  rotate_left; (intro w hSw; (try dsimp only at hSw); go_simp; try with_reducible rfl)
  simp only [Act.put, List.setIfInBounds_toArray, List.set_cons_zero, List.set_cons_succ]
  refine take_at (i := 14) (v := ?_) rfl rfl (by kernel_rfl) (by kernel_rfl) (by kernel_rfl) (fun _ _ _ h => h) (Or.inl ⟨by rfl, ?_⟩) (by assumption) ?_
  rotate_left; (intro w hSw; (try dsimp only at hSw); go_simp; try with_reducible rfl)
  simp only [Act.put, List.setIfInBounds_toArray, List.set_cons_zero, List.set_cons_succ]
  refine take_at (i := 15) (v := ?_) rfl rfl (by kernel_rfl) (by kernel_rfl) (by kernel_rfl) (fun _ _ _ h => h) (Or.inl ⟨by rfl, ?_⟩) (by assumption) ?_
  rotate_left; (intro w hSw; have hcA := cells_at hSw.1; have hcB := cells_at hSw.2.1; clear hSw; go_simp; try with_reducible rfl)
  simp only [Act.put, List.setIfInBounds_toArray, List.set_cons_zero, List.set_cons_succ]
  refine take_at (i := 16) (v := ?_) rfl rfl (by kernel_rfl) (by kernel_rfl) (by kernel_rfl) (fun _ _ _ h => h) (Or.inl ⟨by rfl, ?_⟩) (by assumption) ?_
  rotate_left; (intro w hSw; (try dsimp only at hSw); go_simp; try with_reducible rfl)
  simp only [Act.put, List.setIfInBounds_toArray, List.set_cons_zero, List.set_cons_succ]
  refine take_at (i := 18) (v := ?_) rfl rfl (by kernel_rfl) (by kernel_rfl) (by kernel_rfl) (fun _ _ _ h => h) (Or.inl ⟨by rfl, ?_⟩) (by assumption) ?_
  rotate_left; (intro w hSw; have hcA := cells_at hSw.1; have hcB := cells_at hSw.2.1; clear hSw; go_simp; try with_reducible rfl)
  simp only [Act.put, List.setIfInBounds_toArray, List.set_cons_zero, List.set_cons_succ]
  refine take_at (i := 19) (v := ?_) rfl rfl (by kernel_rfl) (by kernel_rfl) (by kernel_rfl) (fun _ _ _ h => h) (Or.inl ⟨by rfl, ?_⟩) (by assumption) ?_
  rotate_left; (intro w hSw; (try dsimp only at hSw); go_simp; try with_reducible rfl)
  simp only [Act.put, List.setIfInBounds_toArray, List.set_cons_zero, List.set_cons_succ]
  refine step_at (i := 17) (by kernel_rfl) rfl rfl (by rfl) (fun K hK => ?_)
  go_simp
  refine (put_8 ⟨ac, as', amn, amx, a0, a1, a2, a3⟩ v _).mono ?_
  rintro e w1 ⟨rfl, hb1⟩
  rw [Hp.out]
  unfold A8.arr
  dsimp only
  refine hK.out _ _ (hHeld.call hb1) (fun hHeld2 => ?_)
  clear hK K hHeld
  have hHeld := hHeld2
  clear hHeld2
  simp only [Act.put, List.setIfInBounds_toArray, List.set_cons_zero, List.set_cons_succ]
  clear hb1
  refine step_at (i := 20) (by kernel_rfl) rfl rfl (by rfl) (fun K hK => ?_)
  go_simp
  refine (rput_8 ⟨ac, as', amn, amx, a0, a1, a2, a3⟩ v _ Ha.out Hv.out).mono ?_
  rintro e w1 ⟨rfl, hb1⟩
  rw [Hp.out]
  unfold A8.arr
  dsimp only
  refine hK.out _ _ (hHeld.call hb1) (fun hHeld2 => ?_)
  clear hK K hHeld
  have hHeld := hHeld2
  clear hHeld2
  simp only [Act.put, List.setIfInBounds_toArray, List.set_cons_zero, List.set_cons_succ]
  clear hb1
  refine take_at (i := 21) (v := ?_) rfl rfl (by kernel_rfl) (by kernel_rfl) (by kernel_rfl) (fun _ _ _ h => h) (Or.inl ⟨by rfl, ?_⟩) (by assumption) ?_
  rotate_left; (intro w hSw; (try dsimp only at hSw); go_simp; try with_reducible rfl)
  simp only [Act.put, List.setIfInBounds_toArray, List.set_cons_zero, List.set_cons_succ]
  refine take_at (i := 22) (v := ?_) rfl rfl (by kernel_rfl) (by kernel_rfl) (by kernel_rfl) (fun _ _ _ h => h) (Or.inl ⟨by rfl, ?_⟩) (by assumption) ?_
  rotate_left; (intro w hSw; (try dsimp only at hSw); go_simp; try with_reducible rfl)
  simp only [Act.put, List.setIfInBounds_toArray, List.set_cons_zero, List.set_cons_succ]
  refine take_at (i := 23) (v := ?_) rfl rfl (by kernel_rfl) (by kernel_rfl) (by kernel_rfl) (fun _ _ _ h => h) (Or.inl ⟨by rfl, ?_⟩) (by assumption) ?_
  rotate_left; (intro w hSw; (try dsimp only at hSw); go_simp; try with_reducible rfl)
  simp only [Act.put, List.setIfInBounds_toArray, List.set_cons_zero, List.set_cons_succ]
  refine take_at (i := 24) (v := ?_) rfl rfl (by kernel_rfl) (by kernel_rfl) (by kernel_rfl) (fun _ _ _ h => h) (Or.inl ⟨by rfl, ?_⟩) (by assumption) ?_
  rotate_left; (intro w hSw; have hcA := cells_at hSw.1; have hcB := cells_at hSw.2.1; clear hSw; go_simp; try with_reducible rfl)
  simp only [Act.put, List.setIfInBounds_toArray, List.set_cons_zero, List.set_cons_succ]
  refine take_at (i := 25) (v := ?_) rfl rfl (by kernel_rfl) (by kernel_rfl) (by kernel_rfl) (fun _ _ _ h => h) (Or.inl ⟨by rfl, ?_⟩) (by assumption) ?_
  rotate_left; (intro w hSw; have hcA := cells_at hSw.1; have hcB := cells_at hSw.2.1; clear hSw; go_simp; try with_reducible rfl)
  simp only [Act.put, List.setIfInBounds_toArray, List.set_cons_zero, List.set_cons_succ]
  refine take_at (i := 27) (v := ?_) rfl rfl (by kernel_rfl) (by kernel_rfl) (by kernel_rfl) (fun _ _ _ h => h) (Or.inl ⟨by rfl, ?_⟩) (by assumption) ?_
  rotate_left; (intro w hSw; have hcA := cells_at hSw.1; have hcB := cells_at hSw.2.1; clear hSw; go_simp; try with_reducible rfl)
  simp only [Act.put, List.setIfInBounds_toArray, List.set_cons_zero, List.set_cons_succ]
  refine take_at (i := 28) (v := ?_) rfl rfl (by kernel_rfl) (by kernel_rfl) (by kernel_rfl) (fun _ _ _ h => h) (Or.inl ⟨by rfl, ?_⟩) (by assumption) ?_
  rotate_left; (intro w hSw; have hcA := cells_at hSw.1; have hcB := cells_at hSw.2.1; clear hSw; go_simp; try with_reducible rfl)
  simp only [Act.put, List.setIfInBounds_toArray, List.set_cons_zero, List.set_cons_succ]
  refine step_at (i := 26) (by kernel_rfl) rfl rfl (by rfl) (fun K hK => ?_)
  go_simp
  refine (join_8 ⟨ac, as', amn, amx, a0, a1, a2, a3⟩ ⟨bc, bs, bmn, bmx, b0, b1, b2, b3⟩ _).mono ?_
  rintro e w1 ⟨rfl, hb1⟩
  rw [Hj.out]
  unfold A8.arr
  dsimp only
  refine hK.out _ _ (hHeld.call hb1) (fun hHeld2 => ?_)
  clear hK K hHeld
  have hHeld := hHeld2
  clear hHeld2
  simp only [Act.put, List.setIfInBounds_toArray, List.set_cons_zero, List.set_cons_succ]
  clear hb1
  refine step_at (i := 29) (by kernel_rfl) rfl rfl (by rfl) (fun K hK => ?_)
  go_simp
  refine (rjoin_8 ⟨ac, as', amn, amx, a0, a1, a2, a3⟩ ⟨bc, bs, bmn, bmx, b0, b1, b2, b3⟩ _ Ha.out Hb.out).mono ?_
  rintro e w1 ⟨rfl, hb1⟩
  rw [Hj.out]
  unfold A8.arr
  dsimp only
  refine hK.out _ _ (hHeld.call hb1) (fun hHeld2 => ?_)
  clear hK K hHeld
  have hHeld := hHeld2
  clear hHeld2
  simp only [Act.put, List.setIfInBounds_toArray, List.set_cons_zero, List.set_cons_succ]
  clear hb1
  refine take_at (i := 30) (v := ?_) rfl rfl (by kernel_rfl) (by kernel_rfl) (by kernel_rfl) (fun _ _ _ h => h) (Or.inl ⟨by rfl, ?_⟩) (by assumption) ?_
  rotate_left; (intro w hSw; (try dsimp only at hSw); go_simp; try with_reducible rfl)
  simp only [Act.put, List.setIfInBounds_toArray, List.set_cons_zero, List.set_cons_succ]
  refine take_at (i := 31) (v := ?_) rfl rfl (by kernel_rfl) (by kernel_rfl) (by kernel_rfl) (fun _ _ _ h => h) (Or.inl ⟨by rfl, ?_⟩) (by assumption) ?_
  rotate_left; (intro w hSw; (try dsimp only at hSw); go_simp; try with_reducible rfl)
  simp only [Act.put, List.setIfInBounds_toArray, List.set_cons_zero, List.set_cons_succ]
  refine take_at (i := 32) (v := ?_) rfl rfl (by kernel_rfl) (by kernel_rfl) (by kernel_rfl) (fun _ _ _ h => h) (Or.inl ⟨by rfl, ?_⟩) (by assumption) ?_
  rotate_left; (intro w hSw; (try dsimp only at hSw); go_simp; try with_reducible rfl)
  simp only [Act.put, List.setIfInBounds_toArray, List.set_cons_zero, List.set_cons_succ]
  refine step_at (i := 33) (by kernel_rfl) rfl rfl (by rfl) (fun K hK => ?_)
  go_simp
  refine (wakes_any _).mono ?_
  rintro e w1 ⟨rfl, hb1⟩
  refine hK.out _ _ (hHeld.call hb1) (fun hHeld2 => ?_)
  clear hK K hHeld
  have hHeld := hHeld2
  clear hHeld2
  simp only [Act.put, List.setIfInBounds_toArray, List.set_cons_zero, List.set_cons_succ]
  clear hb1
  refine take_at (i := 34) (v := ?_) rfl rfl (by kernel_rfl) (by kernel_rfl) (by kernel_rfl) (fun _ _ _ h => h) (Or.inl ⟨by rfl, ?_⟩) (by assumption) ?_
  rotate_left; (intro w hSw; (try dsimp only at hSw); go_simp; try with_reducible rfl)
  simp only [Act.put, List.setIfInBounds_toArray, List.set_cons_zero, List.set_cons_succ]
  refine take_at (i := 35) (v := ?_) rfl rfl (by kernel_rfl) (by kernel_rfl) (by kernel_rfl) (fun _ _ _ h => h) (Or.inl ⟨by rfl, ?_⟩) (by assumption) ?_
  rotate_left; (intro w hSw; (try dsimp only at hSw); go_simp; try with_reducible rfl)
  simp only [Act.put, List.setIfInBounds_toArray, List.set_cons_zero, List.set_cons_succ]
  refine wpAnyH_done (by kernel_rfl) ?_ _
  have hbel := hHeld.2.2
  clear hHeld
  go_wp2
  go_ret
  exact ⟨rfl, hbel⟩
end Go.Proofs.Ytoiakejagmeliaa
