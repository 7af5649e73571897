/-
  The law AggLists: the walk. Printed by genLists.py.
-/
import Derived.Test.YtoiakejagmeliaaAggSt
import Derived.Test.YtoiakejagmeliaaMemT
import Derived.Deep.RegionHeld3
import Derived.Deep.QuietTactic
import Derived.BigQuiet
set_option linter.unusedSimpArgs false
set_option linter.unusedVariables false
namespace Go.Proofs.Ytoiakejagmeliaa
open Go.RowKit
attribute [local go_sem ↓] run_eq_agg

set_option maxHeartbeats 4000000 in
theorem lists_law (v : Value) (zs : List Int) (ac as' amn amx a0 a1 a2 a3 : Int) (W0 : World) (hs : SliceOf W0 v zs) (hl : zs.length ≤ maxLen) (hr : ∀ x, x ∈ zs → R64 x) (ha : A8.ok ⟨ac, as', amn, amx, a0, a1, a2, a3⟩) :
    Calls Try.prog 6 #[v, .agg #[.int .i64 ac, .int .i64 as', .int .i64 amn, .int .i64 amx, .int .i64 a0, .int .i64 a1, .int .i64 a2, .int .i64 a3]] W0 fun e w' => e = .returned (.bool true) ∧ Below W0.heap.size W0 w' := by
  obtain ⟨sa, cap, hv⟩ := hs.form
  subst hv
  have HS := Lib.hid hs
  have Hr := Lib.hid hr
  have Ha := Lib.hid ha
  clear hs hr ha
  unfold maxLen at hl
  by_cases hbig : 1000 < zs.length
  · go_enter Try.func6, Try.ntmps6
    go_wp2_with (go_at_call 18; refine (wakes_any _).mono ?_; rintro e w1 ⟨rfl, hb1⟩)
    go_ret
    exact ⟨rfl, ((St.init W0).alloc #[.int .i64 ac, .int .i64 as', .int .i64 amn, .int .i64 amx, .int .i64 a0, .int .i64 a1, .int .i64 a2, .int .i64 a3]).1.trans (hb1.mono (by simp))⟩
  · have hsm : zs.length ≤ 1000 := by omega
    clear hbig
    obtain ⟨x0, x1, x2, x3, x4, x5, x6, x7, hp⟩ := of8_form zs
    have Hp := Lib.hid hp
    clear hp
    go_enter Try.func6, Try.ntmps6
    go_wp2_with fail
    have hJ := (St.init W0).alloc #[.int .i64 ac, .int .i64 as', .int .i64 amn, .int .i64 amx, .int .i64 a0, .int .i64 a1, .int .i64 a2, .int .i64 a3]
    generalize World.alloc _ _ = W at hJ ⊢
    have HJ := Lib.hid hJ
    clear hJ
    refine wp_region_held_drew (S := St W0 [(W0.heap.size, #[.int .i64 ac, .int .i64 as', .int .i64 amn, .int .i64 amx, .int .i64 a0, .int .i64 a1, .int .i64 a2, .int .i64 a3])]) (by kernel_rfl) HJ.out.drew (fun hHeld => ?_)
    refine take_at (i := 0) (v := ?_) rfl rfl (by kernel_rfl) (by kernel_rfl) (by kernel_rfl) (fun _ _ _ h => h) (Or.inl ⟨by rfl, ?_⟩) (by assumption) ?_
    rotate_left; (intro w hSw; (try dsimp only at hSw); go_simp; try with_reducible rfl)
    simp only [Act.put, List.setIfInBounds_toArray, List.set_cons_zero, List.set_cons_succ]
    refine take_at (i := 2) (v := ?_) rfl rfl (by kernel_rfl) (by kernel_rfl) (by kernel_rfl) (fun _ _ _ h => h) (Or.inl ⟨by rfl, ?_⟩) (by assumption) ?_
    rotate_left; (intro w hSw; (try dsimp only at hSw); go_simp; try with_reducible rfl)
    simp only [Act.put, List.setIfInBounds_toArray, List.set_cons_zero, List.set_cons_succ]
    refine step_at (i := 1) (by kernel_rfl) rfl rfl (by rfl) (fun K hK => ?_)
    go_simp
    refine (of_list (hHeld.list HS.out) (by omega)).mono ?_
    rintro e w1 ⟨rfl, hb1⟩
    rw [Hp.out]
    unfold A8.arr
    dsimp only
    refine hK.out _ _ (hHeld.call hb1) (fun hHeld2 => ?_)
    clear hK K hHeld
    have hHeld := hHeld2
    clear hHeld2
    simp only [Act.put, List.setIfInBounds_toArray, List.set_cons_zero, List.set_cons_succ]
    clear hb1
    refine step_at (i := 3) (by kernel_rfl) rfl rfl (by rfl) (fun K hK => ?_)
    go_simp
    refine (rof_list (hHeld.list HS.out) (by omega) Hr.out).mono ?_
    rintro e w1 ⟨rfl, hb1⟩
    rw [Hp.out]
    unfold A8.arr
    dsimp only
    refine hK.out _ _ (hHeld.call hb1) (fun hHeld2 => ?_)
    clear hK K hHeld
    have hHeld := hHeld2
    clear hHeld2
    simp only [Act.put, List.setIfInBounds_toArray, List.set_cons_zero, List.set_cons_succ]
    clear hb1
    refine take_at (i := 4) (v := ?_) rfl rfl (by kernel_rfl) (by kernel_rfl) (by kernel_rfl) (fun _ _ _ h => h) (Or.inl ⟨by rfl, ?_⟩) (by assumption) ?_
    rotate_left; (intro w hSw; (try dsimp only at hSw); go_simp; try with_reducible rfl)
    simp only [Act.put, List.setIfInBounds_toArray, List.set_cons_zero, List.set_cons_succ]
    refine take_at (i := 5) (v := ?_) rfl rfl (by kernel_rfl) (by kernel_rfl) (by kernel_rfl) (fun _ _ _ h => h) (Or.inl ⟨by rfl, ?_⟩) (by assumption) ?_
    rotate_left; (intro w hSw; (try dsimp only at hSw); go_simp; try with_reducible rfl)
    simp only [Act.put, List.setIfInBounds_toArray, List.set_cons_zero, List.set_cons_succ]
    refine take_at (i := 6) (v := ?_) rfl rfl (by kernel_rfl) (by kernel_rfl) (by kernel_rfl) (fun _ _ _ h => h) (Or.inl ⟨by rfl, ?_⟩) (by assumption) ?_
    rotate_left; (intro w hSw; have hcA := hSw.cells W0.heap.size #[.int .i64 ac, .int .i64 as', .int .i64 amn, .int .i64 amx, .int .i64 a0, .int .i64 a1, .int .i64 a2, .int .i64 a3] (by simp); clear hSw; go_simp; try with_reducible rfl)
    simp only [Act.put, List.setIfInBounds_toArray, List.set_cons_zero, List.set_cons_succ]
    refine take_at (i := 8) (v := ?_) rfl rfl (by kernel_rfl) (by kernel_rfl) (by kernel_rfl) (fun _ _ _ h => h) (Or.inl ⟨by rfl, ?_⟩) (by assumption) ?_
    rotate_left; (intro w hSw; have hcA := hSw.cells W0.heap.size #[.int .i64 ac, .int .i64 as', .int .i64 amn, .int .i64 amx, .int .i64 a0, .int .i64 a1, .int .i64 a2, .int .i64 a3] (by simp); clear hSw; go_simp; try with_reducible rfl)
    simp only [Act.put, List.setIfInBounds_toArray, List.set_cons_zero, List.set_cons_succ]
    refine step_at (i := 7) (by kernel_rfl) rfl rfl (by rfl) (fun K hK => ?_)
    go_simp
    refine (right_8 ⟨ac, as', amn, amx, a0, a1, a2, a3⟩ _).mono ?_
    rintro e w1 ⟨rfl, hb1⟩
    refine hK.out _ _ (hHeld.call hb1) (fun hHeld2 => ?_)
    clear hK K hHeld
    have hHeld := hHeld2
    clear hHeld2
    simp only [Act.put, List.setIfInBounds_toArray, List.set_cons_zero, List.set_cons_succ]
    clear hb1
    refine step_at (i := 9) (by kernel_rfl) rfl rfl (by rfl) (fun K hK => ?_)
    go_simp
    refine (rright_8 ⟨ac, as', amn, amx, a0, a1, a2, a3⟩ _ Ha.out).mono ?_
    rintro e w1 ⟨rfl, hb1⟩
    refine hK.out _ _ (hHeld.call hb1) (fun hHeld2 => ?_)
    clear hK K hHeld
    have hHeld := hHeld2
    clear hHeld2
    simp only [Act.put, List.setIfInBounds_toArray, List.set_cons_zero, List.set_cons_succ]
    clear hb1
    refine take_at (i := 10) (v := ?_) rfl rfl (by kernel_rfl) (by kernel_rfl) (by kernel_rfl) (fun _ _ _ h => h) (Or.inl ⟨by rfl, ?_⟩) (by assumption) ?_
    rotate_left; (intro w hSw; (try dsimp only at hSw); go_simp; try with_reducible rfl)
    simp only [Act.put, List.setIfInBounds_toArray, List.set_cons_zero, List.set_cons_succ]
    refine take_at (i := 11) (v := ?_) rfl rfl (by kernel_rfl) (by kernel_rfl) (by kernel_rfl) (fun _ _ _ h => h) (Or.inl ⟨by rfl, ?_⟩) (by assumption) ?_
    rotate_left; (intro w hSw; (try dsimp only at hSw); go_simp; try with_reducible rfl)
    simp only [Act.put, List.setIfInBounds_toArray, List.set_cons_zero, List.set_cons_succ]
    refine take_at (i := 12) (v := ?_) rfl rfl (by kernel_rfl) (by kernel_rfl) (by kernel_rfl) (fun _ _ _ h => h) (Or.inl ⟨by rfl, ?_⟩) (by assumption) ?_
    rotate_left; (intro w hSw; (try dsimp only at hSw); go_simp; try with_reducible rfl)
    simp only [Act.put, List.setIfInBounds_toArray, List.set_cons_zero, List.set_cons_succ]
    refine step_at (i := 13) (by kernel_rfl) rfl rfl (by rfl) (fun K hK => ?_)
    go_simp
    refine (wakes_any _).mono ?_
    rintro e w1 ⟨rfl, hb1⟩
    refine hK.out _ _ (hHeld.call hb1) (fun hHeld2 => ?_)
    clear hK K hHeld
    have hHeld := hHeld2
    clear hHeld2
    simp only [Act.put, List.setIfInBounds_toArray, List.set_cons_zero, List.set_cons_succ]
    clear hb1
    refine take_at (i := 14) (v := ?_) rfl rfl (by kernel_rfl) (by kernel_rfl) (by kernel_rfl) (fun _ _ _ h => h) (Or.inl ⟨by rfl, ?_⟩) (by assumption) ?_
    rotate_left; (intro w hSw; (try dsimp only at hSw); go_simp; try with_reducible rfl)
    simp only [Act.put, List.setIfInBounds_toArray, List.set_cons_zero, List.set_cons_succ]
    refine take_at (i := 15) (v := ?_) rfl rfl (by kernel_rfl) (by kernel_rfl) (by kernel_rfl) (fun _ _ _ h => h) (Or.inl ⟨by rfl, ?_⟩) (by assumption) ?_
    rotate_left; (intro w hSw; (try dsimp only at hSw); go_simp; try with_reducible rfl)
    simp only [Act.put, List.setIfInBounds_toArray, List.set_cons_zero, List.set_cons_succ]
    refine wpAnyH_done (by kernel_rfl) ?_ _
    have hbel := hHeld.1
    clear hHeld
    go_wp2
    go_ret
    exact ⟨rfl, hbel⟩
end Go.Proofs.Ytoiakejagmeliaa
