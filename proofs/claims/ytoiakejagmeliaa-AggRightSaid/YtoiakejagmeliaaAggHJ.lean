/-
  The law AggRight: the empty list, and all together. Printed by genRightE.py.
-/
import Derived.Test.YtoiakejagmeliaaAggHI
import Derived.Test.YtoiakejagmeliaaAggEE
set_option linter.unusedSimpArgs false
set_option linter.unusedVariables false
namespace Go.Proofs.Ytoiakejagmeliaa
open Go.RowKit
attribute [local go_sem ↓] run_eq_agg

theorem z_join : join8 ⟨0, 0, 0, 0, 0, 0, 0, 0⟩ ⟨0, 0, 0, 0, 0, 0, 0, 0⟩ = ⟨0, 0, 0, 0, 0, 0, 0, 0⟩ := by kernel_rfl

set_option maxRecDepth 100000 in
set_option maxHeartbeats 2000000 in
theorem agg_right_nil  (at' : Int) (wc : World) :
    Calls Try.prog 7 #[.slice none 0 0, .int .i64 at'] wc fun e w' => e = .returned (.bool true) ∧ Below wc.heap.size wc w' := by
  have HST := Lib.hid (St.init wc)
  go_enter Try.func7, Try.ntmps7
  go_wp2_with fail
  refine wp_loop_rounds 1 ?_
  rw [rounds_succ]
  go_wp2_with fail
  refine (of_empty _ _ _).mono ?_
  rintro e u0 ⟨rfl, hb⟩
  rw [k_of2]
  have hST := (HST.out.call hb).alloc #[.int .i64 0, .int .i64 0, .int .i64 0, .int .i64 0, .int .i64 0, .int .i64 0, .int .i64 0, .int .i64 0]
  clear HST hb
  have HST := Lib.hid hST
  clear hST
  unfold A8.arr
  dsimp only
  go_wp2_with fail
  refine (of_empty _ _ _).mono ?_
  rintro e u1 ⟨rfl, hb⟩
  rw [k_of2]
  have hST := (HST.out.call hb).alloc #[.int .i64 0, .int .i64 0, .int .i64 0, .int .i64 0, .int .i64 0, .int .i64 0, .int .i64 0, .int .i64 0]
  clear HST hb
  have HST := Lib.hid hST
  clear hST
  unfold A8.arr
  dsimp only
  go_upto_region 17 with fail
  generalize hV : World.alloc u1 _ = V0 at HST
  clear hV
  go_cut [11] (fun v w => ∃ g : Nat, v = .pointer (some ⟨g, 0, none⟩) ∧ St wc ((g, #[.int .i64 0, .int .i64 0, .int .i64 0, .int .i64 0, .int .i64 0, .int .i64 0, .int .i64 0, .int .i64 0]) :: [(u1.heap.size, #[.int .i64 0, .int .i64 0, .int .i64 0, .int .i64 0, .int .i64 0, .int .i64 0, .int .i64 0, .int .i64 0]), (u0.heap.size, #[.int .i64 0, .int .i64 0, .int .i64 0, .int .i64 0, .int .i64 0, .int .i64 0, .int .i64 0, .int .i64 0])]) w)
  case first =>
    refine wp_region_held_drew (S := St wc [(u1.heap.size, #[.int .i64 0, .int .i64 0, .int .i64 0, .int .i64 0, .int .i64 0, .int .i64 0, .int .i64 0, .int .i64 0]), (u0.heap.size, #[.int .i64 0, .int .i64 0, .int .i64 0, .int .i64 0, .int .i64 0, .int .i64 0, .int .i64 0, .int .i64 0])]) (by kernel_rfl) HST.out.drew (fun hHeld => ?_)
    refine take_at (i := 0) (v := ?_) rfl rfl (by kernel_rfl) (by kernel_rfl) (by kernel_rfl) (fun _ _ _ h => h) (Or.inl ⟨by rfl, ?_⟩) (by assumption) ?_
    rotate_left; (intro w hSw; (try dsimp only at hSw); go_simp; try with_reducible rfl)
    try simp only [Act.put, List.setIfInBounds_toArray, List.set_cons_zero, List.set_cons_succ]
    refine take_at (i := 1) (v := ?_) rfl rfl (by kernel_rfl) (by kernel_rfl) (by kernel_rfl) (fun _ _ _ h => h) (Or.inl ⟨by rfl, ?_⟩) (by assumption) ?_
    rotate_left; (intro w hSw; (try dsimp only at hSw); go_simp; try with_reducible rfl)
    try simp only [Act.put, List.setIfInBounds_toArray, List.set_cons_zero, List.set_cons_succ]
    refine take_at (i := 2) (v := ?_) rfl rfl (by kernel_rfl) (by kernel_rfl) (by kernel_rfl) (fun _ _ _ h => h) (Or.inl ⟨by rfl, ?_⟩) (by assumption) ?_
    rotate_left; (intro w hSw; (try dsimp only at hSw); go_simp; try with_reducible rfl)
    try simp only [Act.put, List.setIfInBounds_toArray, List.set_cons_zero, List.set_cons_succ]
    refine take_at (i := 4) (v := ?_) rfl rfl (by kernel_rfl) (by kernel_rfl) (by kernel_rfl) (fun _ _ _ h => h) (Or.inl ⟨by rfl, ?_⟩) (by assumption) ?_
    rotate_left; (intro w hSw; (try dsimp only at hSw); go_simp; try with_reducible rfl)
    try simp only [Act.put, List.setIfInBounds_toArray, List.set_cons_zero, List.set_cons_succ]
    refine take_at (i := 5) (v := ?_) rfl rfl (by kernel_rfl) (by kernel_rfl) (by kernel_rfl) (fun _ _ _ h => h) (Or.inl ⟨by rfl, ?_⟩) (by assumption) ?_
    rotate_left; (intro w hSw; (try dsimp only at hSw); go_simp; try with_reducible rfl)
    try simp only [Act.put, List.setIfInBounds_toArray, List.set_cons_zero, List.set_cons_succ]
    refine take_at (i := 6) (v := ?_) rfl rfl (by kernel_rfl) (by kernel_rfl) (by kernel_rfl) (fun _ _ _ h => h) (Or.inl ⟨by rfl, ?_⟩) (by assumption) ?_
    rotate_left; (intro w hSw; (try dsimp only at hSw); go_simp; try with_reducible rfl)
    try simp only [Act.put, List.setIfInBounds_toArray, List.set_cons_zero, List.set_cons_succ]
    refine step2_at (i := 3) (j := 9) (by kernel_rfl) rfl rfl rfl rfl (by rfl) (by rfl) (fun K' hK' => ?_) (fun K' hK' => ?_)
    · go_simp
      refine (of_empty _ _ _).mono ?_
      rintro e w1 ⟨rfl, hb1⟩
      rw [k_of2]
      unfold A8.arr
      dsimp only
      refine hK'.out _ _ (hHeld.call hb1) (fun hHeld2 => ?_)
      clear hK' K' hHeld hb1
      have hHeld := hHeld2
      clear hHeld2
      simp only [Act.put, List.setIfInBounds_toArray, List.set_cons_zero, List.set_cons_succ]
      refine step2_at (i := 7) (j := 9) (by kernel_rfl) rfl rfl rfl rfl (by rfl) (by rfl) (fun K' hK' => ?_) (fun K' hK' => ?_)
      · go_simp
        refine (of_empty _ _ _).mono ?_
        rintro e w1 ⟨rfl, hb1⟩
        rw [k_of2]
        unfold A8.arr
        dsimp only
        refine hK'.out _ _ (hHeld.call hb1) (fun hHeld2 => ?_)
        clear hK' K' hHeld hb1
        have hHeld := hHeld2
        clear hHeld2
        simp only [Act.put, List.setIfInBounds_toArray, List.set_cons_zero, List.set_cons_succ]
        refine step2_at (i := 8) (j := 9) (by kernel_rfl) rfl rfl rfl rfl (by rfl) (by rfl) (fun K' hK' => ?_) (fun K' hK' => ?_)
        · go_simp
          refine (join_8 ⟨0, 0, 0, 0, 0, 0, 0, 0⟩ ⟨0, 0, 0, 0, 0, 0, 0, 0⟩ _).mono ?_
          rintro e w1 ⟨rfl, hb1⟩
          rw [z_join]
          unfold A8.arr
          dsimp only
          refine hK'.out _ _ (hHeld.call hb1) (fun hHeld2 => ?_)
          clear hK' K' hHeld hb1
          have hHeld := hHeld2
          clear hHeld2
          simp only [Act.put, List.setIfInBounds_toArray, List.set_cons_zero, List.set_cons_succ]
          refine step_at (i := 9) (by kernel_rfl) rfl rfl (by rfl) (fun K' hK' => ?_)
          go_simp
          obtain ⟨hgb, hg0, hne⟩ := hHeld.newblk #[.int .i64 0, .int .i64 0, .int .i64 0, .int .i64 0, .int .i64 0, .int .i64 0, .int .i64 0, .int .i64 0]
          try simp only [show ∀ w : World, w.drew.heap = w.heap from fun _ => rfl] at hgb hg0 hne
          refine hK'.out _ _ (hHeld.other _) (fun hHeld2 => ?_)
          clear hK' K' hHeld
          simp only [Act.put, List.setIfInBounds_toArray, List.set_cons_zero, List.set_cons_succ]
          refine wpAnyH_blk (w0 := wc) hgb hHeld2 ?_
          clear hgb hHeld2
          intro wa hgb hHeld
          have hcz := cells_at hgb
          have hfz := thaw_at hgb
          have h8 := hHeld.store8 hgb hg0 hne (.int .i64 0) (.int .i64 0) (.int .i64 0) (.int .i64 0) (.int .i64 0) (.int .i64 0) (.int .i64 0) (.int .i64 0)
          refine wpAnyH_ready (rs := [10]) (by kernel_rfl) (by simp) (AllReadyH.cons rfl (fun K' hK' => ?_) AllReadyH.nil)
          go_simp
          clear hcz hfz
          refine hK'.out _ _ h8.tail (fun hHeld2 => ?_)
          clear hK' K' hHeld hHeld2
          refine wpAnyH_done (by kernel_rfl) ?_ _
          go_wp2_with fail
          go_meet
          exact ⟨_, rfl, h8⟩
        · go_simp
          obtain ⟨hgb, hg0, hne⟩ := hHeld.newblk #[.int .i64 0, .int .i64 0, .int .i64 0, .int .i64 0, .int .i64 0, .int .i64 0, .int .i64 0, .int .i64 0]
          try simp only [show ∀ w : World, w.drew.heap = w.heap from fun _ => rfl] at hgb hg0 hne
          refine hK'.out _ _ (hHeld.other _) (fun hHeld2 => ?_)
          clear hK' K' hHeld
          simp only [Act.put, List.setIfInBounds_toArray, List.set_cons_zero, List.set_cons_succ]
          refine wpAnyH_blk (w0 := wc) hgb hHeld2 ?_
          clear hgb hHeld2
          intro wa hgb hHeld
          refine step_at (i := 8) (by kernel_rfl) rfl rfl (by rfl) (fun K' hK' => ?_)
          go_simp
          refine (join_8 ⟨0, 0, 0, 0, 0, 0, 0, 0⟩ ⟨0, 0, 0, 0, 0, 0, 0, 0⟩ _).mono ?_
          rintro e w1 ⟨rfl, hb1⟩
          rw [z_join]
          unfold A8.arr
          dsimp only
          replace hgb := (hb1.block _ (blk_lt hgb)).trans hgb
          refine hK'.out _ _ (hHeld.call hb1) (fun hHeld2 => ?_)
          clear hK' K' hHeld hb1
          have hHeld := hHeld2
          clear hHeld2
          simp only [Act.put, List.setIfInBounds_toArray, List.set_cons_zero, List.set_cons_succ]
          have hcz := cells_at hgb
          have hfz := thaw_at hgb
          have h8 := hHeld.store8 hgb hg0 hne (.int .i64 0) (.int .i64 0) (.int .i64 0) (.int .i64 0) (.int .i64 0) (.int .i64 0) (.int .i64 0) (.int .i64 0)
          refine wpAnyH_ready (rs := [10]) (by kernel_rfl) (by simp) (AllReadyH.cons rfl (fun K' hK' => ?_) AllReadyH.nil)
          go_simp
          clear hcz hfz
          refine hK'.out _ _ h8.tail (fun hHeld2 => ?_)
          clear hK' K' hHeld hHeld2
          refine wpAnyH_done (by kernel_rfl) ?_ _
          go_wp2_with fail
          go_meet
          exact ⟨_, rfl, h8⟩
      · go_simp
        obtain ⟨hgb, hg0, hne⟩ := hHeld.newblk #[.int .i64 0, .int .i64 0, .int .i64 0, .int .i64 0, .int .i64 0, .int .i64 0, .int .i64 0, .int .i64 0]
        try simp only [show ∀ w : World, w.drew.heap = w.heap from fun _ => rfl] at hgb hg0 hne
        refine hK'.out _ _ (hHeld.other _) (fun hHeld2 => ?_)
        clear hK' K' hHeld
        simp only [Act.put, List.setIfInBounds_toArray, List.set_cons_zero, List.set_cons_succ]
        refine wpAnyH_blk (w0 := wc) hgb hHeld2 ?_
        clear hgb hHeld2
        intro wa hgb hHeld
        refine step_at (i := 7) (by kernel_rfl) rfl rfl (by rfl) (fun K' hK' => ?_)
        go_simp
        refine (of_empty _ _ _).mono ?_
        rintro e w1 ⟨rfl, hb1⟩
        rw [k_of2]
        unfold A8.arr
        dsimp only
        replace hgb := (hb1.block _ (blk_lt hgb)).trans hgb
        refine hK'.out _ _ (hHeld.call hb1) (fun hHeld2 => ?_)
        clear hK' K' hHeld hb1
        have hHeld := hHeld2
        clear hHeld2
        simp only [Act.put, List.setIfInBounds_toArray, List.set_cons_zero, List.set_cons_succ]
        refine step_at (i := 8) (by kernel_rfl) rfl rfl (by rfl) (fun K' hK' => ?_)
        go_simp
        refine (join_8 ⟨0, 0, 0, 0, 0, 0, 0, 0⟩ ⟨0, 0, 0, 0, 0, 0, 0, 0⟩ _).mono ?_
        rintro e w1 ⟨rfl, hb1⟩
        rw [z_join]
        unfold A8.arr
        dsimp only
        replace hgb := (hb1.block _ (blk_lt hgb)).trans hgb
        refine hK'.out _ _ (hHeld.call hb1) (fun hHeld2 => ?_)
        clear hK' K' hHeld hb1
        have hHeld := hHeld2
        clear hHeld2
        simp only [Act.put, List.setIfInBounds_toArray, List.set_cons_zero, List.set_cons_succ]
        have hcz := cells_at hgb
        have hfz := thaw_at hgb
        have h8 := hHeld.store8 hgb hg0 hne (.int .i64 0) (.int .i64 0) (.int .i64 0) (.int .i64 0) (.int .i64 0) (.int .i64 0) (.int .i64 0) (.int .i64 0)
        refine wpAnyH_ready (rs := [10]) (by kernel_rfl) (by simp) (AllReadyH.cons rfl (fun K' hK' => ?_) AllReadyH.nil)
        go_simp
        clear hcz hfz
        refine hK'.out _ _ h8.tail (fun hHeld2 => ?_)
        clear hK' K' hHeld hHeld2
        refine wpAnyH_done (by kernel_rfl) ?_ _
        go_wp2_with fail
        go_meet
        exact ⟨_, rfl, h8⟩
    · go_simp
      obtain ⟨hgb, hg0, hne⟩ := hHeld.newblk #[.int .i64 0, .int .i64 0, .int .i64 0, .int .i64 0, .int .i64 0, .int .i64 0, .int .i64 0, .int .i64 0]
      try simp only [show ∀ w : World, w.drew.heap = w.heap from fun _ => rfl] at hgb hg0 hne
      refine hK'.out _ _ (hHeld.other _) (fun hHeld2 => ?_)
      clear hK' K' hHeld
      simp only [Act.put, List.setIfInBounds_toArray, List.set_cons_zero, List.set_cons_succ]
      refine wpAnyH_blk (w0 := wc) hgb hHeld2 ?_
      clear hgb hHeld2
      intro wa hgb hHeld
      refine step_at (i := 3) (by kernel_rfl) rfl rfl (by rfl) (fun K' hK' => ?_)
      go_simp
      refine (of_empty _ _ _).mono ?_
      rintro e w1 ⟨rfl, hb1⟩
      rw [k_of2]
      unfold A8.arr
      dsimp only
      replace hgb := (hb1.block _ (blk_lt hgb)).trans hgb
      refine hK'.out _ _ (hHeld.call hb1) (fun hHeld2 => ?_)
      clear hK' K' hHeld hb1
      have hHeld := hHeld2
      clear hHeld2
      simp only [Act.put, List.setIfInBounds_toArray, List.set_cons_zero, List.set_cons_succ]
      refine step_at (i := 7) (by kernel_rfl) rfl rfl (by rfl) (fun K' hK' => ?_)
      go_simp
      refine (of_empty _ _ _).mono ?_
      rintro e w1 ⟨rfl, hb1⟩
      rw [k_of2]
      unfold A8.arr
      dsimp only
      replace hgb := (hb1.block _ (blk_lt hgb)).trans hgb
      refine hK'.out _ _ (hHeld.call hb1) (fun hHeld2 => ?_)
      clear hK' K' hHeld hb1
      have hHeld := hHeld2
      clear hHeld2
      simp only [Act.put, List.setIfInBounds_toArray, List.set_cons_zero, List.set_cons_succ]
      refine step_at (i := 8) (by kernel_rfl) rfl rfl (by rfl) (fun K' hK' => ?_)
      go_simp
      refine (join_8 ⟨0, 0, 0, 0, 0, 0, 0, 0⟩ ⟨0, 0, 0, 0, 0, 0, 0, 0⟩ _).mono ?_
      rintro e w1 ⟨rfl, hb1⟩
      rw [z_join]
      unfold A8.arr
      dsimp only
      replace hgb := (hb1.block _ (blk_lt hgb)).trans hgb
      refine hK'.out _ _ (hHeld.call hb1) (fun hHeld2 => ?_)
      clear hK' K' hHeld hb1
      have hHeld := hHeld2
      clear hHeld2
      simp only [Act.put, List.setIfInBounds_toArray, List.set_cons_zero, List.set_cons_succ]
      have hcz := cells_at hgb
      have hfz := thaw_at hgb
      have h8 := hHeld.store8 hgb hg0 hne (.int .i64 0) (.int .i64 0) (.int .i64 0) (.int .i64 0) (.int .i64 0) (.int .i64 0) (.int .i64 0) (.int .i64 0)
      refine wpAnyH_ready (rs := [10]) (by kernel_rfl) (by simp) (AllReadyH.cons rfl (fun K' hK' => ?_) AllReadyH.nil)
      go_simp
      clear hcz hfz
      refine hK'.out _ _ h8.tail (fun hHeld2 => ?_)
      clear hK' K' hHeld hHeld2
      refine wpAnyH_done (by kernel_rfl) ?_ _
      go_wp2_with fail
      go_meet
      exact ⟨_, rfl, h8⟩
  case rest =>
    obtain ⟨gc, rfl, hST⟩ := hcut
    have HST := Lib.hid hST
    clear hST
    have hca := HST.out.cells (u0.heap.size) #[.int .i64 0, .int .i64 0, .int .i64 0, .int .i64 0, .int .i64 0, .int .i64 0, .int .i64 0, .int .i64 0] (by simp)
    have hcb := HST.out.cells (u1.heap.size) #[.int .i64 0, .int .i64 0, .int .i64 0, .int .i64 0, .int .i64 0, .int .i64 0, .int .i64 0, .int .i64 0] (by simp)
    have hcc := HST.out.cells gc #[.int .i64 0, .int .i64 0, .int .i64 0, .int .i64 0, .int .i64 0, .int .i64 0, .int .i64 0, .int .i64 0] (by simp)
    go_wp2_with fail
    refine (right_8 ⟨0, 0, 0, 0, 0, 0, 0, 0⟩ _).mono ?_
    rintro e w8 ⟨rfl, hb8⟩
    rw [k_r1]
    have HS8 := Lib.hid (HST.out.call hb8)
    clear hb8 hca hcb hcc
    have hca := HS8.out.cells (u0.heap.size) #[.int .i64 0, .int .i64 0, .int .i64 0, .int .i64 0, .int .i64 0, .int .i64 0, .int .i64 0, .int .i64 0] (by simp)
    have hcb := HS8.out.cells (u1.heap.size) #[.int .i64 0, .int .i64 0, .int .i64 0, .int .i64 0, .int .i64 0, .int .i64 0, .int .i64 0, .int .i64 0] (by simp)
    have hcc := HS8.out.cells gc #[.int .i64 0, .int .i64 0, .int .i64 0, .int .i64 0, .int .i64 0, .int .i64 0, .int .i64 0, .int .i64 0] (by simp)
    go_wp2_with fail
    refine (wakes_any _).mono ?_
    rintro e w9 ⟨rfl, hb9⟩
    have hbel := (HS8.out.call hb9).1
    clear hca hcb hcc hb9
    go_wp2
    go_ret
    exact ⟨rfl, hbel⟩

set_option maxRecDepth 100000 in
set_option maxHeartbeats 2000000 in
theorem agg_right_bare (x : Addr) (cap : Nat) (at' : Int) (wc : World) :
    Calls Try.prog 7 #[.slice (some x) 0 cap, .int .i64 at'] wc fun e w' => e = .returned (.bool true) ∧ Below wc.heap.size wc w' := by
  have HST := Lib.hid (St.init wc)
  have kb0 : (0 : Int) ≤ (cap : Int) := by omega
  go_enter Try.func7, Try.ntmps7
  go_wp2_with fail
  refine wp_loop_rounds 1 ?_
  rw [rounds_succ]
  go_wp2_with fail
  refine (of_empty _ _ _).mono ?_
  rintro e u0 ⟨rfl, hb⟩
  rw [k_of2]
  have hST := (HST.out.call hb).alloc #[.int .i64 0, .int .i64 0, .int .i64 0, .int .i64 0, .int .i64 0, .int .i64 0, .int .i64 0, .int .i64 0]
  clear HST hb
  have HST := Lib.hid hST
  clear hST
  unfold A8.arr
  dsimp only
  go_wp2_with fail
  refine (of_empty _ _ _).mono ?_
  rintro e u1 ⟨rfl, hb⟩
  rw [k_of2]
  have hST := (HST.out.call hb).alloc #[.int .i64 0, .int .i64 0, .int .i64 0, .int .i64 0, .int .i64 0, .int .i64 0, .int .i64 0, .int .i64 0]
  clear HST hb
  have HST := Lib.hid hST
  clear hST
  unfold A8.arr
  dsimp only
  go_upto_region 17 with fail
  generalize hV : World.alloc u1 _ = V0 at HST
  clear hV
  go_cut [11] (fun v w => ∃ g : Nat, v = .pointer (some ⟨g, 0, none⟩) ∧ St wc ((g, #[.int .i64 0, .int .i64 0, .int .i64 0, .int .i64 0, .int .i64 0, .int .i64 0, .int .i64 0, .int .i64 0]) :: [(u1.heap.size, #[.int .i64 0, .int .i64 0, .int .i64 0, .int .i64 0, .int .i64 0, .int .i64 0, .int .i64 0, .int .i64 0]), (u0.heap.size, #[.int .i64 0, .int .i64 0, .int .i64 0, .int .i64 0, .int .i64 0, .int .i64 0, .int .i64 0, .int .i64 0])]) w)
  case first =>
    refine wp_region_held_drew (S := St wc [(u1.heap.size, #[.int .i64 0, .int .i64 0, .int .i64 0, .int .i64 0, .int .i64 0, .int .i64 0, .int .i64 0, .int .i64 0]), (u0.heap.size, #[.int .i64 0, .int .i64 0, .int .i64 0, .int .i64 0, .int .i64 0, .int .i64 0, .int .i64 0, .int .i64 0])]) (by kernel_rfl) HST.out.drew (fun hHeld => ?_)
    refine take_at (i := 0) (v := ?_) rfl rfl (by kernel_rfl) (by kernel_rfl) (by kernel_rfl) (fun _ _ _ h => h) (Or.inl ⟨by rfl, ?_⟩) (by assumption) ?_
    rotate_left; (intro w hSw; (try dsimp only at hSw); go_simp; try with_reducible rfl)
    try simp only [Act.put, List.setIfInBounds_toArray, List.set_cons_zero, List.set_cons_succ]
    refine take_at (i := 1) (v := ?_) rfl rfl (by kernel_rfl) (by kernel_rfl) (by kernel_rfl) (fun _ _ _ h => h) (Or.inl ⟨by rfl, ?_⟩) (by assumption) ?_
    rotate_left; (intro w hSw; (try dsimp only at hSw); go_simp; try with_reducible rfl)
    try simp only [Act.put, List.setIfInBounds_toArray, List.set_cons_zero, List.set_cons_succ]
    refine take_at (i := 2) (v := ?_) rfl rfl (by kernel_rfl) (by kernel_rfl) (by kernel_rfl) (fun _ _ _ h => h) (Or.inl ⟨by rfl, ?_⟩) (by assumption) ?_
    rotate_left; (intro w hSw; (try dsimp only at hSw); go_simp; try with_reducible rfl)
    try simp only [Act.put, List.setIfInBounds_toArray, List.set_cons_zero, List.set_cons_succ]
    refine take_at (i := 4) (v := ?_) rfl rfl (by kernel_rfl) (by kernel_rfl) (by kernel_rfl) (fun _ _ _ h => h) (Or.inl ⟨by rfl, ?_⟩) (by assumption) ?_
    rotate_left; (intro w hSw; (try dsimp only at hSw); go_simp; try with_reducible rfl)
    try simp only [Act.put, List.setIfInBounds_toArray, List.set_cons_zero, List.set_cons_succ]
    refine take_at (i := 5) (v := ?_) rfl rfl (by kernel_rfl) (by kernel_rfl) (by kernel_rfl) (fun _ _ _ h => h) (Or.inl ⟨by rfl, ?_⟩) (by assumption) ?_
    rotate_left; (intro w hSw; (try dsimp only at hSw); go_simp; try with_reducible rfl)
    try simp only [Act.put, List.setIfInBounds_toArray, List.set_cons_zero, List.set_cons_succ]
    refine take_at (i := 6) (v := ?_) rfl rfl (by kernel_rfl) (by kernel_rfl) (by kernel_rfl) (fun _ _ _ h => h) (Or.inl ⟨by rfl, ?_⟩) (by assumption) ?_
    rotate_left; (intro w hSw; (try dsimp only at hSw); go_simp; try with_reducible rfl)
    try simp only [Act.put, List.setIfInBounds_toArray, List.set_cons_zero, List.set_cons_succ]
    refine step2_at (i := 3) (j := 9) (by kernel_rfl) rfl rfl rfl rfl (by rfl) (by rfl) (fun K' hK' => ?_) (fun K' hK' => ?_)
    · go_simp
      refine (of_empty _ _ _).mono ?_
      rintro e w1 ⟨rfl, hb1⟩
      rw [k_of2]
      unfold A8.arr
      dsimp only
      refine hK'.out _ _ (hHeld.call hb1) (fun hHeld2 => ?_)
      clear hK' K' hHeld hb1
      have hHeld := hHeld2
      clear hHeld2
      simp only [Act.put, List.setIfInBounds_toArray, List.set_cons_zero, List.set_cons_succ]
      refine step2_at (i := 7) (j := 9) (by kernel_rfl) rfl rfl rfl rfl (by rfl) (by rfl) (fun K' hK' => ?_) (fun K' hK' => ?_)
      · go_simp
        refine (of_empty _ _ _).mono ?_
        rintro e w1 ⟨rfl, hb1⟩
        rw [k_of2]
        unfold A8.arr
        dsimp only
        refine hK'.out _ _ (hHeld.call hb1) (fun hHeld2 => ?_)
        clear hK' K' hHeld hb1
        have hHeld := hHeld2
        clear hHeld2
        simp only [Act.put, List.setIfInBounds_toArray, List.set_cons_zero, List.set_cons_succ]
        refine step2_at (i := 8) (j := 9) (by kernel_rfl) rfl rfl rfl rfl (by rfl) (by rfl) (fun K' hK' => ?_) (fun K' hK' => ?_)
        · go_simp
          refine (join_8 ⟨0, 0, 0, 0, 0, 0, 0, 0⟩ ⟨0, 0, 0, 0, 0, 0, 0, 0⟩ _).mono ?_
          rintro e w1 ⟨rfl, hb1⟩
          rw [z_join]
          unfold A8.arr
          dsimp only
          refine hK'.out _ _ (hHeld.call hb1) (fun hHeld2 => ?_)
          clear hK' K' hHeld hb1
          have hHeld := hHeld2
          clear hHeld2
          simp only [Act.put, List.setIfInBounds_toArray, List.set_cons_zero, List.set_cons_succ]
          refine step_at (i := 9) (by kernel_rfl) rfl rfl (by rfl) (fun K' hK' => ?_)
          go_simp
          obtain ⟨hgb, hg0, hne⟩ := hHeld.newblk #[.int .i64 0, .int .i64 0, .int .i64 0, .int .i64 0, .int .i64 0, .int .i64 0, .int .i64 0, .int .i64 0]
          try simp only [show ∀ w : World, w.drew.heap = w.heap from fun _ => rfl] at hgb hg0 hne
          refine hK'.out _ _ (hHeld.other _) (fun hHeld2 => ?_)
          clear hK' K' hHeld
          simp only [Act.put, List.setIfInBounds_toArray, List.set_cons_zero, List.set_cons_succ]
          refine wpAnyH_blk (w0 := wc) hgb hHeld2 ?_
          clear hgb hHeld2
          intro wa hgb hHeld
          have hcz := cells_at hgb
          have hfz := thaw_at hgb
          have h8 := hHeld.store8 hgb hg0 hne (.int .i64 0) (.int .i64 0) (.int .i64 0) (.int .i64 0) (.int .i64 0) (.int .i64 0) (.int .i64 0) (.int .i64 0)
          refine wpAnyH_ready (rs := [10]) (by kernel_rfl) (by simp) (AllReadyH.cons rfl (fun K' hK' => ?_) AllReadyH.nil)
          go_simp
          clear hcz hfz
          refine hK'.out _ _ h8.tail (fun hHeld2 => ?_)
          clear hK' K' hHeld hHeld2
          refine wpAnyH_done (by kernel_rfl) ?_ _
          go_wp2_with fail
          go_meet
          exact ⟨_, rfl, h8⟩
        · go_simp
          obtain ⟨hgb, hg0, hne⟩ := hHeld.newblk #[.int .i64 0, .int .i64 0, .int .i64 0, .int .i64 0, .int .i64 0, .int .i64 0, .int .i64 0, .int .i64 0]
          try simp only [show ∀ w : World, w.drew.heap = w.heap from fun _ => rfl] at hgb hg0 hne
          refine hK'.out _ _ (hHeld.other _) (fun hHeld2 => ?_)
          clear hK' K' hHeld
          simp only [Act.put, List.setIfInBounds_toArray, List.set_cons_zero, List.set_cons_succ]
          refine wpAnyH_blk (w0 := wc) hgb hHeld2 ?_
          clear hgb hHeld2
          intro wa hgb hHeld
          refine step_at (i := 8) (by kernel_rfl) rfl rfl (by rfl) (fun K' hK' => ?_)
          go_simp
          refine (join_8 ⟨0, 0, 0, 0, 0, 0, 0, 0⟩ ⟨0, 0, 0, 0, 0, 0, 0, 0⟩ _).mono ?_
          rintro e w1 ⟨rfl, hb1⟩
          rw [z_join]
          unfold A8.arr
          dsimp only
          replace hgb := (hb1.block _ (blk_lt hgb)).trans hgb
          refine hK'.out _ _ (hHeld.call hb1) (fun hHeld2 => ?_)
          clear hK' K' hHeld hb1
          have hHeld := hHeld2
          clear hHeld2
          simp only [Act.put, List.setIfInBounds_toArray, List.set_cons_zero, List.set_cons_succ]
          have hcz := cells_at hgb
          have hfz := thaw_at hgb
          have h8 := hHeld.store8 hgb hg0 hne (.int .i64 0) (.int .i64 0) (.int .i64 0) (.int .i64 0) (.int .i64 0) (.int .i64 0) (.int .i64 0) (.int .i64 0)
          refine wpAnyH_ready (rs := [10]) (by kernel_rfl) (by simp) (AllReadyH.cons rfl (fun K' hK' => ?_) AllReadyH.nil)
          go_simp
          clear hcz hfz
          refine hK'.out _ _ h8.tail (fun hHeld2 => ?_)
          clear hK' K' hHeld hHeld2
          refine wpAnyH_done (by kernel_rfl) ?_ _
          go_wp2_with fail
          go_meet
          exact ⟨_, rfl, h8⟩
      · go_simp
        obtain ⟨hgb, hg0, hne⟩ := hHeld.newblk #[.int .i64 0, .int .i64 0, .int .i64 0, .int .i64 0, .int .i64 0, .int .i64 0, .int .i64 0, .int .i64 0]
        try simp only [show ∀ w : World, w.drew.heap = w.heap from fun _ => rfl] at hgb hg0 hne
        refine hK'.out _ _ (hHeld.other _) (fun hHeld2 => ?_)
        clear hK' K' hHeld
        simp only [Act.put, List.setIfInBounds_toArray, List.set_cons_zero, List.set_cons_succ]
        refine wpAnyH_blk (w0 := wc) hgb hHeld2 ?_
        clear hgb hHeld2
        intro wa hgb hHeld
        refine step_at (i := 7) (by kernel_rfl) rfl rfl (by rfl) (fun K' hK' => ?_)
        go_simp
        refine (of_empty _ _ _).mono ?_
        rintro e w1 ⟨rfl, hb1⟩
        rw [k_of2]
        unfold A8.arr
        dsimp only
        replace hgb := (hb1.block _ (blk_lt hgb)).trans hgb
        refine hK'.out _ _ (hHeld.call hb1) (fun hHeld2 => ?_)
        clear hK' K' hHeld hb1
        have hHeld := hHeld2
        clear hHeld2
        simp only [Act.put, List.setIfInBounds_toArray, List.set_cons_zero, List.set_cons_succ]
        refine step_at (i := 8) (by kernel_rfl) rfl rfl (by rfl) (fun K' hK' => ?_)
        go_simp
        refine (join_8 ⟨0, 0, 0, 0, 0, 0, 0, 0⟩ ⟨0, 0, 0, 0, 0, 0, 0, 0⟩ _).mono ?_
        rintro e w1 ⟨rfl, hb1⟩
        rw [z_join]
        unfold A8.arr
        dsimp only
        replace hgb := (hb1.block _ (blk_lt hgb)).trans hgb
        refine hK'.out _ _ (hHeld.call hb1) (fun hHeld2 => ?_)
        clear hK' K' hHeld hb1
        have hHeld := hHeld2
        clear hHeld2
        simp only [Act.put, List.setIfInBounds_toArray, List.set_cons_zero, List.set_cons_succ]
        have hcz := cells_at hgb
        have hfz := thaw_at hgb
        have h8 := hHeld.store8 hgb hg0 hne (.int .i64 0) (.int .i64 0) (.int .i64 0) (.int .i64 0) (.int .i64 0) (.int .i64 0) (.int .i64 0) (.int .i64 0)
        refine wpAnyH_ready (rs := [10]) (by kernel_rfl) (by simp) (AllReadyH.cons rfl (fun K' hK' => ?_) AllReadyH.nil)
        go_simp
        clear hcz hfz
        refine hK'.out _ _ h8.tail (fun hHeld2 => ?_)
        clear hK' K' hHeld hHeld2
        refine wpAnyH_done (by kernel_rfl) ?_ _
        go_wp2_with fail
        go_meet
        exact ⟨_, rfl, h8⟩
    · go_simp
      obtain ⟨hgb, hg0, hne⟩ := hHeld.newblk #[.int .i64 0, .int .i64 0, .int .i64 0, .int .i64 0, .int .i64 0, .int .i64 0, .int .i64 0, .int .i64 0]
      try simp only [show ∀ w : World, w.drew.heap = w.heap from fun _ => rfl] at hgb hg0 hne
      refine hK'.out _ _ (hHeld.other _) (fun hHeld2 => ?_)
      clear hK' K' hHeld
      simp only [Act.put, List.setIfInBounds_toArray, List.set_cons_zero, List.set_cons_succ]
      refine wpAnyH_blk (w0 := wc) hgb hHeld2 ?_
      clear hgb hHeld2
      intro wa hgb hHeld
      refine step_at (i := 3) (by kernel_rfl) rfl rfl (by rfl) (fun K' hK' => ?_)
      go_simp
      refine (of_empty _ _ _).mono ?_
      rintro e w1 ⟨rfl, hb1⟩
      rw [k_of2]
      unfold A8.arr
      dsimp only
      replace hgb := (hb1.block _ (blk_lt hgb)).trans hgb
      refine hK'.out _ _ (hHeld.call hb1) (fun hHeld2 => ?_)
      clear hK' K' hHeld hb1
      have hHeld := hHeld2
      clear hHeld2
      simp only [Act.put, List.setIfInBounds_toArray, List.set_cons_zero, List.set_cons_succ]
      refine step_at (i := 7) (by kernel_rfl) rfl rfl (by rfl) (fun K' hK' => ?_)
      go_simp
      refine (of_empty _ _ _).mono ?_
      rintro e w1 ⟨rfl, hb1⟩
      rw [k_of2]
      unfold A8.arr
      dsimp only
      replace hgb := (hb1.block _ (blk_lt hgb)).trans hgb
      refine hK'.out _ _ (hHeld.call hb1) (fun hHeld2 => ?_)
      clear hK' K' hHeld hb1
      have hHeld := hHeld2
      clear hHeld2
      simp only [Act.put, List.setIfInBounds_toArray, List.set_cons_zero, List.set_cons_succ]
      refine step_at (i := 8) (by kernel_rfl) rfl rfl (by rfl) (fun K' hK' => ?_)
      go_simp
      refine (join_8 ⟨0, 0, 0, 0, 0, 0, 0, 0⟩ ⟨0, 0, 0, 0, 0, 0, 0, 0⟩ _).mono ?_
      rintro e w1 ⟨rfl, hb1⟩
      rw [z_join]
      unfold A8.arr
      dsimp only
      replace hgb := (hb1.block _ (blk_lt hgb)).trans hgb
      refine hK'.out _ _ (hHeld.call hb1) (fun hHeld2 => ?_)
      clear hK' K' hHeld hb1
      have hHeld := hHeld2
      clear hHeld2
      simp only [Act.put, List.setIfInBounds_toArray, List.set_cons_zero, List.set_cons_succ]
      have hcz := cells_at hgb
      have hfz := thaw_at hgb
      have h8 := hHeld.store8 hgb hg0 hne (.int .i64 0) (.int .i64 0) (.int .i64 0) (.int .i64 0) (.int .i64 0) (.int .i64 0) (.int .i64 0) (.int .i64 0)
      refine wpAnyH_ready (rs := [10]) (by kernel_rfl) (by simp) (AllReadyH.cons rfl (fun K' hK' => ?_) AllReadyH.nil)
      go_simp
      clear hcz hfz
      refine hK'.out _ _ h8.tail (fun hHeld2 => ?_)
      clear hK' K' hHeld hHeld2
      refine wpAnyH_done (by kernel_rfl) ?_ _
      go_wp2_with fail
      go_meet
      exact ⟨_, rfl, h8⟩
  case rest =>
    obtain ⟨gc, rfl, hST⟩ := hcut
    have HST := Lib.hid hST
    clear hST
    have hca := HST.out.cells (u0.heap.size) #[.int .i64 0, .int .i64 0, .int .i64 0, .int .i64 0, .int .i64 0, .int .i64 0, .int .i64 0, .int .i64 0] (by simp)
    have hcb := HST.out.cells (u1.heap.size) #[.int .i64 0, .int .i64 0, .int .i64 0, .int .i64 0, .int .i64 0, .int .i64 0, .int .i64 0, .int .i64 0] (by simp)
    have hcc := HST.out.cells gc #[.int .i64 0, .int .i64 0, .int .i64 0, .int .i64 0, .int .i64 0, .int .i64 0, .int .i64 0, .int .i64 0] (by simp)
    go_wp2_with fail
    refine (right_8 ⟨0, 0, 0, 0, 0, 0, 0, 0⟩ _).mono ?_
    rintro e w8 ⟨rfl, hb8⟩
    rw [k_r1]
    have HS8 := Lib.hid (HST.out.call hb8)
    clear hb8 hca hcb hcc
    have hca := HS8.out.cells (u0.heap.size) #[.int .i64 0, .int .i64 0, .int .i64 0, .int .i64 0, .int .i64 0, .int .i64 0, .int .i64 0, .int .i64 0] (by simp)
    have hcb := HS8.out.cells (u1.heap.size) #[.int .i64 0, .int .i64 0, .int .i64 0, .int .i64 0, .int .i64 0, .int .i64 0, .int .i64 0, .int .i64 0] (by simp)
    have hcc := HS8.out.cells gc #[.int .i64 0, .int .i64 0, .int .i64 0, .int .i64 0, .int .i64 0, .int .i64 0, .int .i64 0, .int .i64 0] (by simp)
    go_wp2_with fail
    refine (wakes_any _).mono ?_
    rintro e w9 ⟨rfl, hb9⟩
    have hbel := (HS8.out.call hb9).1
    clear hca hcb hcc hb9
    go_wp2
    go_ret
    exact ⟨rfl, hbel⟩

set_option maxHeartbeats 1000000 in
theorem agg_right_law (v0 : Value) (l : List Int) (at' : Int) (W0 : World) (h0 : SliceOf W0 v0 l) (hl : l.length ≤ maxLen) (hr : ∀ x, x ∈ l → R64 x) (ha : R64 at') (hn : v0 = .slice none 0 0 ∨ ∃ x n c, v0 = .slice (some x) n c) :
    Calls Try.prog 7 #[v0, .int .i64 at'] W0 fun e w' => e = .returned (.bool true) ∧ Below W0.heap.size W0 w' := by
  by_cases hb : l.length ≤ 1000
  · have h1 := h0
    rcases h0 with ⟨rfl, a, cap, rfl⟩ | ⟨hp, b, off, cap, rfl, hcap, hlt, hc⟩
    · rcases hn with e | ⟨x, n, c, e⟩
      · simp only [Value.slice.injEq] at e
        obtain ⟨rfl, _, rfl⟩ := e
        exact agg_right_nil at' W0
      · simp only [Value.slice.injEq] at e
        obtain ⟨rfl, _, _⟩ := e
        exact agg_right_bare x cap at' W0
    · exact agg_right_some b off cap l at' W0 h1 hc hlt hcap hp hb hr ha
  · obtain ⟨s0, c0, hv⟩ := h0.form
    subst hv
    unfold maxLen at hl
    have hb' : 1000 < l.length := by omega
    clear hb hr ha h0 hn
    go_enter Try.func7, Try.ntmps7
    go_wp2_with (go_at_call 18; refine (wakes_any _).mono ?_; rintro e w1 ⟨rfl, hbel⟩)
    go_ret
    exact ⟨rfl, hbel⟩
end Go.Proofs.Ytoiakejagmeliaa
