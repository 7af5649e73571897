/-
  MsgReads: its walk.
-/
import Derived.Test.YtmmhchpilcjflaaMsgXg
import Derived.Test.YtmmhchpilcjflaaMsgXf
import Derived.Test.YtmmhchpilcjflaaMsgSm
import Derived.Test.YtmmhchpilcjflaaMsgRef
set_option linter.unusedSimpArgs false
set_option linter.unusedVariables false
namespace Go.Proofs.Ytmmhchpilcjflaa
open Go.RowKit
section
variable {w0 W : World} {L : List Blk} {b : ByteArray}
theorem refRead_e (hs : b.size < 140737488351233) (hL : Live w0 L W) : Calls Try.prog 23 #[.string b] W fun e W' => ∃ vo vs Ro Rs, e = .returned (.tuple #[.agg (mcells (backM b) vo vs), .int .i64 (errR b)]) ∧ Slot w0 vo (backM b).owner Ro ∧ Slot w0 vs (backM b).set Rs ∧ Live w0 (Ro ++ (Rs ++ L)) W' := by
  have h := refRead_any hs hL
  rw [msg_read] at h
  exact h
theorem next_size {x : ByteArray × Nat} (h : nextM b = .ok x) : x.1.size ≤ b.size := by
  unfold nextM at h
  repeat' split at h
  all_goals (cases h)
  rw [ByteArray.size_extract]
  omega
set_option maxHeartbeats 16000000 in
set_option maxRecDepth 100000 in
theorem reads_law : Calls Try.prog 7 #[.string b] W fun e W' => e = .returned (.bool true) ∧ Below W.heap.size W W' := by
  have hL := Live.init W
  go_enter Try.func7, Try.ntmps7
  refine wp_fr (n := 71) (m := [(0, _)]) ⟨rfl, rfl, by intro p hp; simp only [List.mem_cons, List.not_mem_nil, or_false] at hp; rcases hp with rfl <;> rfl⟩ fun a0 H0 => ?_
  repeat (go_not_at_region 0; go_step)
  refine wp_region_lit ?_
  refine h_op H0 rfl (wn rfl) (R_as H0 rfl rfl) rfl (P1 0 rfl) fun a1 H1 => ?_
  clear H0
  refine h_end ?_
  repeat (go_not_at_region 1; go_step)
  refine wp_region_lit ?_
  refine h_call H1 rfl (wn rfl) (R_call0 H1 rfl (fun w => by simp [go_sem])) rfl ?_
  refine (awake_ok).mono ?_
  rintro e w2 ⟨rfl, hb⟩
  replace hL := hL.call hb
  clear hb
  refine ⟨_, rfl, fun a2 HH => ?_⟩
  have H2 := HH _ (P2 13 0 rfl rfl)
  clear HH H1
  refine h_op H2 rfl (wn rfl) (R_not H2 rfl rfl) rfl (P2 14 0 rfl rfl) fun a3 H3 => ?_
  clear H2
  refine h_end ?_
  repeat (go_not_at_region 3; go_step)
  refine wp_cond_false (H3.ev (x := .tmp 14) rfl) ?_
  by_cases hbig : 20000 < b.size
  · repeat (go_not_at_region 3; go_step)
    refine wp_region_lit ?_
    refine h_op H3 rfl (wn rfl) (R_mv H3 rfl rfl) rfl (P1 15 rfl) fun a4 H4 => ?_
    clear H3
    refine h_op H4 rfl (wn rfl) (R_len H4 rfl rfl Try.underlying9) rfl (P1 16 rfl) fun a5 H5 => ?_
    clear H4
    refine h_op H5 rfl (wn rfl) (R_bin H5 rfl rfl rfl (B_to (y := true) (B_gt Try.underlying3 _ _) (decide_eq_true (by omega)))) rfl (P1 17 rfl) fun a6 H6 => ?_
    clear H5
    refine h_end ?_
    repeat (go_not_at_region 4; go_step)
    refine wp_cond_true (H6.ev (x := .tmp 17) rfl) ?_
    repeat (go_not_at_region 4; go_step)
    refine wp_region_lit ?_
    refine h_op H6 rfl (wn rfl) (R_as H6 rfl rfl) rfl (P1 2 rfl) fun a7 H7 => ?_
    clear H6
    refine h_end ?_
    repeat (go_not_at_region 999; go_step)
    refine H7.ret1 (v := .bool true) rfl rfl ?_
    exact ⟨rfl, hL.1⟩
  repeat (go_not_at_region 3; go_step)
  refine wp_region_lit ?_
  refine h_op H3 rfl (wn rfl) (R_mv H3 rfl rfl) rfl (P2 15 0 rfl rfl) fun a4 H4 => ?_
  clear H3
  refine h_op H4 rfl (wn rfl) (R_len H4 rfl rfl Try.underlying9) rfl (P2 16 0 rfl rfl) fun a5 H5 => ?_
  clear H4
  refine h_op H5 rfl (wn rfl) (R_bin H5 rfl rfl rfl (B_to (y := false) (B_gt Try.underlying3 _ _) (decide_eq_false (by omega)))) rfl (P2 17 0 rfl rfl) fun a6 H6 => ?_
  clear H5
  refine h_end ?_
  repeat (go_not_at_region 5; go_step)
  refine wp_cond_false (H6.ev (x := .tmp 17) rfl) ?_
  have hz : b.size < 140737488351233 := by omega
  repeat (go_not_at_region 5; go_step)
  refine wp_region_lit ?_
  refine h_op H6 rfl (wn rfl) (R_mv H6 rfl rfl) rfl (P2 19 0 rfl rfl) fun a7 H7 => ?_
  clear H6
  refine h_call H7 rfl (wn rfl) (R_call1 H7 rfl rfl (fun w => by simp [go_sem])) rfl ?_
  refine (Read_e hz hL).mono ?_
  rintro e w8 ⟨vo1, vs1, Ro1, Rs1, rfl, ho1, hs1, hL2, lo1, ls1⟩
  replace hL := hL2
  clear hL2
  refine ⟨_, rfl, fun a8 HH => ?_⟩
  have H8 := HH _ (P2 20 0 rfl rfl)
  clear HH H7
  refine h_op H8 rfl (wn rfl) (R_mv H8 rfl rfl) rfl (P2 18 0 rfl rfl) fun a9 H9 => ?_
  clear H8
  refine h_op H9 rfl (wn rfl) (R_ext H9 rfl rfl rfl) rfl (P3 21 18 0 rfl rfl rfl) fun a10 H10 => ?_
  clear H9
  refine h_op H10 rfl (wn rfl) (R_ext H10 rfl rfl rfl) rfl (P3 22 21 0 rfl rfl rfl) fun a11 H11 => ?_
  clear H10
  refine h_opL ((w8.heap.size, zcells, 29) :: (Ro1 ++ (Rs1 ++ []))) H11 rfl (wn rfl) (R_alloc rfl al_row) (hL.alloc _ _) rfl (P4 3 22 21 0 rfl rfl rfl rfl) fun a12 w12 H12 hL' => ?_
  replace hL := hL'
  clear H11 hL'
  refine h_stL ((w8.heap.size, mcells (backM b) vo1 vs1, 29) :: (Ro1 ++ (Rs1 ++ []))) H12 rfl (wn rfl) (R_st H12 rfl rfl rfl (st_row (m2 := .zero) (vo2 := .slice none 0 0) (vs2 := .slice none 0 0) hL.at_ (mcells_one (slot_one ho1) (slot_one hs1)))) (hL.row _) fun a13 w13 H13 hL' => ?_
  replace hL := hL'
  clear H12 hL'
  refine h_op H13 rfl (wn rfl) (R_as H13 rfl rfl) rfl (P3 4 3 0 rfl rfl rfl) fun a14 H14 => ?_
  clear H13
  refine h_end ?_
  repeat (go_not_at_region 6; go_step)
  refine wp_region_lit ?_
  refine h_op H14 rfl (wn rfl) (R_mv H14 rfl rfl) rfl (P4 24 4 3 0 rfl rfl rfl rfl) fun a15 H15 => ?_
  clear H14
  refine h_call H15 rfl (wn rfl) (R_call1 H15 rfl rfl (fun w => by simp [go_sem])) rfl ?_
  refine (refRead_e hz hL).mono ?_
  rintro e w16 ⟨vo2, vs2, Ro2, Rs2, rfl, ho2, hs2, hL2⟩
  replace hL := hL2
  clear hL2
  refine ⟨_, rfl, fun a16 HH => ?_⟩
  have H16 := HH _ (P4 25 4 3 0 rfl rfl rfl rfl)
  clear HH H15
  refine h_op H16 rfl (wn rfl) (R_mv H16 rfl rfl) rfl (P4 23 4 3 0 rfl rfl rfl rfl) fun a17 H17 => ?_
  clear H16
  refine h_op H17 rfl (wn rfl) (R_ext H17 rfl rfl rfl) rfl (P5 26 23 4 3 0 rfl rfl rfl rfl rfl) fun a18 H18 => ?_
  clear H17
  refine h_op H18 rfl (wn rfl) (R_ext H18 rfl rfl rfl) rfl (P5 27 26 4 3 0 rfl rfl rfl rfl rfl) fun a19 H19 => ?_
  clear H18
  refine h_opL ((w16.heap.size, zcells, 29) :: (Ro2 ++ (Rs2 ++ ((w8.heap.size, mcells (backM b) vo1 vs1, 29) :: (Ro1 ++ (Rs1 ++ [])))))) H19 rfl (wn rfl) (R_alloc rfl al_row) (hL.alloc _ _) rfl (P6 5 27 26 4 3 0 rfl rfl rfl rfl rfl rfl) fun a20 w20 H20 hL' => ?_
  replace hL := hL'
  clear H19 hL'
  refine h_stL ((w16.heap.size, mcells (backM b) vo2 vs2, 29) :: (Ro2 ++ (Rs2 ++ ((w8.heap.size, mcells (backM b) vo1 vs1, 29) :: (Ro1 ++ (Rs1 ++ [])))))) H20 rfl (wn rfl) (R_st H20 rfl rfl rfl (st_row (m2 := .zero) (vo2 := .slice none 0 0) (vs2 := .slice none 0 0) hL.at_ (mcells_one (slot_one ho2) (slot_one hs2)))) (hL.row _) fun a21 w21 H21 hL' => ?_
  replace hL := hL'
  clear H20 hL'
  refine h_op H21 rfl (wn rfl) (R_as H21 rfl rfl) rfl (P5 6 5 4 3 0 rfl rfl rfl rfl rfl) fun a22 H22 => ?_
  clear H21
  refine h_end ?_
  have hsame : sameB (backM b) (backM b) = true := sameB_self _
  repeat (go_not_at_region 7; go_step)
  refine wp_region_lit ?_
  refine h_op H22 rfl (wn rfl) (R_mv H22 rfl rfl) rfl (P5 28 6 5 3 0 rfl rfl rfl rfl rfl) fun a23 H23 => ?_
  clear H22
  refine h_op H23 rfl (wn rfl) (R_mv H23 rfl rfl) rfl (P5 29 28 5 3 0 rfl rfl rfl rfl rfl) fun a24 H24 => ?_
  clear H23
  refine h_op H24 rfl (wn rfl) (R_bin H24 rfl rfl rfl (B_to (y := false) (B_ne Try.underlying3 _ _) (by simp))) rfl (P4 30 5 3 0 rfl rfl rfl rfl) fun a25 H25 => ?_
  clear H24
  refine h_op H25 rfl (wn rfl) (R_mv H25 rfl rfl) rfl (P4 31 5 3 0 rfl rfl rfl rfl) fun a26 H26 => ?_
  clear H25
  refine h_op H26 rfl (H26.wt rfl rfl rfl) (R_ld H26 rfl rfl (ld_row (m := backM b) (vo := vo1) (vs := vs1) (hL.mem_at (g := w8.heap.size) (by simp)))) rfl (P4 32 31 5 0 rfl rfl rfl rfl) fun a27 H27 => ?_
  clear H26
  refine h_op H27 rfl (H27.wt rfl rfl rfl) (R_ld H27 rfl rfl (ld_row (m := backM b) (vo := vo2) (vs := vs2) (hL.mem_at (g := w16.heap.size) (by simp)))) rfl (P4 33 32 31 0 rfl rfl rfl rfl) fun a28 H28 => ?_
  clear H27
  refine h_call H28 rfl (H28.wt rfl rfl rfl) (R_call2 H28 rfl rfl rfl (fun w => by simp [go_sem])) rfl ?_
  refine (refSame_any (ho1.rdm hL (fun p hp => by simp [hp])) (hs1.rdm hL (fun p hp => by simp [hp])) (ho2.rdm hL (fun p hp => by simp [hp])) (hs2.rdm hL (fun p hp => by simp [hp])) (by omega) (by omega) (by omega) (by omega)).mono ?_
  rintro e w29 ⟨rfl, hb⟩
  replace hL := hL.call hb
  clear hb
  rw [hsame]
  refine ⟨_, rfl, fun a29 HH => ?_⟩
  have H29 := HH _ (P3 34 31 0 rfl rfl rfl)
  clear HH H28
  refine h_op H29 rfl (H29.wt rfl rfl rfl) (R_not H29 rfl rfl) rfl (P3 35 31 0 rfl rfl rfl) fun a30 H30 => ?_
  clear H29
  refine h_op H30 rfl (wn rfl) (R_pick H30 rfl rfl rfl) rfl (P2 36 0 rfl rfl) fun a31 H31 => ?_
  clear H30
  refine h_end ?_
  repeat (go_not_at_region 9; go_step)
  refine wp_cond_false (H31.ev (x := .tmp 36) rfl) ?_
  repeat (go_not_at_region 9; go_step)
  refine wp_region_lit ?_
  refine h_op H31 rfl (wn rfl) (R_mv H31 rfl rfl) rfl (P2 38 0 rfl rfl) fun a32 H32 => ?_
  clear H31
  refine h_call H32 rfl (wn rfl) (R_call1 H32 rfl rfl (fun w => by simp [go_sem])) rfl ?_
  refine (Of_e hz hL).mono ?_
  rintro e w33 ⟨vo3, vs3, Ro3, Rs3, rfl, ho3, hs3, hL2, lo3, ls3⟩
  replace hL := hL2
  clear hL2
  refine ⟨_, rfl, fun a33 HH => ?_⟩
  have H33 := HH _ (P2 39 0 rfl rfl)
  clear HH H32
  refine h_op H33 rfl (wn rfl) (R_mv H33 rfl rfl) rfl (P2 37 0 rfl rfl) fun a34 H34 => ?_
  clear H33
  refine h_op H34 rfl (wn rfl) (R_ext H34 rfl rfl rfl) rfl (P3 40 37 0 rfl rfl rfl) fun a35 H35 => ?_
  clear H34
  refine h_op H35 rfl (wn rfl) (R_ext H35 rfl rfl rfl) rfl (P3 41 40 0 rfl rfl rfl) fun a36 H36 => ?_
  clear H35
  refine h_opL ((w33.heap.size, zcells, 29) :: (Ro3 ++ (Rs3 ++ ((w16.heap.size, mcells (backM b) vo2 vs2, 29) :: (Ro2 ++ (Rs2 ++ ((w8.heap.size, mcells (backM b) vo1 vs1, 29) :: (Ro1 ++ (Rs1 ++ []))))))))) H36 rfl (wn rfl) (R_alloc rfl al_row) (hL.alloc _ _) rfl (P4 7 41 40 0 rfl rfl rfl rfl) fun a37 w37 H37 hL' => ?_
  replace hL := hL'
  clear H36 hL'
  refine h_stL ((w33.heap.size, mcells (backO b) vo3 vs3, 29) :: (Ro3 ++ (Rs3 ++ ((w16.heap.size, mcells (backM b) vo2 vs2, 29) :: (Ro2 ++ (Rs2 ++ ((w8.heap.size, mcells (backM b) vo1 vs1, 29) :: (Ro1 ++ (Rs1 ++ []))))))))) H37 rfl (wn rfl) (R_st H37 rfl rfl rfl (st_row (m2 := .zero) (vo2 := .slice none 0 0) (vs2 := .slice none 0 0) hL.at_ (mcells_one (slot_one ho3) (slot_one hs3)))) (hL.row _) fun a38 w38 H38 hL' => ?_
  replace hL := hL'
  clear H37 hL'
  refine h_op H38 rfl (wn rfl) (R_as H38 rfl rfl) rfl (P3 8 7 0 rfl rfl rfl) fun a39 H39 => ?_
  clear H38
  refine h_end ?_
  repeat (go_not_at_region 10; go_step)
  have hq := fun w => rNext_any (W := w) hz
  cases hN : nextM b with
  | error f =>
    have hnE : nextE b = #[.string .empty, .int .i64 0, .int .i64 f] := by unfold nextE; rw [hN]
    have hO1 : errO b = f := by unfold errO ofM wholeM; rw [hN]
    have hO2 : backO b = .zero := by unfold backO ofM wholeM; rw [hN]
    have hf := next_ne hN
    rw [hnE] at hq
    refine wp_region_lit ?_
    refine h_op H39 rfl (wn rfl) (R_mv H39 rfl rfl) rfl (P4 43 8 7 0 rfl rfl rfl rfl) fun a40 H40 => ?_
    clear H39
    refine h_call H40 rfl (wn rfl) (R_call2 H40 rfl rfl rfl (fun w => by simp [go_sem])) rfl ?_
    refine (hq _).mono ?_
    rintro e w41 ⟨rfl, hb⟩
    replace hL := hL.call hb
    clear hb
    refine ⟨_, rfl, fun a41 HH => ?_⟩
    have H41 := HH _ (P4 44 8 7 0 rfl rfl rfl rfl)
    clear HH H40
    refine h_op H41 rfl (wn rfl) (R_mv H41 rfl rfl) rfl (P4 42 8 7 0 rfl rfl rfl rfl) fun a42 H42 => ?_
    clear H41
    refine h_op H42 rfl (wn rfl) (R_ext H42 rfl rfl rfl) rfl (P5 45 42 8 7 0 rfl rfl rfl rfl rfl) fun a43 H43 => ?_
    clear H42
    refine h_op H43 rfl (wn rfl) (R_ext H43 rfl rfl rfl) rfl (P6 46 45 42 8 7 0 rfl rfl rfl rfl rfl rfl) fun a44 H44 => ?_
    clear H43
    refine h_op H44 rfl (wn rfl) (R_ext H44 rfl rfl rfl) rfl (P6 47 46 45 8 7 0 rfl rfl rfl rfl rfl rfl) fun a45 H45 => ?_
    clear H44
    refine h_op H45 rfl (wn rfl) (R_as H45 rfl rfl) rfl (P6 9 47 46 8 7 0 rfl rfl rfl rfl rfl rfl) fun a46 H46 => ?_
    clear H45
    refine h_op H46 rfl (wn rfl) (R_as H46 rfl rfl) rfl (P6 10 9 47 8 7 0 rfl rfl rfl rfl rfl rfl) fun a47 H47 => ?_
    clear H46
    refine h_op H47 rfl (wn rfl) (R_as H47 rfl rfl) rfl (P6 11 10 9 8 7 0 rfl rfl rfl rfl rfl rfl) fun a48 H48 => ?_
    clear H47
    refine h_end ?_
    repeat (go_not_at_region 11; go_step)
    refine wp_region_lit ?_
    refine h_opL ((w41.heap.size, zcells, 29) :: ((w33.heap.size, mcells (backO b) vo3 vs3, 29) :: (Ro3 ++ (Rs3 ++ ((w16.heap.size, mcells (backM b) vo2 vs2, 29) :: (Ro2 ++ (Rs2 ++ ((w8.heap.size, mcells (backM b) vo1 vs1, 29) :: (Ro1 ++ (Rs1 ++ [])))))))))) H48 rfl (wn rfl) (R_alloc rfl al_row) (hL.alloc _ _) rfl (P7 12 11 10 9 8 7 0 rfl rfl rfl rfl rfl rfl rfl) fun a49 w49 H49 hL' => ?_
    replace hL := hL'
    clear H48 hL'
    refine h_end ?_
    repeat (go_not_at_region 12; go_step)
    refine wp_region_lit ?_
    refine h_op H49 rfl (wn rfl) (R_mv H49 rfl rfl) rfl (P7 48 12 11 10 8 7 0 rfl rfl rfl rfl rfl rfl rfl) fun a50 H50 => ?_
    clear H49
    refine h_op H50 rfl (wn rfl) (R_bin H50 rfl rfl rfl (B_to (y := false) (B_eq Try.underlying3 _ _) (beq_eq_false_iff_ne.2 hf))) rfl (P7 49 12 11 10 8 7 0 rfl rfl rfl rfl rfl rfl rfl) fun a51 H51 => ?_
    clear H50
    refine h_op H51 rfl (wn rfl) (R_mv H51 rfl rfl) rfl (P7 50 12 11 10 8 7 0 rfl rfl rfl rfl rfl rfl rfl) fun a52 H52 => ?_
    clear H51
    refine h_skip H52 rfl (H52.wf rfl rfl rfl) rfl (P7 51 50 12 11 8 7 0 rfl rfl rfl rfl rfl rfl rfl) fun a53 H53 => ?_
    clear H52
    refine h_skip H53 rfl (H53.wf rfl rfl rfl) rfl (P7 52 51 50 12 11 8 7 rfl rfl rfl rfl rfl rfl rfl) fun a54 H54 => ?_
    clear H53
    refine h_skip H54 rfl (H54.wf rfl rfl rfl) rfl (P7 53 51 50 12 11 8 7 rfl rfl rfl rfl rfl rfl rfl) fun a55 H55 => ?_
    clear H54
    refine h_skip H55 rfl (H55.wf rfl rfl rfl) rfl (P6 54 50 12 11 8 7 rfl rfl rfl rfl rfl rfl) fun a56 H56 => ?_
    clear H55
    refine h_op H56 rfl (wn rfl) (R_pick H56 rfl rfl rfl) rfl (P5 55 12 11 8 7 rfl rfl rfl rfl rfl) fun a57 H57 => ?_
    clear H56
    refine h_end ?_
    repeat (go_not_at_region 14; go_step)
    refine wp_cond_false (H57.ev (x := .tmp 55) rfl) ?_
    repeat (go_not_at_region 14; go_step)
    refine wp_region_lit ?_
    refine h_op H57 rfl (wn rfl) (R_mv H57 rfl rfl) rfl (P5 56 12 11 8 7 rfl rfl rfl rfl rfl) fun a58 H58 => ?_
    clear H57
    refine h_op H58 rfl (wn rfl) (R_bin H58 rfl rfl rfl (B_to (y := false) (B_eq Try.underlying3 _ _) (beq_eq_false_iff_ne.2 hf))) rfl (P5 57 12 11 8 7 rfl rfl rfl rfl rfl) fun a59 H59 => ?_
    clear H58
    refine h_end ?_
    repeat (go_not_at_region 16; go_step)
    refine wp_cond_false (H59.ev (x := .tmp 57) rfl) ?_
    repeat (go_not_at_region 16; go_step)
    repeat (go_not_at_region 16; go_step)
    refine wp_region_lit ?_
    refine h_op H59 rfl (wn rfl) (R_mv H59 rfl rfl) rfl (P4 63 12 11 7 rfl rfl rfl rfl) fun a60 H60 => ?_
    clear H59
    refine h_op H60 rfl (wn rfl) (R_mv H60 rfl rfl) rfl (P4 64 63 12 7 rfl rfl rfl rfl) fun a61 H61 => ?_
    clear H60
    refine h_op H61 rfl (wn rfl) (R_bin H61 rfl rfl rfl (B_to (y := true) (B_eq Try.underlying3 _ _) (beq_iff_eq.2 hO1))) rfl (P3 65 12 7 rfl rfl rfl) fun a62 H62 => ?_
    clear H61
    refine h_op H62 rfl (wn rfl) (R_mv H62 rfl rfl) rfl (P3 66 12 7 rfl rfl rfl) fun a63 H63 => ?_
    clear H62
    refine h_op H63 rfl (H63.wt rfl rfl rfl) (R_ld H63 rfl rfl (ld_row (m := backO b) (vo := vo3) (vs := vs3) (hL.mem_at (g := w33.heap.size) (by simp)))) rfl (P3 67 66 12 rfl rfl rfl) fun a64 H64 => ?_
    clear H63
    refine h_op H64 rfl (H64.wt rfl rfl rfl) (R_ld H64 rfl rfl (ld_row (m := .zero) (vo := .slice none 0 0) (vs := .slice none 0 0) (hL.mem_at (g := w41.heap.size) (by simp)))) rfl (P3 68 67 66 rfl rfl rfl) fun a65 H65 => ?_
    clear H64
    refine h_call H65 rfl (H65.wt rfl rfl rfl) (R_call2 H65 rfl rfl rfl (fun w => by simp [go_sem])) rfl ?_
    refine (refSame_any (ho3.rdm hL (fun p hp => by simp [hp])) (hs3.rdm hL (fun p hp => by simp [hp])) (rd_nul _) (rd_nul _) (by omega) (by omega) (Nat.zero_le _) (Nat.zero_le _)).mono ?_
    rintro e w66 ⟨rfl, hb⟩
    replace hL := hL.call hb
    clear hb
    rw [show sameB (backO b) .zero = true by rw [hO2]; exact sameB_self _]
    refine ⟨_, rfl, fun a66 HH => ?_⟩
    have H66 := HH _ (P2 69 66 rfl rfl)
    clear HH H65
    refine h_op H66 rfl (wn rfl) (R_pick H66 rfl rfl rfl) rfl (P1 70 rfl) fun a67 H67 => ?_
    clear H66
    refine h_op H67 rfl (wn rfl) (R_as H67 rfl rfl) rfl (P1 2 rfl) fun a68 H68 => ?_
    clear H67
    refine h_end ?_
    repeat (go_not_at_region 999; go_step)
    refine H68.ret1 (v := .bool true) rfl rfl ?_
    exact ⟨rfl, hL.1⟩
  | ok x =>
    obtain ⟨t, z⟩ := x
    have hnE : nextE b = #[.string t, .int .i64 (z : Nat), .int .i64 0] := by unfold nextE; rw [hN]
    have htz : t.size ≤ b.size := next_size hN
    rw [hnE] at hq
    refine wp_region_lit ?_
    refine h_op H39 rfl (wn rfl) (R_mv H39 rfl rfl) rfl (P4 43 8 7 0 rfl rfl rfl rfl) fun a40 H40 => ?_
    clear H39
    refine h_call H40 rfl (wn rfl) (R_call2 H40 rfl rfl rfl (fun w => by simp [go_sem])) rfl ?_
    refine (hq _).mono ?_
    rintro e w41 ⟨rfl, hb⟩
    replace hL := hL.call hb
    clear hb
    refine ⟨_, rfl, fun a41 HH => ?_⟩
    have H41 := HH _ (P4 44 8 7 0 rfl rfl rfl rfl)
    clear HH H40
    refine h_op H41 rfl (wn rfl) (R_mv H41 rfl rfl) rfl (P4 42 8 7 0 rfl rfl rfl rfl) fun a42 H42 => ?_
    clear H41
    refine h_op H42 rfl (wn rfl) (R_ext H42 rfl rfl rfl) rfl (P5 45 42 8 7 0 rfl rfl rfl rfl rfl) fun a43 H43 => ?_
    clear H42
    refine h_op H43 rfl (wn rfl) (R_ext H43 rfl rfl rfl) rfl (P6 46 45 42 8 7 0 rfl rfl rfl rfl rfl rfl) fun a44 H44 => ?_
    clear H43
    refine h_op H44 rfl (wn rfl) (R_ext H44 rfl rfl rfl) rfl (P6 47 46 45 8 7 0 rfl rfl rfl rfl rfl rfl) fun a45 H45 => ?_
    clear H44
    refine h_op H45 rfl (wn rfl) (R_as H45 rfl rfl) rfl (P6 9 47 46 8 7 0 rfl rfl rfl rfl rfl rfl) fun a46 H46 => ?_
    clear H45
    refine h_op H46 rfl (wn rfl) (R_as H46 rfl rfl) rfl (P6 10 9 47 8 7 0 rfl rfl rfl rfl rfl rfl) fun a47 H47 => ?_
    clear H46
    refine h_op H47 rfl (wn rfl) (R_as H47 rfl rfl) rfl (P6 11 10 9 8 7 0 rfl rfl rfl rfl rfl rfl) fun a48 H48 => ?_
    clear H47
    refine h_end ?_
    repeat (go_not_at_region 11; go_step)
    refine wp_region_lit ?_
    refine h_opL ((w41.heap.size, zcells, 29) :: ((w33.heap.size, mcells (backO b) vo3 vs3, 29) :: (Ro3 ++ (Rs3 ++ ((w16.heap.size, mcells (backM b) vo2 vs2, 29) :: (Ro2 ++ (Rs2 ++ ((w8.heap.size, mcells (backM b) vo1 vs1, 29) :: (Ro1 ++ (Rs1 ++ [])))))))))) H48 rfl (wn rfl) (R_alloc rfl al_row) (hL.alloc _ _) rfl (P7 12 11 10 9 8 7 0 rfl rfl rfl rfl rfl rfl rfl) fun a49 w49 H49 hL' => ?_
    replace hL := hL'
    clear H48 hL'
    refine h_end ?_
    by_cases hto : z = b.size
    · have hW : wholeM b = .ok t := by unfold wholeM; rw [hN]; exact if_neg (fun h => h hto)
      have hO1 : errO b = errR t := by unfold errO errR ofM; rw [hW]
      have hO2 : backO b = backM t := by unfold backO backM ofM; rw [hW]; rfl
      repeat (go_not_at_region 12; go_step)
      refine wp_region_lit ?_
      refine h_op H49 rfl (wn rfl) (R_mv H49 rfl rfl) rfl (P8 48 12 11 10 9 8 7 0 rfl rfl rfl rfl rfl rfl rfl rfl) fun a50 H50 => ?_
      clear H49
      refine h_op H50 rfl (wn rfl) (R_bin H50 rfl rfl rfl (B_to (y := true) (B_eq Try.underlying3 _ _) (by decide))) rfl (P8 49 12 11 10 9 8 7 0 rfl rfl rfl rfl rfl rfl rfl rfl) fun a51 H51 => ?_
      clear H50
      refine h_op H51 rfl (wn rfl) (R_mv H51 rfl rfl) rfl (P8 50 12 11 10 9 8 7 0 rfl rfl rfl rfl rfl rfl rfl rfl) fun a52 H52 => ?_
      clear H51
      refine h_op H52 rfl (H52.wt rfl rfl rfl) (R_mv H52 rfl rfl) rfl (P8 51 50 12 11 9 8 7 0 rfl rfl rfl rfl rfl rfl rfl rfl) fun a53 H53 => ?_
      clear H52
      refine h_op H53 rfl (H53.wt rfl rfl rfl) (R_mv H53 rfl rfl) rfl (P8 52 51 50 12 11 9 8 7 rfl rfl rfl rfl rfl rfl rfl rfl) fun a54 H54 => ?_
      clear H53
      refine h_op H54 rfl (H54.wt rfl rfl rfl) (R_len H54 rfl rfl Try.underlying9) rfl (P8 53 51 50 12 11 9 8 7 rfl rfl rfl rfl rfl rfl rfl rfl) fun a55 H55 => ?_
      clear H54
      refine h_op H55 rfl (H55.wt rfl rfl rfl) (R_bin H55 rfl rfl rfl (B_to (y := false) (B_ne Try.underlying3 _ _) (by simp [hto]))) rfl (P7 54 50 12 11 9 8 7 rfl rfl rfl rfl rfl rfl rfl) fun a56 H56 => ?_
      clear H55
      refine h_op H56 rfl (wn rfl) (R_pick H56 rfl rfl rfl) rfl (P6 55 12 11 9 8 7 rfl rfl rfl rfl rfl rfl) fun a57 H57 => ?_
      clear H56
      refine h_end ?_
      repeat (go_not_at_region 14; go_step)
      refine wp_cond_false (H57.ev (x := .tmp 55) rfl) ?_
      repeat (go_not_at_region 14; go_step)
      refine wp_region_lit ?_
      refine h_op H57 rfl (wn rfl) (R_mv H57 rfl rfl) rfl (P6 56 12 11 9 8 7 rfl rfl rfl rfl rfl rfl) fun a58 H58 => ?_
      clear H57
      refine h_op H58 rfl (wn rfl) (R_bin H58 rfl rfl rfl (B_to (y := true) (B_eq Try.underlying3 _ _) (by decide))) rfl (P6 57 12 11 9 8 7 rfl rfl rfl rfl rfl rfl) fun a59 H59 => ?_
      clear H58
      refine h_end ?_
      repeat (go_not_at_region 15; go_step)
      refine wp_cond_true (H59.ev (x := .tmp 57) rfl) ?_
      repeat (go_not_at_region 15; go_step)
      refine wp_region_lit ?_
      refine h_op H59 rfl (wn rfl) (R_mv H59 rfl rfl) rfl (P5 59 12 11 8 7 rfl rfl rfl rfl rfl) fun a60 H60 => ?_
      clear H59
      refine h_call H60 rfl (wn rfl) (R_call1 H60 rfl rfl (fun w => by simp [go_sem])) rfl ?_
      refine (refRead_e (show t.size < 140737488351233 by omega) hL).mono ?_
      rintro e w61 ⟨vo5, vs5, Ro5, Rs5, rfl, ho5, hs5, hL2⟩
      replace hL := hL2.perm (L' := ((w41.heap.size, zcells, 29) :: (Ro5 ++ (Rs5 ++ ((w33.heap.size, mcells (backO b) vo3 vs3, 29) :: (Ro3 ++ (Rs3 ++ ((w16.heap.size, mcells (backM b) vo2 vs2, 29) :: (Ro2 ++ (Rs2 ++ ((w8.heap.size, mcells (backM b) vo1 vs1, 29) :: (Ro1 ++ (Rs1 ++ []))))))))))))) (((List.perm_middle (l₁ := Rs5)).append_left Ro5).trans (List.perm_middle (l₁ := Ro5)))
      clear hL2
      refine ⟨_, rfl, fun a61 HH => ?_⟩
      have H61 := HH _ (P5 60 12 11 8 7 rfl rfl rfl rfl rfl)
      clear HH H60
      refine h_op H61 rfl (wn rfl) (R_mv H61 rfl rfl) rfl (P5 58 12 11 8 7 rfl rfl rfl rfl rfl) fun a62 H62 => ?_
      clear H61
      refine h_op H62 rfl (wn rfl) (R_ext H62 rfl rfl rfl) rfl (P6 61 58 12 11 8 7 rfl rfl rfl rfl rfl rfl) fun a63 H63 => ?_
      clear H62
      refine h_op H63 rfl (wn rfl) (R_ext H63 rfl rfl rfl) rfl (P6 62 61 12 11 8 7 rfl rfl rfl rfl rfl rfl) fun a64 H64 => ?_
      clear H63
      refine h_stL ((w41.heap.size, mcells (backM t) vo5 vs5, 29) :: (Ro5 ++ (Rs5 ++ ((w33.heap.size, mcells (backO b) vo3 vs3, 29) :: (Ro3 ++ (Rs3 ++ ((w16.heap.size, mcells (backM b) vo2 vs2, 29) :: (Ro2 ++ (Rs2 ++ ((w8.heap.size, mcells (backM b) vo1 vs1, 29) :: (Ro1 ++ (Rs1 ++ [])))))))))))) H64 rfl (wn rfl) (R_st H64 rfl rfl rfl (st_row (m2 := .zero) (vo2 := .slice none 0 0) (vs2 := .slice none 0 0) hL.at_ (mcells_one (slot_one ho5) (slot_one hs5)))) (hL.row _) fun a65 w65 H65 hL' => ?_
      replace hL := hL'
      clear H64 hL'
      refine h_op H65 rfl (wn rfl) (R_as H65 rfl rfl) rfl (P4 11 12 8 7 rfl rfl rfl rfl) fun a66 H66 => ?_
      clear H65
      refine h_end ?_
      repeat (go_not_at_region 16; go_step)
      repeat (go_not_at_region 16; go_step)
      refine wp_region_lit ?_
      refine h_op H66 rfl (wn rfl) (R_mv H66 rfl rfl) rfl (P4 63 11 12 7 rfl rfl rfl rfl) fun a67 H67 => ?_
      clear H66
      refine h_op H67 rfl (wn rfl) (R_mv H67 rfl rfl) rfl (P4 64 63 12 7 rfl rfl rfl rfl) fun a68 H68 => ?_
      clear H67
      refine h_op H68 rfl (wn rfl) (R_bin H68 rfl rfl rfl (B_to (y := true) (B_eq Try.underlying3 _ _) (beq_iff_eq.2 hO1))) rfl (P3 65 12 7 rfl rfl rfl) fun a69 H69 => ?_
      clear H68
      refine h_op H69 rfl (wn rfl) (R_mv H69 rfl rfl) rfl (P3 66 12 7 rfl rfl rfl) fun a70 H70 => ?_
      clear H69
      refine h_op H70 rfl (H70.wt rfl rfl rfl) (R_ld H70 rfl rfl (ld_row (m := backO b) (vo := vo3) (vs := vs3) (hL.mem_at (g := w33.heap.size) (by simp)))) rfl (P3 67 66 12 rfl rfl rfl) fun a71 H71 => ?_
      clear H70
      refine h_op H71 rfl (H71.wt rfl rfl rfl) (R_ld H71 rfl rfl (ld_row (m := backM t) (vo := vo5) (vs := vs5) (hL.mem_at (g := w41.heap.size) (by simp)))) rfl (P3 68 67 66 rfl rfl rfl) fun a72 H72 => ?_
      clear H71
      refine h_call H72 rfl (H72.wt rfl rfl rfl) (R_call2 H72 rfl rfl rfl (fun w => by simp [go_sem])) rfl ?_
      refine (refSame_any (ho3.rdm hL (fun p hp => by simp [hp])) (hs3.rdm hL (fun p hp => by simp [hp])) (ho5.rdm hL (fun p hp => by simp [hp])) (hs5.rdm hL (fun p hp => by simp [hp])) (by omega) (by omega) (by rw [← hO2]; omega) (by rw [← hO2]; omega)).mono ?_
      rintro e w73 ⟨rfl, hb⟩
      replace hL := hL.call hb
      clear hb
      rw [show sameB (backO b) (backM t) = true by rw [hO2]; exact sameB_self _]
      refine ⟨_, rfl, fun a73 HH => ?_⟩
      have H73 := HH _ (P2 69 66 rfl rfl)
      clear HH H72
      refine h_op H73 rfl (wn rfl) (R_pick H73 rfl rfl rfl) rfl (P1 70 rfl) fun a74 H74 => ?_
      clear H73
      refine h_op H74 rfl (wn rfl) (R_as H74 rfl rfl) rfl (P1 2 rfl) fun a75 H75 => ?_
      clear H74
      refine h_end ?_
      repeat (go_not_at_region 999; go_step)
      refine H75.ret1 (v := .bool true) rfl rfl ?_
      exact ⟨rfl, hL.1⟩
    · have hW : wholeM b = .error 8 := by unfold wholeM; rw [hN]; exact if_pos hto
      have hO1 : errO b = 8 := by unfold errO ofM; rw [hW]
      have hO2 : backO b = .zero := by unfold backO ofM; rw [hW]
      repeat (go_not_at_region 12; go_step)
      refine wp_region_lit ?_
      refine h_op H49 rfl (wn rfl) (R_mv H49 rfl rfl) rfl (P8 48 12 11 10 9 8 7 0 rfl rfl rfl rfl rfl rfl rfl rfl) fun a50 H50 => ?_
      clear H49
      refine h_op H50 rfl (wn rfl) (R_bin H50 rfl rfl rfl (B_to (y := true) (B_eq Try.underlying3 _ _) (by decide))) rfl (P8 49 12 11 10 9 8 7 0 rfl rfl rfl rfl rfl rfl rfl rfl) fun a51 H51 => ?_
      clear H50
      refine h_op H51 rfl (wn rfl) (R_mv H51 rfl rfl) rfl (P8 50 12 11 10 9 8 7 0 rfl rfl rfl rfl rfl rfl rfl rfl) fun a52 H52 => ?_
      clear H51
      refine h_op H52 rfl (H52.wt rfl rfl rfl) (R_mv H52 rfl rfl) rfl (P8 51 50 12 11 9 8 7 0 rfl rfl rfl rfl rfl rfl rfl rfl) fun a53 H53 => ?_
      clear H52
      refine h_op H53 rfl (H53.wt rfl rfl rfl) (R_mv H53 rfl rfl) rfl (P8 52 51 50 12 11 9 8 7 rfl rfl rfl rfl rfl rfl rfl rfl) fun a54 H54 => ?_
      clear H53
      refine h_op H54 rfl (H54.wt rfl rfl rfl) (R_len H54 rfl rfl Try.underlying9) rfl (P8 53 51 50 12 11 9 8 7 rfl rfl rfl rfl rfl rfl rfl rfl) fun a55 H55 => ?_
      clear H54
      refine h_op H55 rfl (H55.wt rfl rfl rfl) (R_bin H55 rfl rfl rfl (B_to (y := true) (B_ne Try.underlying3 _ _) (bne_iff_ne.2 (by omega)))) rfl (P7 54 50 12 11 9 8 7 rfl rfl rfl rfl rfl rfl rfl) fun a56 H56 => ?_
      clear H55
      refine h_op H56 rfl (wn rfl) (R_pick H56 rfl rfl rfl) rfl (P6 55 12 11 9 8 7 rfl rfl rfl rfl rfl rfl) fun a57 H57 => ?_
      clear H56
      refine h_end ?_
      repeat (go_not_at_region 13; go_step)
      refine wp_cond_true (H57.ev (x := .tmp 55) rfl) ?_
      repeat (go_not_at_region 13; go_step)
      refine wp_region_lit ?_
      refine h_op H57 rfl (wn rfl) (R_as H57 rfl rfl) rfl (P4 11 12 8 7 rfl rfl rfl rfl) fun a58 H58 => ?_
      clear H57
      refine h_end ?_
      repeat (go_not_at_region 14; go_step)
      refine wp_region_lit ?_
      refine h_op H58 rfl (wn rfl) (R_mv H58 rfl rfl) rfl (P5 56 11 12 8 7 rfl rfl rfl rfl rfl) fun a59 H59 => ?_
      clear H58
      refine h_op H59 rfl (wn rfl) (R_bin H59 rfl rfl rfl (B_to (y := false) (B_eq Try.underlying3 _ _) (by decide))) rfl (P5 57 11 12 8 7 rfl rfl rfl rfl rfl) fun a60 H60 => ?_
      clear H59
      refine h_end ?_
      repeat (go_not_at_region 16; go_step)
      refine wp_cond_false (H60.ev (x := .tmp 57) rfl) ?_
      repeat (go_not_at_region 16; go_step)
      repeat (go_not_at_region 16; go_step)
      refine wp_region_lit ?_
      refine h_op H60 rfl (wn rfl) (R_mv H60 rfl rfl) rfl (P4 63 11 12 7 rfl rfl rfl rfl) fun a61 H61 => ?_
      clear H60
      refine h_op H61 rfl (wn rfl) (R_mv H61 rfl rfl) rfl (P4 64 63 12 7 rfl rfl rfl rfl) fun a62 H62 => ?_
      clear H61
      refine h_op H62 rfl (wn rfl) (R_bin H62 rfl rfl rfl (B_to (y := true) (B_eq Try.underlying3 _ _) (beq_iff_eq.2 hO1))) rfl (P3 65 12 7 rfl rfl rfl) fun a63 H63 => ?_
      clear H62
      refine h_op H63 rfl (wn rfl) (R_mv H63 rfl rfl) rfl (P3 66 12 7 rfl rfl rfl) fun a64 H64 => ?_
      clear H63
      refine h_op H64 rfl (H64.wt rfl rfl rfl) (R_ld H64 rfl rfl (ld_row (m := backO b) (vo := vo3) (vs := vs3) (hL.mem_at (g := w33.heap.size) (by simp)))) rfl (P3 67 66 12 rfl rfl rfl) fun a65 H65 => ?_
      clear H64
      refine h_op H65 rfl (H65.wt rfl rfl rfl) (R_ld H65 rfl rfl (ld_row (m := .zero) (vo := .slice none 0 0) (vs := .slice none 0 0) (hL.mem_at (g := w41.heap.size) (by simp)))) rfl (P3 68 67 66 rfl rfl rfl) fun a66 H66 => ?_
      clear H65
      refine h_call H66 rfl (H66.wt rfl rfl rfl) (R_call2 H66 rfl rfl rfl (fun w => by simp [go_sem])) rfl ?_
      refine (refSame_any (ho3.rdm hL (fun p hp => by simp [hp])) (hs3.rdm hL (fun p hp => by simp [hp])) (rd_nul _) (rd_nul _) (by omega) (by omega) (Nat.zero_le _) (Nat.zero_le _)).mono ?_
      rintro e w67 ⟨rfl, hb⟩
      replace hL := hL.call hb
      clear hb
      rw [show sameB (backO b) .zero = true by rw [hO2]; exact sameB_self _]
      refine ⟨_, rfl, fun a67 HH => ?_⟩
      have H67 := HH _ (P2 69 66 rfl rfl)
      clear HH H66
      refine h_op H67 rfl (wn rfl) (R_pick H67 rfl rfl rfl) rfl (P1 70 rfl) fun a68 H68 => ?_
      clear H67
      refine h_op H68 rfl (wn rfl) (R_as H68 rfl rfl) rfl (P1 2 rfl) fun a69 H69 => ?_
      clear H68
      refine h_end ?_
      repeat (go_not_at_region 999; go_step)
      refine H69.ret1 (v := .bool true) rfl rfl ?_
      exact ⟨rfl, hL.1⟩
end
end Go.Proofs.Ytmmhchpilcjflaa
