/-
  meterref04.Read: the other kinds; whatever text.
-/
import Derived.Test.YtmmhchpilcjflaaMsgXc
set_option linter.unusedSimpArgs false
set_option linter.unusedVariables false
namespace Go.Proofs.Ytmmhchpilcjflaa
open Go.RowKit
section
variable {w0 W : World} {L : List Blk} {s : ByteArray} {k : Nat}
set_option maxRecDepth 100000 in
set_option maxHeartbeats 8000000 in
theorem rread_6 (hs : s.size < 140737488351233) (hL : Live w0 L W) (hK : byteE s 0 0 = (6, 1, 0)) : Calls Try.prog 23 #[.string s] W fun e W' => ReadQ w0 L (msgE s) e W' := by
  obtain ⟨Y, hY⟩ : ∃ Y, Y = msgE s := ⟨_, rfl⟩
  rw [← hY]
  obtain ⟨r, hr⟩ : ∃ r, r = body6 s 1 0 := ⟨_, rfl⟩
  rw [msgE_body hK (by decide) (by decide) (show bodyE s 6 1 0 = r from hr.symm)] at hY
  unfold body6 at hr
  simp only at hr
  go_enter Try.func23, Try.ntmps23
  refine wp_fr (n := 137) (m := [(0, _)]) ⟨rfl, rfl, by intro p hp; simp only [List.mem_cons, List.not_mem_nil, or_false] at hp; rcases hp with rfl <;> rfl⟩ fun a0 H0 => ?_
  repeat (go_not_at_region 0; go_step)
  refine wp_region_lit ?_
  refine h_opL ((W.heap.size, zcells, 29) :: L) H0 rfl (wn rfl) (R_alloc rfl al_row) (hL.alloc _ _) rfl (P2 2 0 rfl rfl) fun a1 w1 H1 hL' => ?_
  replace hL := hL'
  clear H0 hL'
  refine h_op H1 rfl (wn rfl) (R_as H1 rfl rfl) rfl (P2 2 0 rfl rfl) fun a2 H2 => ?_
  clear H1
  refine h_end ?_
  repeat (go_not_at_region 1; go_step)
  refine wp_region_lit ?_
  refine h_op H2 rfl (wn rfl) (R_mv H2 rfl rfl) rfl (P3 6 2 0 rfl rfl rfl) fun a3 H3 => ?_
  clear H2
  refine h_op H3 rfl (wn rfl) (R_bd1 H3 rfl rfl bd_in) rfl (P3 7 2 0 rfl rfl rfl) fun a4 H4 => ?_
  clear H3
  refine h_opL ((w1.heap.size, rcells s 0 0, 85) :: (W.heap.size, zcells, 29) :: L) H4 rfl (wn rfl) (R_box H4 rfl rfl bx_in) (hL.alloc _ _) rfl (P3 8 2 0 rfl rfl rfl) fun a5 w5 H5 hL' => ?_
  replace hL := hL'
  clear H4 hL'
  refine h_op H5 rfl (wn rfl) (R_as H5 rfl rfl) rfl (P3 4 2 0 rfl rfl rfl) fun a6 H6 => ?_
  clear H5
  refine h_end ?_
  repeat (go_not_at_region 2; go_step)
  refine wp_region_lit ?_
  refine h_opL ((w5.heap.size, zcells, 29) :: (W.heap.size, zcells, 29) :: (w1.heap.size, rcells s 0 0, 85) :: L) H6 rfl (wn rfl) (R_alloc rfl al_row) ((hL.alloc _ _).swap3) rfl (P4 5 4 2 0 rfl rfl rfl rfl) fun a7 w7 H7 hL' => ?_
  replace hL := hL'
  clear H6 hL'
  refine h_end ?_
  repeat (go_not_at_region 3; go_step)
  have hM := inByte_any hs (Nat.zero_le _) hL.third
  rw [hK] at hM
  simp only at hM
  refine wp_region_lit ?_
  refine h_op H7 rfl (wn rfl) (R_mv H7 rfl rfl) rfl (P5 9 5 4 2 0 rfl rfl rfl rfl rfl) fun a8 H8 => ?_
  clear H7
  refine h_call H8 rfl (wn rfl) (R_call1 H8 rfl rfl (fun w => by simp [go_sem])) rfl ?_
  refine hM.mono ?_
  rintro e w9 ⟨rfl, hL2⟩
  replace hL := hL2.back3
  clear hL2 hM
  refine ⟨_, rfl, fun a9 HH => ?_⟩
  have H9 := HH _ (P5 10 5 4 2 0 rfl rfl rfl rfl rfl)
  clear HH H8
  refine h_op H9 rfl (wn rfl) (R_fa H9 rfl rfl (fa29_0 _ _)) rfl (P6 11 10 5 4 2 0 rfl rfl rfl rfl rfl rfl) fun a10 H10 => ?_
  clear H9
  refine h_stL ((w5.heap.size, mcells { PMsg.zero with kind := 6 } (.slice none 0 0) (.slice none 0 0), 29) :: (W.heap.size, zcells, 29) :: (w1.heap.size, rcells s 1 0, 85) :: L) H10 rfl (wn rfl) (R_st H10 rfl rfl rfl (st_u8c hL rfl)) (hL.put 0 _) fun a11 w11 H11 hL' => ?_
  replace hL := hL'
  clear H10 hL'
  refine h_end ?_
  repeat (go_not_at_region 4; go_step)
  refine wp_region_lit ?_
  refine h_op H11 rfl (wn rfl) (R_mv H11 rfl rfl) rfl (P5 12 5 4 2 0 rfl rfl rfl rfl rfl) fun a12 H12 => ?_
  clear H11
  refine h_op H12 rfl (wn rfl) (R_nc H12 rfl rfl) rfl (P5 13 5 4 2 0 rfl rfl rfl rfl rfl) fun a13 H13 => ?_
  clear H12
  refine h_op H13 rfl (wn rfl) (R_fa H13 rfl rfl (fr_2 _ _)) rfl (P5 14 5 4 2 0 rfl rfl rfl rfl rfl) fun a14 H14 => ?_
  clear H13
  refine h_op H14 rfl (wn rfl) (R_ld H14 rfl rfl (ld_int (hL.third.cell 2))) rfl (P5 15 5 4 2 0 rfl rfl rfl rfl rfl) fun a15 H15 => ?_
  clear H14
  refine h_op H15 rfl (wn rfl) (R_bin H15 rfl rfl rfl (B_to (y := false) (B_ne Try.underlying3 _ _) (by decide))) rfl (P5 16 5 4 2 0 rfl rfl rfl rfl rfl) fun a16 H16 => ?_
  clear H15
  refine h_end ?_
  repeat (go_not_at_region 6; go_step)
  refine wp_cond_false (H16.ev (x := .tmp 16) rfl) ?_
  repeat (go_not_at_region 6; go_step)
  refine wp_region_lit ?_
  refine h_op H16 rfl (wn rfl) (R_fa H16 rfl rfl (fa29_0 _ _)) rfl (P5 22 5 4 2 0 rfl rfl rfl rfl rfl) fun a17 H17 => ?_
  clear H16
  refine h_op H17 rfl (wn rfl) (R_ld H17 rfl rfl (ld_u8k (c := 6) (hL.cell 0) rfl)) rfl (P5 23 5 4 2 0 rfl rfl rfl rfl rfl) fun a18 H18 => ?_
  clear H17
  refine h_op H18 rfl (wn rfl) (R_bin H18 rfl rfl rfl (B_to (y := false) (B8_lt _ _) (by decide))) rfl (P5 24 5 4 2 0 rfl rfl rfl rfl rfl) fun a19 H19 => ?_
  clear H18
  refine h_op H19 rfl (wn rfl) (R_mv H19 rfl rfl) rfl (P5 25 5 4 2 0 rfl rfl rfl rfl rfl) fun a20 H20 => ?_
  clear H19
  refine h_op H20 rfl (H20.wt rfl rfl rfl) (R_fa H20 rfl rfl (fa29_0 _ _)) rfl (P6 26 25 5 4 2 0 rfl rfl rfl rfl rfl rfl) fun a21 H21 => ?_
  clear H20
  refine h_op H21 rfl (H21.wt rfl rfl rfl) (R_ld H21 rfl rfl (ld_u8k (c := 6) (hL.cell 0) rfl)) rfl (P6 27 25 5 4 2 0 rfl rfl rfl rfl rfl rfl) fun a22 H22 => ?_
  clear H21
  refine h_op H22 rfl (H22.wt rfl rfl rfl) (R_bin H22 rfl rfl rfl (B_to (y := false) (B8_gt _ _) (by decide))) rfl (P6 28 25 5 4 2 0 rfl rfl rfl rfl rfl rfl) fun a23 H23 => ?_
  clear H22
  refine h_op H23 rfl (wn rfl) (R_pick H23 rfl rfl rfl) rfl (P5 29 5 4 2 0 rfl rfl rfl rfl rfl) fun a24 H24 => ?_
  clear H23
  refine h_end ?_
  repeat (go_not_at_region 8; go_step)
  refine wp_cond_false (H24.ev (x := .tmp 29) rfl) ?_
  repeat (go_not_at_region 8; go_step)
  refine wp_region_lit ?_
  refine h_op H24 rfl (wn rfl) (R_fa H24 rfl rfl (fa29_0 _ _)) rfl (P5 31 5 4 2 0 rfl rfl rfl rfl rfl) fun a25 H25 => ?_
  clear H24
  refine h_op H25 rfl (wn rfl) (R_ld H25 rfl rfl (ld_u8k (c := 6) (hL.cell 0) rfl)) rfl (P5 32 5 4 2 0 rfl rfl rfl rfl rfl) fun a26 H26 => ?_
  clear H25
  refine h_op H26 rfl (wn rfl) (R_bin H26 rfl rfl rfl (B_to (y := true) (B8_ge _ _) (by decide))) rfl (P5 33 5 4 2 0 rfl rfl rfl rfl rfl) fun a27 H27 => ?_
  clear H26
  refine h_op H27 rfl (wn rfl) (R_mv H27 rfl rfl) rfl (P5 34 5 4 2 0 rfl rfl rfl rfl rfl) fun a28 H28 => ?_
  clear H27
  refine h_op H28 rfl (H28.wt rfl rfl rfl) (R_fa H28 rfl rfl (fa29_0 _ _)) rfl (P6 35 34 5 4 2 0 rfl rfl rfl rfl rfl rfl) fun a29 H29 => ?_
  clear H28
  refine h_op H29 rfl (H29.wt rfl rfl rfl) (R_ld H29 rfl rfl (ld_u8k (c := 6) (hL.cell 0) rfl)) rfl (P6 36 34 5 4 2 0 rfl rfl rfl rfl rfl rfl) fun a30 H30 => ?_
  clear H29
  refine h_op H30 rfl (H30.wt rfl rfl rfl) (R_bin H30 rfl rfl rfl (B_to (y := true) (B8_le _ _) (by decide))) rfl (P6 37 34 5 4 2 0 rfl rfl rfl rfl rfl rfl) fun a31 H31 => ?_
  clear H30
  refine h_op H31 rfl (wn rfl) (R_pick H31 rfl rfl rfl) rfl (P5 38 5 4 2 0 rfl rfl rfl rfl rfl) fun a32 H32 => ?_
  clear H31
  refine h_end ?_
  repeat (go_not_at_region 9; go_step)
  refine wp_cond_true (H32.ev (x := .tmp 38) rfl) ?_
  repeat (go_not_at_region 9; go_step)
  have hM := inMost_any (m := 2147483647) (by decide) hs (show 1 ≤ s.size by have h := byteE_le (b := 0) (Nat.zero_le s.size); rw [hK] at h; exact h) hL.third
  have hle0 := mostE_le (m := 2147483647) (b := 0) (show 1 ≤ s.size by have h := byteE_le (b := 0) (Nat.zero_le s.size); rw [hK] at h; exact h)
  generalize mostE s 1 0 2147483647 = q0 at hM hle0 hr
  obtain ⟨x0, n0, b0⟩ := q0
  simp only at hM hle0 hr
  refine wp_region_lit ?_
  refine h_op H32 rfl (wn rfl) (R_mv H32 rfl rfl) rfl (P5 39 5 4 2 0 rfl rfl rfl rfl rfl) fun a33 H33 => ?_
  clear H32
  refine h_call H33 rfl (wn rfl) (R_call2 H33 rfl rfl rfl (fun w => by simp [go_sem])) rfl ?_
  refine hM.mono ?_
  rintro e w34 ⟨rfl, hL2⟩
  replace hL := hL2.back3
  clear hL2 hM
  refine ⟨_, rfl, fun a34 HH => ?_⟩
  have H34 := HH _ (P5 40 5 4 2 0 rfl rfl rfl rfl rfl)
  clear HH H33
  refine h_op H34 rfl (wn rfl) (R_fa H34 rfl rfl (fa29_1 _ _)) rfl (P6 41 40 5 4 2 0 rfl rfl rfl rfl rfl rfl) fun a35 H35 => ?_
  clear H34
  refine h_stL ((w5.heap.size, mcells { PMsg.zero with kind := 6, move := (x0 : Nat) } (.slice none 0 0) (.slice none 0 0), 29) :: (W.heap.size, zcells, 29) :: (w1.heap.size, rcells s n0 b0, 85) :: L) H35 rfl (wn rfl) (R_st H35 rfl rfl rfl (st_int hL rfl)) (hL.put 1 _) fun a36 w36 H36 hL' => ?_
  replace hL := hL'
  clear H35 hL'
  refine h_end ?_
  repeat (go_not_at_region 10; go_step)
  have hM := inMost_any (m := 2147483647) (by decide) hs hle0 hL.third
  have hle1 := mostE_le (m := 2147483647) (b := b0) hle0
  generalize mostE s n0 b0 2147483647 = q1 at hM hle1 hr
  obtain ⟨x1, n1, b1⟩ := q1
  simp only at hM hle1 hr
  refine wp_region_lit ?_
  refine h_op H36 rfl (wn rfl) (R_mv H36 rfl rfl) rfl (P5 42 5 4 2 0 rfl rfl rfl rfl rfl) fun a37 H37 => ?_
  clear H36
  refine h_call H37 rfl (wn rfl) (R_call2 H37 rfl rfl rfl (fun w => by simp [go_sem])) rfl ?_
  refine hM.mono ?_
  rintro e w38 ⟨rfl, hL2⟩
  replace hL := hL2.back3
  clear hL2 hM
  refine ⟨_, rfl, fun a38 HH => ?_⟩
  have H38 := HH _ (P5 43 5 4 2 0 rfl rfl rfl rfl rfl)
  clear HH H37
  refine h_op H38 rfl (wn rfl) (R_fa H38 rfl rfl (fa29_2 _ _)) rfl (P6 44 43 5 4 2 0 rfl rfl rfl rfl rfl rfl) fun a39 H39 => ?_
  clear H38
  refine h_stL ((w5.heap.size, mcells { PMsg.zero with kind := 6, move := (x0 : Nat), part := (x1 : Nat) } (.slice none 0 0) (.slice none 0 0), 29) :: (W.heap.size, zcells, 29) :: (w1.heap.size, rcells s n1 b1, 85) :: L) H39 rfl (wn rfl) (R_st H39 rfl rfl rfl (st_int hL rfl)) (hL.put 2 _) fun a40 w40 H40 hL' => ?_
  replace hL := hL'
  clear H39 hL'
  refine h_end ?_
  repeat (go_not_at_region 11; go_step)
  refine wp_region_lit ?_
  refine h_op H40 rfl (wn rfl) (R_fa H40 rfl rfl (fa29_0 _ _)) rfl (P5 45 5 4 2 0 rfl rfl rfl rfl rfl) fun a41 H41 => ?_
  clear H40
  refine h_op H41 rfl (wn rfl) (R_ld H41 rfl rfl (ld_u8k (c := 6) (hL.cell 0) rfl)) rfl (P5 46 5 4 2 0 rfl rfl rfl rfl rfl) fun a42 H42 => ?_
  clear H41
  refine h_end ?_
  repeat (go_not_at_region 12; go_step)
  refine wp_region_lit ?_
  refine h_op H42 rfl (wn rfl) (R_bin H42 rfl rfl rfl (B_to (y := false) (B8_eq _ _) (by decide))) rfl (P6 48 46 5 4 2 0 rfl rfl rfl rfl rfl rfl) fun a43 H43 => ?_
  clear H42
  refine h_op H43 rfl (wn rfl) (R_as H43 rfl rfl) rfl (P6 47 46 5 4 2 0 rfl rfl rfl rfl rfl rfl) fun a44 H44 => ?_
  clear H43
  refine h_end ?_
  repeat (go_not_at_region 14; go_step)
  refine wp_cond_false (H44.ev (x := .tmp 47) rfl) ?_
  repeat (go_not_at_region 14; go_step)
  repeat (go_not_at_region 14; go_step)
  refine wp_region_lit ?_
  refine h_op H44 rfl (wn rfl) (R_bin H44 rfl rfl rfl (B_to (y := false) (B8_eq _ _) (by decide))) rfl (P6 53 46 5 4 2 0 rfl rfl rfl rfl rfl rfl) fun a45 H45 => ?_
  clear H44
  refine h_op H45 rfl (wn rfl) (R_as H45 rfl rfl) rfl (P6 52 46 5 4 2 0 rfl rfl rfl rfl rfl rfl) fun a46 H46 => ?_
  clear H45
  refine h_end ?_
  repeat (go_not_at_region 15; go_step)
  refine wp_cond_false (H46.ev (x := .tmp 52) rfl) ?_
  repeat (go_not_at_region 15; go_step)
  repeat (go_not_at_region 15; go_step)
  refine wp_region_lit ?_
  refine h_op H46 rfl (wn rfl) (R_bin H46 rfl rfl rfl (B_to (y := false) (B8_eq _ _) (by decide))) rfl (P7 54 52 46 5 4 2 0 rfl rfl rfl rfl rfl rfl rfl) fun a47 H47 => ?_
  clear H46
  refine h_op H47 rfl (wn rfl) (R_as H47 rfl rfl) rfl (P6 52 46 5 4 2 0 rfl rfl rfl rfl rfl rfl) fun a48 H48 => ?_
  clear H47
  refine h_end ?_
  repeat (go_not_at_region 18; go_step)
  refine wp_cond_false (H48.ev (x := .tmp 52) rfl) ?_
  repeat (go_not_at_region 18; go_step)
  repeat (go_not_at_region 18; go_step)
  refine wp_region_lit ?_
  refine h_op H48 rfl (wn rfl) (R_bin H48 rfl rfl rfl (B_to (y := false) (B8_eq _ _) (by decide))) rfl (P6 64 46 5 4 2 0 rfl rfl rfl rfl rfl rfl) fun a49 H49 => ?_
  clear H48
  refine h_op H49 rfl (wn rfl) (R_as H49 rfl rfl) rfl (P6 63 46 5 4 2 0 rfl rfl rfl rfl rfl rfl) fun a50 H50 => ?_
  clear H49
  refine h_end ?_
  repeat (go_not_at_region 20; go_step)
  refine wp_cond_false (H50.ev (x := .tmp 63) rfl) ?_
  repeat (go_not_at_region 20; go_step)
  repeat (go_not_at_region 20; go_step)
  refine wp_region_lit ?_
  refine h_op H50 rfl (wn rfl) (R_bin H50 rfl rfl rfl (B_to (y := false) (B8_eq _ _) (by decide))) rfl (P6 69 46 5 4 2 0 rfl rfl rfl rfl rfl rfl) fun a51 H51 => ?_
  clear H50
  refine h_op H51 rfl (wn rfl) (R_as H51 rfl rfl) rfl (P6 68 46 5 4 2 0 rfl rfl rfl rfl rfl rfl) fun a52 H52 => ?_
  clear H51
  refine h_end ?_
  repeat (go_not_at_region 21; go_step)
  refine wp_cond_false (H52.ev (x := .tmp 68) rfl) ?_
  repeat (go_not_at_region 21; go_step)
  repeat (go_not_at_region 21; go_step)
  refine wp_region_lit ?_
  refine h_op H52 rfl (wn rfl) (R_bin H52 rfl rfl rfl (B_to (y := true) (B8_eq _ _) (by decide))) rfl (P7 70 68 46 5 4 2 0 rfl rfl rfl rfl rfl rfl rfl) fun a53 H53 => ?_
  clear H52
  refine h_op H53 rfl (wn rfl) (R_as H53 rfl rfl) rfl (P6 68 46 5 4 2 0 rfl rfl rfl rfl rfl rfl) fun a54 H54 => ?_
  clear H53
  refine h_end ?_
  repeat (go_not_at_region 25; go_step)
  repeat (refine wp_cond_true (H54.ev (x := .tmp 68) rfl) ?_; repeat (go_not_at_region 25; go_step))
  repeat (go_not_at_region 25; go_step)
  have hM := inMost_any (m := 2147483647) (by decide) hs hle1 hL.third
  have hle2 := mostE_le (m := 2147483647) (b := b1) hle1
  generalize mostE s n1 b1 2147483647 = q2 at hM hle2 hr
  obtain ⟨x2, n2, b2⟩ := q2
  simp only at hM hle2 hr
  refine wp_region_lit ?_
  refine h_op H54 rfl (wn rfl) (R_mv H54 rfl rfl) rfl (P6 74 46 5 4 2 0 rfl rfl rfl rfl rfl rfl) fun a55 H55 => ?_
  clear H54
  refine h_call H55 rfl (wn rfl) (R_call2 H55 rfl rfl rfl (fun w => by simp [go_sem])) rfl ?_
  refine hM.mono ?_
  rintro e w56 ⟨rfl, hL2⟩
  replace hL := hL2.back3
  clear hL2 hM
  refine ⟨_, rfl, fun a56 HH => ?_⟩
  have H56 := HH _ (P6 75 46 5 4 2 0 rfl rfl rfl rfl rfl rfl)
  clear HH H55
  refine h_op H56 rfl (wn rfl) (R_fa H56 rfl rfl (fa29_4 _ _)) rfl (P7 76 75 46 5 4 2 0 rfl rfl rfl rfl rfl rfl rfl) fun a57 H57 => ?_
  clear H56
  refine h_stL ((w5.heap.size, mcells { PMsg.zero with kind := 6, move := (x0 : Nat), part := (x1 : Nat), n := (x2 : Nat) } (.slice none 0 0) (.slice none 0 0), 29) :: (W.heap.size, zcells, 29) :: (w1.heap.size, rcells s n2 b2, 85) :: L) H57 rfl (wn rfl) (R_st H57 rfl rfl rfl (st_int hL rfl)) (hL.put 4 _) fun a58 w58 H58 hL' => ?_
  replace hL := hL'
  clear H57 hL'
  refine h_end ?_
  repeat (go_not_at_region 26; go_step)
  refine wp_region_lit ?_
  refine h_op H58 rfl (wn rfl) (R_fa H58 rfl rfl (fa29_0 _ _)) rfl (P5 77 5 4 2 0 rfl rfl rfl rfl rfl) fun a59 H59 => ?_
  clear H58
  refine h_op H59 rfl (wn rfl) (R_ld H59 rfl rfl (ld_u8k (c := 6) (hL.cell 0) rfl)) rfl (P5 78 5 4 2 0 rfl rfl rfl rfl rfl) fun a60 H60 => ?_
  clear H59
  refine h_end ?_
  repeat (go_not_at_region 27; go_step)
  refine wp_region_lit ?_
  refine h_op H60 rfl (wn rfl) (R_bin H60 rfl rfl rfl (B_to (y := false) (B8_eq _ _) (by decide))) rfl (P6 80 78 5 4 2 0 rfl rfl rfl rfl rfl rfl) fun a61 H61 => ?_
  clear H60
  refine h_op H61 rfl (wn rfl) (R_as H61 rfl rfl) rfl (P6 79 78 5 4 2 0 rfl rfl rfl rfl rfl rfl) fun a62 H62 => ?_
  clear H61
  refine h_end ?_
  repeat (go_not_at_region 28; go_step)
  refine wp_cond_false (H62.ev (x := .tmp 79) rfl) ?_
  repeat (go_not_at_region 28; go_step)
  repeat (go_not_at_region 28; go_step)
  refine wp_region_lit ?_
  refine h_op H62 rfl (wn rfl) (R_bin H62 rfl rfl rfl (B_to (y := false) (B8_eq _ _) (by decide))) rfl (P7 81 79 78 5 4 2 0 rfl rfl rfl rfl rfl rfl rfl) fun a63 H63 => ?_
  clear H62
  refine h_op H63 rfl (wn rfl) (R_as H63 rfl rfl) rfl (P6 79 78 5 4 2 0 rfl rfl rfl rfl rfl rfl) fun a64 H64 => ?_
  clear H63
  refine h_end ?_
  repeat (go_not_at_region 30; go_step)
  refine wp_cond_false (H64.ev (x := .tmp 79) rfl) ?_
  repeat (go_not_at_region 30; go_step)
  repeat (go_not_at_region 30; go_step)
  refine wp_region_lit ?_
  refine h_op H64 rfl (wn rfl) (R_bin H64 rfl rfl rfl (B_to (y := false) (B8_eq _ _) (by decide))) rfl (P6 86 78 5 4 2 0 rfl rfl rfl rfl rfl rfl) fun a65 H65 => ?_
  clear H64
  refine h_op H65 rfl (wn rfl) (R_as H65 rfl rfl) rfl (P6 85 78 5 4 2 0 rfl rfl rfl rfl rfl rfl) fun a66 H66 => ?_
  clear H65
  refine h_end ?_
  repeat (go_not_at_region 31; go_step)
  refine wp_cond_false (H66.ev (x := .tmp 85) rfl) ?_
  repeat (go_not_at_region 31; go_step)
  repeat (go_not_at_region 31; go_step)
  refine wp_region_lit ?_
  refine h_op H66 rfl (wn rfl) (R_bin H66 rfl rfl rfl (B_to (y := false) (B8_eq _ _) (by decide))) rfl (P7 87 85 78 5 4 2 0 rfl rfl rfl rfl rfl rfl rfl) fun a67 H67 => ?_
  clear H66
  refine h_op H67 rfl (wn rfl) (R_as H67 rfl rfl) rfl (P6 85 78 5 4 2 0 rfl rfl rfl rfl rfl rfl) fun a68 H68 => ?_
  clear H67
  refine h_end ?_
  repeat (go_not_at_region 32; go_step)
  refine wp_cond_false (H68.ev (x := .tmp 85) rfl) ?_
  repeat (go_not_at_region 32; go_step)
  repeat (go_not_at_region 32; go_step)
  refine wp_region_lit ?_
  refine h_op H68 rfl (wn rfl) (R_bin H68 rfl rfl rfl (B_to (y := false) (B8_eq _ _) (by decide))) rfl (P7 88 85 78 5 4 2 0 rfl rfl rfl rfl rfl rfl rfl) fun a69 H69 => ?_
  clear H68
  refine h_op H69 rfl (wn rfl) (R_as H69 rfl rfl) rfl (P6 85 78 5 4 2 0 rfl rfl rfl rfl rfl rfl) fun a70 H70 => ?_
  clear H69
  refine h_end ?_
  repeat (go_not_at_region 34; go_step)
  refine wp_cond_false (H70.ev (x := .tmp 85) rfl) ?_
  repeat (go_not_at_region 34; go_step)
  repeat (go_not_at_region 34; go_step)
  refine wp_region_lit ?_
  refine h_op H70 rfl (wn rfl) (R_bin H70 rfl rfl rfl (B_to (y := false) (B8_eq _ _) (by decide))) rfl (P6 93 78 5 4 2 0 rfl rfl rfl rfl rfl rfl) fun a71 H71 => ?_
  clear H70
  refine h_op H71 rfl (wn rfl) (R_as H71 rfl rfl) rfl (P6 92 78 5 4 2 0 rfl rfl rfl rfl rfl rfl) fun a72 H72 => ?_
  clear H71
  refine h_end ?_
  repeat (go_not_at_region 37; go_step)
  refine wp_cond_false (H72.ev (x := .tmp 92) rfl) ?_
  repeat (go_not_at_region 37; go_step)
  repeat (go_not_at_region 37; go_step)
  refine wp_region_lit ?_
  refine h_op H72 rfl (wn rfl) (R_bin H72 rfl rfl rfl (B_to (y := true) (B8_eq _ _) (by decide))) rfl (P6 101 78 5 4 2 0 rfl rfl rfl rfl rfl rfl) fun a73 H73 => ?_
  clear H72
  refine h_op H73 rfl (wn rfl) (R_as H73 rfl rfl) rfl (P6 100 78 5 4 2 0 rfl rfl rfl rfl rfl rfl) fun a74 H74 => ?_
  clear H73
  refine h_end ?_
  repeat (go_not_at_region 38; go_step)
  repeat (refine wp_cond_true (H74.ev (x := .tmp 100) rfl) ?_; repeat (go_not_at_region 38; go_step))
  repeat (go_not_at_region 38; go_step)
  have hM := rNumbers_any (m := 1024) (by decide) hs hle2 hL.third
  have hle3 := listE_le (m := 1024) (b := b2) hle2
  generalize listE s n2 b2 1024 = q3 at hM hle3 hr
  obtain ⟨x3, n3, b3⟩ := q3
  simp only at hM hle3 hr
  refine wp_region_lit ?_
  refine h_op H74 rfl (wn rfl) (R_mv H74 rfl rfl) rfl (P6 102 78 5 4 2 0 rfl rfl rfl rfl rfl rfl) fun a75 H75 => ?_
  clear H74
  refine h_call H75 rfl (wn rfl) (R_call2 H75 rfl rfl rfl (fun w => by simp [go_sem])) rfl ?_
  refine hM.mono ?_
  rintro e w76 ⟨v, B, rfl, hrow, hL2⟩
  obtain ⟨vp, vl, vc, rfl⟩ : ∃ p l c, v = .slice p l c := by
    rcases hrow with ⟨rfl, _⟩ | ⟨g', cap, cur, rfl, _⟩ <;> exact ⟨_, _, _, rfl⟩
  replace hL := hL2.perm (L' := ((w5.heap.size, mcells { PMsg.zero with kind := 6, move := (x0 : Nat), part := (x1 : Nat), n := (x2 : Nat) } (.slice none 0 0) (.slice none 0 0), 29) :: (W.heap.size, zcells, 29) :: (w1.heap.size, rcells s n3 b3, 85) :: (B ++ L))) ((List.perm_append_comm_assoc B [(w1.heap.size, rcells s n3 b3, 85), (w5.heap.size, mcells { PMsg.zero with kind := 6, move := (x0 : Nat), part := (x1 : Nat), n := (x2 : Nat) } (.slice none 0 0) (.slice none 0 0), 29), (W.heap.size, zcells, 29)] L).trans (Live.p3 _ _ _ _))
  clear hL2 hM
  refine ⟨_, rfl, fun a76 HH => ?_⟩
  have H76 := HH _ (P6 103 78 5 4 2 0 rfl rfl rfl rfl rfl rfl)
  clear HH H75
  refine h_op H76 rfl (wn rfl) (R_fa H76 rfl rfl (fa29_11 _ _)) rfl (P7 104 103 78 5 4 2 0 rfl rfl rfl rfl rfl rfl rfl) fun a77 H77 => ?_
  clear H76
  refine h_stL ((w5.heap.size, mcells { PMsg.zero with kind := 6, move := (x0 : Nat), part := (x1 : Nat), n := (x2 : Nat), set := x3 } (.slice none 0 0) (.slice vp vl vc), 29) :: (W.heap.size, zcells, 29) :: (w1.heap.size, rcells s n3 b3, 85) :: (B ++ L)) H77 rfl (wn rfl) (R_st H77 rfl rfl rfl (st_sl hL rfl)) (hL.put 20 _) fun a78 w78 H78 hL' => ?_
  replace hL := hL'
  clear H77 hL'
  refine h_end ?_
  subst hr
  simp only at hY
  by_cases hb : b3 ≠ 0
  · rw [if_pos hb] at hY
    repeat (go_not_at_region 44; go_step)
    refine wp_region_lit ?_
    refine h_op H78 rfl (wn rfl) (R_mv H78 rfl rfl) rfl (P5 118 5 4 2 0 rfl rfl rfl rfl rfl) fun a79 H79 => ?_
    clear H78
    refine h_op H79 rfl (wn rfl) (R_nc H79 rfl rfl) rfl (P5 119 5 4 2 0 rfl rfl rfl rfl rfl) fun a80 H80 => ?_
    clear H79
    refine h_op H80 rfl (wn rfl) (R_fa H80 rfl rfl (fr_2 _ _)) rfl (P5 120 5 4 2 0 rfl rfl rfl rfl rfl) fun a81 H81 => ?_
    clear H80
    refine h_op H81 rfl (wn rfl) (R_ld H81 rfl rfl (ld_int (hL.third.cell 2))) rfl (P5 121 5 4 2 0 rfl rfl rfl rfl rfl) fun a82 H82 => ?_
    clear H81
    refine h_op H82 rfl (wn rfl) (R_bin H82 rfl rfl rfl (B_to (y := true) (B_ne Try.underlying3 _ _) (bne_iff_ne.2 hb))) rfl (P5 122 5 4 2 0 rfl rfl rfl rfl rfl) fun a83 H83 => ?_
    clear H82
    refine h_end ?_
    repeat (go_not_at_region 45; go_step)
    refine wp_cond_true (H83.ev (x := .tmp 122) rfl) ?_
    repeat (go_not_at_region 45; go_step)
    refine wp_region_held_drew (S := fun w' => Live w0 ((w5.heap.size, mcells { PMsg.zero with kind := 6, move := (x0 : Nat), part := (x1 : Nat), n := (x2 : Nat), set := x3 } (.slice none 0 0) (.slice vp vl vc), 29) :: (W.heap.size, zcells, 29) :: (w1.heap.size, rcells s n3 b3, 85) :: (B ++ L)) w') (by kernel_rfl) hL.drew (fun hL' => ?_)
    replace hL := hL'
    clear hL'
    refine a_op 0 H83 rfl rfl (by kernel_rfl) (by kernel_rfl) (by kernel_rfl) (fun _ _ _ h => h) (wn rfl) (fun w hL => R_build rfl bd_row) hL rfl (P3 123 4 2 rfl rfl rfl) fun a84 H84 => ?_
    clear H83
    refine a_op 1 H84 rfl rfl (by kernel_rfl) (by kernel_rfl) (by kernel_rfl) (fun _ _ _ h => h) (wn rfl) (fun w hL => R_mv H84 rfl rfl) hL rfl (P3 124 123 2 rfl rfl rfl) fun a85 H85 => ?_
    clear H84
    refine a_op 2 H85 rfl rfl (by kernel_rfl) (by kernel_rfl) (by kernel_rfl) (fun _ _ _ h => h) (wn rfl) (fun w hL => R_nc H85 rfl rfl) hL rfl (P3 125 123 2 rfl rfl rfl) fun a86 H86 => ?_
    clear H85
    refine a_op 3 H86 rfl rfl (by kernel_rfl) (by kernel_rfl) (by kernel_rfl) (fun _ _ _ h => h) (wn rfl) (fun w hL => R_fa H86 rfl rfl (fr_2 _ _)) hL rfl (P3 126 123 2 rfl rfl rfl) fun a87 H87 => ?_
    clear H86
    refine a_op 4 H87 rfl rfl (by kernel_rfl) (by kernel_rfl) (by kernel_rfl) (fun _ _ _ h => h) (wn rfl) (fun w hL => R_ld H87 rfl rfl (ld_int (hL.third.cell 2))) hL rfl (P3 127 123 2 rfl rfl rfl) fun a88 H88 => ?_
    clear H87
    refine a_all1 5 (by kernel_rfl) ?_
    refine o_stL ((w5.heap.size, mcells { PMsg.zero with kind := 6, move := (x0 : Nat), part := (x1 : Nat), n := (x2 : Nat), set := x3 } (.slice none 0 0) (.slice vp vl vc), 29) :: (W.heap.size, zcells, 29) :: (w1.heap.size, rcells s n3 b3, 85) :: (B ++ L)) 5 H88 rfl rfl (wn rfl) (R_st H88 rfl rfl rfl (st_row (m2 := .zero) (m := .zero) (vo2 := .slice none 0 0) (vs2 := .slice none 0 0) (vo := .slice none 0 0) (vs := .slice none 0 0) (hL.mem_at (by simp)) (mcells_one rfl rfl))) ((hL.swap.row _).swap) fun a89 w89 H89 hL' => ⟨hL', ?_⟩
    replace hL := hL'
    clear H88 hL'
    refine a_op 6 H89 rfl rfl (by kernel_rfl) (by kernel_rfl) (by kernel_rfl) (fun _ _ _ h => h) (wn rfl) (fun w hL => R_as H89 rfl rfl) hL rfl (P2 3 2 rfl rfl) fun a90 H90 => ?_
    clear H89
    refine wpAnyH_done (by kernel_rfl) ?_ _
    repeat (go_not_at_region 999; go_step)
    refine bodyPost_ret (v := .tuple #[.agg zcells, .int .i64 b3]) (refread_results (H90.getD rfl) (H90.getD rfl) hL.swap.at_ rfl) H90.1 ?_
    rw [hY]
    exact .zero rfl (Live.dropl hL.tail.tail.tail)
  obtain rfl : b3 = 0 := Decidable.not_not.1 hb
  rw [if_neg hb] at hY
  clear hb
  repeat (go_not_at_region 44; go_step)
  refine wp_region_lit ?_
  refine h_op H78 rfl (wn rfl) (R_mv H78 rfl rfl) rfl (P5 118 5 4 2 0 rfl rfl rfl rfl rfl) fun a79 H79 => ?_
  clear H78
  refine h_op H79 rfl (wn rfl) (R_nc H79 rfl rfl) rfl (P5 119 5 4 2 0 rfl rfl rfl rfl rfl) fun a80 H80 => ?_
  clear H79
  refine h_op H80 rfl (wn rfl) (R_fa H80 rfl rfl (fr_2 _ _)) rfl (P5 120 5 4 2 0 rfl rfl rfl rfl rfl) fun a81 H81 => ?_
  clear H80
  refine h_op H81 rfl (wn rfl) (R_ld H81 rfl rfl (ld_int (hL.third.cell 2))) rfl (P5 121 5 4 2 0 rfl rfl rfl rfl rfl) fun a82 H82 => ?_
  clear H81
  refine h_op H82 rfl (wn rfl) (R_bin H82 rfl rfl rfl (B_to (y := false) (B_ne Try.underlying3 _ _) (by decide))) rfl (P5 122 5 4 2 0 rfl rfl rfl rfl rfl) fun a83 H83 => ?_
  clear H82
  refine h_end ?_
  repeat (go_not_at_region 46; go_step)
  refine wp_cond_false (H83.ev (x := .tmp 122) rfl) ?_
  by_cases hn : n3 < s.size
  · rw [if_pos hn] at hY
    repeat (go_not_at_region 46; go_step)
    repeat (go_not_at_region 46; go_step)
    refine wp_region_lit ?_
    refine h_op H83 rfl (wn rfl) (R_mv H83 rfl rfl) rfl (P5 128 5 4 2 0 rfl rfl rfl rfl rfl) fun a84 H84 => ?_
    clear H83
    refine h_op H84 rfl (wn rfl) (R_nc H84 rfl rfl) rfl (P5 129 5 4 2 0 rfl rfl rfl rfl rfl) fun a85 H85 => ?_
    clear H84
    refine h_op H85 rfl (wn rfl) (R_fa H85 rfl rfl (fr_1 _ _)) rfl (P5 130 5 4 2 0 rfl rfl rfl rfl rfl) fun a86 H86 => ?_
    clear H85
    refine h_op H86 rfl (wn rfl) (R_ld H86 rfl rfl (ld_int (hL.third.cell 1))) rfl (P5 131 5 4 2 0 rfl rfl rfl rfl rfl) fun a87 H87 => ?_
    clear H86
    refine h_op H87 rfl (wn rfl) (R_mv H87 rfl rfl) rfl (P6 132 131 5 4 2 0 rfl rfl rfl rfl rfl rfl) fun a88 H88 => ?_
    clear H87
    refine h_op H88 rfl (wn rfl) (R_len H88 rfl rfl Try.underlying9) rfl (P6 133 131 5 4 2 0 rfl rfl rfl rfl rfl rfl) fun a89 H89 => ?_
    clear H88
    refine h_op H89 rfl (wn rfl) (R_bin H89 rfl rfl rfl (B_to (y := true) (B_lt Try.underlying3 _ _) (decide_eq_true (by omega)))) rfl (P5 134 5 4 2 0 rfl rfl rfl rfl rfl) fun a90 H90 => ?_
    clear H89
    refine h_end ?_
    repeat (go_not_at_region 47; go_step)
    refine wp_cond_true (H90.ev (x := .tmp 134) rfl) ?_
    repeat (go_not_at_region 47; go_step)
    repeat (go_not_at_region 47; go_step)
    refine wp_region_lit ?_
    refine h_op H90 rfl (wn rfl) (R_build rfl bd_row) rfl (P2 135 2 rfl rfl) fun a91 H91 => ?_
    clear H90
    refine h_stL ((w5.heap.size, mcells { PMsg.zero with kind := 6, move := (x0 : Nat), part := (x1 : Nat), n := (x2 : Nat), set := x3 } (.slice none 0 0) (.slice vp vl vc), 29) :: (W.heap.size, zcells, 29) :: (w1.heap.size, rcells s n3 0, 85) :: (B ++ L)) H91 rfl (wn rfl) (R_st H91 rfl rfl rfl (st_row (m2 := .zero) (m := .zero) (vo2 := .slice none 0 0) (vs2 := .slice none 0 0) (vo := .slice none 0 0) (vs := .slice none 0 0) (hL.mem_at (by simp)) (mcells_one rfl rfl))) ((hL.swap.row _).swap) fun a92 w92 H92 hL' => ?_
    replace hL := hL'
    clear H91 hL'
    refine h_op H92 rfl (wn rfl) (R_as H92 rfl rfl) rfl (P2 3 2 rfl rfl) fun a93 H93 => ?_
    clear H92
    refine h_end ?_
    repeat (go_not_at_region 999; go_step)
    refine bodyPost_ret (v := .tuple #[.agg zcells, .int .i64 8]) (refread_results (H93.getD rfl) (H93.getD rfl) hL.swap.at_ rfl) H93.1 ?_
    rw [hY]
    exact .zero rfl (Live.dropl hL.tail.tail.tail)
  rw [if_neg hn] at hY
  repeat (go_not_at_region 46; go_step)
  repeat (go_not_at_region 46; go_step)
  refine wp_region_lit ?_
  refine h_op H83 rfl (wn rfl) (R_mv H83 rfl rfl) rfl (P5 128 5 4 2 0 rfl rfl rfl rfl rfl) fun a84 H84 => ?_
  clear H83
  refine h_op H84 rfl (wn rfl) (R_nc H84 rfl rfl) rfl (P5 129 5 4 2 0 rfl rfl rfl rfl rfl) fun a85 H85 => ?_
  clear H84
  refine h_op H85 rfl (wn rfl) (R_fa H85 rfl rfl (fr_1 _ _)) rfl (P5 130 5 4 2 0 rfl rfl rfl rfl rfl) fun a86 H86 => ?_
  clear H85
  refine h_op H86 rfl (wn rfl) (R_ld H86 rfl rfl (ld_int (hL.third.cell 1))) rfl (P5 131 5 4 2 0 rfl rfl rfl rfl rfl) fun a87 H87 => ?_
  clear H86
  refine h_op H87 rfl (wn rfl) (R_mv H87 rfl rfl) rfl (P6 132 131 5 4 2 0 rfl rfl rfl rfl rfl rfl) fun a88 H88 => ?_
  clear H87
  refine h_op H88 rfl (wn rfl) (R_len H88 rfl rfl Try.underlying9) rfl (P6 133 131 5 4 2 0 rfl rfl rfl rfl rfl rfl) fun a89 H89 => ?_
  clear H88
  refine h_op H89 rfl (wn rfl) (R_bin H89 rfl rfl rfl (B_to (y := false) (B_lt Try.underlying3 _ _) (decide_eq_false (by omega)))) rfl (P5 134 5 4 2 0 rfl rfl rfl rfl rfl) fun a90 H90 => ?_
  clear H89
  refine h_end ?_
  repeat (go_not_at_region 48; go_step)
  refine wp_cond_false (H90.ev (x := .tmp 134) rfl) ?_
  repeat (go_not_at_region 48; go_step)
  repeat (go_not_at_region 48; go_step)
  refine wp_region_lit ?_
  refine h_op H90 rfl (wn rfl) (R_ld H90 rfl rfl (ld_row hL.at_)) rfl (P2 136 2 rfl rfl) fun a91 H91 => ?_
  clear H90
  refine h_stL ((W.heap.size, mcells { PMsg.zero with kind := 6, move := (x0 : Nat), part := (x1 : Nat), n := (x2 : Nat), set := x3 } (.slice none 0 0) (.slice vp vl vc), 29) :: (w5.heap.size, mcells { PMsg.zero with kind := 6, move := (x0 : Nat), part := (x1 : Nat), n := (x2 : Nat), set := x3 } (.slice none 0 0) (.slice vp vl vc), 29) :: (w1.heap.size, rcells s n3 0, 85) :: (B ++ L)) H91 rfl (wn rfl) (R_st H91 rfl rfl rfl (st_row (m2 := .zero) (vo2 := .slice none 0 0) (vs2 := .slice none 0 0) (hL.mem_at (by simp)) (mcells_one rfl rfl))) (hL.swap.row _) fun a92 w92 H92 hL' => ?_
  replace hL := hL'
  clear H91 hL'
  refine h_op H92 rfl (wn rfl) (R_as H92 rfl rfl) rfl (P2 3 2 rfl rfl) fun a93 H93 => ?_
  clear H92
  refine h_end ?_
  repeat (go_not_at_region 999; go_step)
  refine bodyPost_ret (v := .tuple #[.agg (mcells { PMsg.zero with kind := 6, move := (x0 : Nat), part := (x1 : Nat), n := (x2 : Nat), set := x3 } (.slice none 0 0) (.slice vp vl vc)), .int .i64 0]) (refread_results (H93.getD rfl) (H93.getD rfl) hL.at_ rfl) H93.1 ?_
  rw [hY]
  exact ⟨(.slice none 0 0), (.slice vp vl vc), [], B, rfl, .inl ⟨rd_nul _, rfl⟩, .inr hrow, hL.tail.tail.tail⟩
set_option maxRecDepth 100000 in
set_option maxHeartbeats 8000000 in
theorem rread_7 (hs : s.size < 140737488351233) (hL : Live w0 L W) (hK : byteE s 0 0 = (7, 1, 0)) : Calls Try.prog 23 #[.string s] W fun e W' => ReadQ w0 L (msgE s) e W' := by
  obtain ⟨Y, hY⟩ : ∃ Y, Y = msgE s := ⟨_, rfl⟩
  rw [← hY]
  obtain ⟨r, hr⟩ : ∃ r, r = body7 s 1 0 := ⟨_, rfl⟩
  rw [msgE_body hK (by decide) (by decide) (show bodyE s 7 1 0 = r from hr.symm)] at hY
  unfold body7 at hr
  simp only at hr
  go_enter Try.func23, Try.ntmps23
  refine wp_fr (n := 137) (m := [(0, _)]) ⟨rfl, rfl, by intro p hp; simp only [List.mem_cons, List.not_mem_nil, or_false] at hp; rcases hp with rfl <;> rfl⟩ fun a0 H0 => ?_
  repeat (go_not_at_region 0; go_step)
  refine wp_region_lit ?_
  refine h_opL ((W.heap.size, zcells, 29) :: L) H0 rfl (wn rfl) (R_alloc rfl al_row) (hL.alloc _ _) rfl (P2 2 0 rfl rfl) fun a1 w1 H1 hL' => ?_
  replace hL := hL'
  clear H0 hL'
  refine h_op H1 rfl (wn rfl) (R_as H1 rfl rfl) rfl (P2 2 0 rfl rfl) fun a2 H2 => ?_
  clear H1
  refine h_end ?_
  repeat (go_not_at_region 1; go_step)
  refine wp_region_lit ?_
  refine h_op H2 rfl (wn rfl) (R_mv H2 rfl rfl) rfl (P3 6 2 0 rfl rfl rfl) fun a3 H3 => ?_
  clear H2
  refine h_op H3 rfl (wn rfl) (R_bd1 H3 rfl rfl bd_in) rfl (P3 7 2 0 rfl rfl rfl) fun a4 H4 => ?_
  clear H3
  refine h_opL ((w1.heap.size, rcells s 0 0, 85) :: (W.heap.size, zcells, 29) :: L) H4 rfl (wn rfl) (R_box H4 rfl rfl bx_in) (hL.alloc _ _) rfl (P3 8 2 0 rfl rfl rfl) fun a5 w5 H5 hL' => ?_
  replace hL := hL'
  clear H4 hL'
  refine h_op H5 rfl (wn rfl) (R_as H5 rfl rfl) rfl (P3 4 2 0 rfl rfl rfl) fun a6 H6 => ?_
  clear H5
  refine h_end ?_
  repeat (go_not_at_region 2; go_step)
  refine wp_region_lit ?_
  refine h_opL ((w5.heap.size, zcells, 29) :: (W.heap.size, zcells, 29) :: (w1.heap.size, rcells s 0 0, 85) :: L) H6 rfl (wn rfl) (R_alloc rfl al_row) ((hL.alloc _ _).swap3) rfl (P4 5 4 2 0 rfl rfl rfl rfl) fun a7 w7 H7 hL' => ?_
  replace hL := hL'
  clear H6 hL'
  refine h_end ?_
  repeat (go_not_at_region 3; go_step)
  have hM := inByte_any hs (Nat.zero_le _) hL.third
  rw [hK] at hM
  simp only at hM
  refine wp_region_lit ?_
  refine h_op H7 rfl (wn rfl) (R_mv H7 rfl rfl) rfl (P5 9 5 4 2 0 rfl rfl rfl rfl rfl) fun a8 H8 => ?_
  clear H7
  refine h_call H8 rfl (wn rfl) (R_call1 H8 rfl rfl (fun w => by simp [go_sem])) rfl ?_
  refine hM.mono ?_
  rintro e w9 ⟨rfl, hL2⟩
  replace hL := hL2.back3
  clear hL2 hM
  refine ⟨_, rfl, fun a9 HH => ?_⟩
  have H9 := HH _ (P5 10 5 4 2 0 rfl rfl rfl rfl rfl)
  clear HH H8
  refine h_op H9 rfl (wn rfl) (R_fa H9 rfl rfl (fa29_0 _ _)) rfl (P6 11 10 5 4 2 0 rfl rfl rfl rfl rfl rfl) fun a10 H10 => ?_
  clear H9
  refine h_stL ((w5.heap.size, mcells { PMsg.zero with kind := 7 } (.slice none 0 0) (.slice none 0 0), 29) :: (W.heap.size, zcells, 29) :: (w1.heap.size, rcells s 1 0, 85) :: L) H10 rfl (wn rfl) (R_st H10 rfl rfl rfl (st_u8c hL rfl)) (hL.put 0 _) fun a11 w11 H11 hL' => ?_
  replace hL := hL'
  clear H10 hL'
  refine h_end ?_
  repeat (go_not_at_region 4; go_step)
  refine wp_region_lit ?_
  refine h_op H11 rfl (wn rfl) (R_mv H11 rfl rfl) rfl (P5 12 5 4 2 0 rfl rfl rfl rfl rfl) fun a12 H12 => ?_
  clear H11
  refine h_op H12 rfl (wn rfl) (R_nc H12 rfl rfl) rfl (P5 13 5 4 2 0 rfl rfl rfl rfl rfl) fun a13 H13 => ?_
  clear H12
  refine h_op H13 rfl (wn rfl) (R_fa H13 rfl rfl (fr_2 _ _)) rfl (P5 14 5 4 2 0 rfl rfl rfl rfl rfl) fun a14 H14 => ?_
  clear H13
  refine h_op H14 rfl (wn rfl) (R_ld H14 rfl rfl (ld_int (hL.third.cell 2))) rfl (P5 15 5 4 2 0 rfl rfl rfl rfl rfl) fun a15 H15 => ?_
  clear H14
  refine h_op H15 rfl (wn rfl) (R_bin H15 rfl rfl rfl (B_to (y := false) (B_ne Try.underlying3 _ _) (by decide))) rfl (P5 16 5 4 2 0 rfl rfl rfl rfl rfl) fun a16 H16 => ?_
  clear H15
  refine h_end ?_
  repeat (go_not_at_region 6; go_step)
  refine wp_cond_false (H16.ev (x := .tmp 16) rfl) ?_
  repeat (go_not_at_region 6; go_step)
  refine wp_region_lit ?_
  refine h_op H16 rfl (wn rfl) (R_fa H16 rfl rfl (fa29_0 _ _)) rfl (P5 22 5 4 2 0 rfl rfl rfl rfl rfl) fun a17 H17 => ?_
  clear H16
  refine h_op H17 rfl (wn rfl) (R_ld H17 rfl rfl (ld_u8k (c := 7) (hL.cell 0) rfl)) rfl (P5 23 5 4 2 0 rfl rfl rfl rfl rfl) fun a18 H18 => ?_
  clear H17
  refine h_op H18 rfl (wn rfl) (R_bin H18 rfl rfl rfl (B_to (y := false) (B8_lt _ _) (by decide))) rfl (P5 24 5 4 2 0 rfl rfl rfl rfl rfl) fun a19 H19 => ?_
  clear H18
  refine h_op H19 rfl (wn rfl) (R_mv H19 rfl rfl) rfl (P5 25 5 4 2 0 rfl rfl rfl rfl rfl) fun a20 H20 => ?_
  clear H19
  refine h_op H20 rfl (H20.wt rfl rfl rfl) (R_fa H20 rfl rfl (fa29_0 _ _)) rfl (P6 26 25 5 4 2 0 rfl rfl rfl rfl rfl rfl) fun a21 H21 => ?_
  clear H20
  refine h_op H21 rfl (H21.wt rfl rfl rfl) (R_ld H21 rfl rfl (ld_u8k (c := 7) (hL.cell 0) rfl)) rfl (P6 27 25 5 4 2 0 rfl rfl rfl rfl rfl rfl) fun a22 H22 => ?_
  clear H21
  refine h_op H22 rfl (H22.wt rfl rfl rfl) (R_bin H22 rfl rfl rfl (B_to (y := false) (B8_gt _ _) (by decide))) rfl (P6 28 25 5 4 2 0 rfl rfl rfl rfl rfl rfl) fun a23 H23 => ?_
  clear H22
  refine h_op H23 rfl (wn rfl) (R_pick H23 rfl rfl rfl) rfl (P5 29 5 4 2 0 rfl rfl rfl rfl rfl) fun a24 H24 => ?_
  clear H23
  refine h_end ?_
  repeat (go_not_at_region 8; go_step)
  refine wp_cond_false (H24.ev (x := .tmp 29) rfl) ?_
  repeat (go_not_at_region 8; go_step)
  refine wp_region_lit ?_
  refine h_op H24 rfl (wn rfl) (R_fa H24 rfl rfl (fa29_0 _ _)) rfl (P5 31 5 4 2 0 rfl rfl rfl rfl rfl) fun a25 H25 => ?_
  clear H24
  refine h_op H25 rfl (wn rfl) (R_ld H25 rfl rfl (ld_u8k (c := 7) (hL.cell 0) rfl)) rfl (P5 32 5 4 2 0 rfl rfl rfl rfl rfl) fun a26 H26 => ?_
  clear H25
  refine h_op H26 rfl (wn rfl) (R_bin H26 rfl rfl rfl (B_to (y := true) (B8_ge _ _) (by decide))) rfl (P5 33 5 4 2 0 rfl rfl rfl rfl rfl) fun a27 H27 => ?_
  clear H26
  refine h_op H27 rfl (wn rfl) (R_mv H27 rfl rfl) rfl (P5 34 5 4 2 0 rfl rfl rfl rfl rfl) fun a28 H28 => ?_
  clear H27
  refine h_op H28 rfl (H28.wt rfl rfl rfl) (R_fa H28 rfl rfl (fa29_0 _ _)) rfl (P6 35 34 5 4 2 0 rfl rfl rfl rfl rfl rfl) fun a29 H29 => ?_
  clear H28
  refine h_op H29 rfl (H29.wt rfl rfl rfl) (R_ld H29 rfl rfl (ld_u8k (c := 7) (hL.cell 0) rfl)) rfl (P6 36 34 5 4 2 0 rfl rfl rfl rfl rfl rfl) fun a30 H30 => ?_
  clear H29
  refine h_op H30 rfl (H30.wt rfl rfl rfl) (R_bin H30 rfl rfl rfl (B_to (y := true) (B8_le _ _) (by decide))) rfl (P6 37 34 5 4 2 0 rfl rfl rfl rfl rfl rfl) fun a31 H31 => ?_
  clear H30
  refine h_op H31 rfl (wn rfl) (R_pick H31 rfl rfl rfl) rfl (P5 38 5 4 2 0 rfl rfl rfl rfl rfl) fun a32 H32 => ?_
  clear H31
  refine h_end ?_
  repeat (go_not_at_region 9; go_step)
  refine wp_cond_true (H32.ev (x := .tmp 38) rfl) ?_
  repeat (go_not_at_region 9; go_step)
  have hM := inMost_any (m := 2147483647) (by decide) hs (show 1 ≤ s.size by have h := byteE_le (b := 0) (Nat.zero_le s.size); rw [hK] at h; exact h) hL.third
  have hle0 := mostE_le (m := 2147483647) (b := 0) (show 1 ≤ s.size by have h := byteE_le (b := 0) (Nat.zero_le s.size); rw [hK] at h; exact h)
  generalize mostE s 1 0 2147483647 = q0 at hM hle0 hr
  obtain ⟨x0, n0, b0⟩ := q0
  simp only at hM hle0 hr
  refine wp_region_lit ?_
  refine h_op H32 rfl (wn rfl) (R_mv H32 rfl rfl) rfl (P5 39 5 4 2 0 rfl rfl rfl rfl rfl) fun a33 H33 => ?_
  clear H32
  refine h_call H33 rfl (wn rfl) (R_call2 H33 rfl rfl rfl (fun w => by simp [go_sem])) rfl ?_
  refine hM.mono ?_
  rintro e w34 ⟨rfl, hL2⟩
  replace hL := hL2.back3
  clear hL2 hM
  refine ⟨_, rfl, fun a34 HH => ?_⟩
  have H34 := HH _ (P5 40 5 4 2 0 rfl rfl rfl rfl rfl)
  clear HH H33
  refine h_op H34 rfl (wn rfl) (R_fa H34 rfl rfl (fa29_1 _ _)) rfl (P6 41 40 5 4 2 0 rfl rfl rfl rfl rfl rfl) fun a35 H35 => ?_
  clear H34
  refine h_stL ((w5.heap.size, mcells { PMsg.zero with kind := 7, move := (x0 : Nat) } (.slice none 0 0) (.slice none 0 0), 29) :: (W.heap.size, zcells, 29) :: (w1.heap.size, rcells s n0 b0, 85) :: L) H35 rfl (wn rfl) (R_st H35 rfl rfl rfl (st_int hL rfl)) (hL.put 1 _) fun a36 w36 H36 hL' => ?_
  replace hL := hL'
  clear H35 hL'
  refine h_end ?_
  repeat (go_not_at_region 10; go_step)
  have hM := inMost_any (m := 2147483647) (by decide) hs hle0 hL.third
  have hle1 := mostE_le (m := 2147483647) (b := b0) hle0
  generalize mostE s n0 b0 2147483647 = q1 at hM hle1 hr
  obtain ⟨x1, n1, b1⟩ := q1
  simp only at hM hle1 hr
  refine wp_region_lit ?_
  refine h_op H36 rfl (wn rfl) (R_mv H36 rfl rfl) rfl (P5 42 5 4 2 0 rfl rfl rfl rfl rfl) fun a37 H37 => ?_
  clear H36
  refine h_call H37 rfl (wn rfl) (R_call2 H37 rfl rfl rfl (fun w => by simp [go_sem])) rfl ?_
  refine hM.mono ?_
  rintro e w38 ⟨rfl, hL2⟩
  replace hL := hL2.back3
  clear hL2 hM
  refine ⟨_, rfl, fun a38 HH => ?_⟩
  have H38 := HH _ (P5 43 5 4 2 0 rfl rfl rfl rfl rfl)
  clear HH H37
  refine h_op H38 rfl (wn rfl) (R_fa H38 rfl rfl (fa29_2 _ _)) rfl (P6 44 43 5 4 2 0 rfl rfl rfl rfl rfl rfl) fun a39 H39 => ?_
  clear H38
  refine h_stL ((w5.heap.size, mcells { PMsg.zero with kind := 7, move := (x0 : Nat), part := (x1 : Nat) } (.slice none 0 0) (.slice none 0 0), 29) :: (W.heap.size, zcells, 29) :: (w1.heap.size, rcells s n1 b1, 85) :: L) H39 rfl (wn rfl) (R_st H39 rfl rfl rfl (st_int hL rfl)) (hL.put 2 _) fun a40 w40 H40 hL' => ?_
  replace hL := hL'
  clear H39 hL'
  refine h_end ?_
  repeat (go_not_at_region 11; go_step)
  refine wp_region_lit ?_
  refine h_op H40 rfl (wn rfl) (R_fa H40 rfl rfl (fa29_0 _ _)) rfl (P5 45 5 4 2 0 rfl rfl rfl rfl rfl) fun a41 H41 => ?_
  clear H40
  refine h_op H41 rfl (wn rfl) (R_ld H41 rfl rfl (ld_u8k (c := 7) (hL.cell 0) rfl)) rfl (P5 46 5 4 2 0 rfl rfl rfl rfl rfl) fun a42 H42 => ?_
  clear H41
  refine h_end ?_
  repeat (go_not_at_region 12; go_step)
  refine wp_region_lit ?_
  refine h_op H42 rfl (wn rfl) (R_bin H42 rfl rfl rfl (B_to (y := false) (B8_eq _ _) (by decide))) rfl (P6 48 46 5 4 2 0 rfl rfl rfl rfl rfl rfl) fun a43 H43 => ?_
  clear H42
  refine h_op H43 rfl (wn rfl) (R_as H43 rfl rfl) rfl (P6 47 46 5 4 2 0 rfl rfl rfl rfl rfl rfl) fun a44 H44 => ?_
  clear H43
  refine h_end ?_
  repeat (go_not_at_region 14; go_step)
  refine wp_cond_false (H44.ev (x := .tmp 47) rfl) ?_
  repeat (go_not_at_region 14; go_step)
  repeat (go_not_at_region 14; go_step)
  refine wp_region_lit ?_
  refine h_op H44 rfl (wn rfl) (R_bin H44 rfl rfl rfl (B_to (y := false) (B8_eq _ _) (by decide))) rfl (P6 53 46 5 4 2 0 rfl rfl rfl rfl rfl rfl) fun a45 H45 => ?_
  clear H44
  refine h_op H45 rfl (wn rfl) (R_as H45 rfl rfl) rfl (P6 52 46 5 4 2 0 rfl rfl rfl rfl rfl rfl) fun a46 H46 => ?_
  clear H45
  refine h_end ?_
  repeat (go_not_at_region 15; go_step)
  refine wp_cond_false (H46.ev (x := .tmp 52) rfl) ?_
  repeat (go_not_at_region 15; go_step)
  repeat (go_not_at_region 15; go_step)
  refine wp_region_lit ?_
  refine h_op H46 rfl (wn rfl) (R_bin H46 rfl rfl rfl (B_to (y := false) (B8_eq _ _) (by decide))) rfl (P7 54 52 46 5 4 2 0 rfl rfl rfl rfl rfl rfl rfl) fun a47 H47 => ?_
  clear H46
  refine h_op H47 rfl (wn rfl) (R_as H47 rfl rfl) rfl (P6 52 46 5 4 2 0 rfl rfl rfl rfl rfl rfl) fun a48 H48 => ?_
  clear H47
  refine h_end ?_
  repeat (go_not_at_region 18; go_step)
  refine wp_cond_false (H48.ev (x := .tmp 52) rfl) ?_
  repeat (go_not_at_region 18; go_step)
  repeat (go_not_at_region 18; go_step)
  refine wp_region_lit ?_
  refine h_op H48 rfl (wn rfl) (R_bin H48 rfl rfl rfl (B_to (y := false) (B8_eq _ _) (by decide))) rfl (P6 64 46 5 4 2 0 rfl rfl rfl rfl rfl rfl) fun a49 H49 => ?_
  clear H48
  refine h_op H49 rfl (wn rfl) (R_as H49 rfl rfl) rfl (P6 63 46 5 4 2 0 rfl rfl rfl rfl rfl rfl) fun a50 H50 => ?_
  clear H49
  refine h_end ?_
  repeat (go_not_at_region 20; go_step)
  refine wp_cond_false (H50.ev (x := .tmp 63) rfl) ?_
  repeat (go_not_at_region 20; go_step)
  repeat (go_not_at_region 20; go_step)
  refine wp_region_lit ?_
  refine h_op H50 rfl (wn rfl) (R_bin H50 rfl rfl rfl (B_to (y := false) (B8_eq _ _) (by decide))) rfl (P6 69 46 5 4 2 0 rfl rfl rfl rfl rfl rfl) fun a51 H51 => ?_
  clear H50
  refine h_op H51 rfl (wn rfl) (R_as H51 rfl rfl) rfl (P6 68 46 5 4 2 0 rfl rfl rfl rfl rfl rfl) fun a52 H52 => ?_
  clear H51
  refine h_end ?_
  repeat (go_not_at_region 21; go_step)
  refine wp_cond_false (H52.ev (x := .tmp 68) rfl) ?_
  repeat (go_not_at_region 21; go_step)
  repeat (go_not_at_region 21; go_step)
  refine wp_region_lit ?_
  refine h_op H52 rfl (wn rfl) (R_bin H52 rfl rfl rfl (B_to (y := false) (B8_eq _ _) (by decide))) rfl (P7 70 68 46 5 4 2 0 rfl rfl rfl rfl rfl rfl rfl) fun a53 H53 => ?_
  clear H52
  refine h_op H53 rfl (wn rfl) (R_as H53 rfl rfl) rfl (P6 68 46 5 4 2 0 rfl rfl rfl rfl rfl rfl) fun a54 H54 => ?_
  clear H53
  refine h_end ?_
  repeat (go_not_at_region 22; go_step)
  refine wp_cond_false (H54.ev (x := .tmp 68) rfl) ?_
  repeat (go_not_at_region 22; go_step)
  repeat (go_not_at_region 22; go_step)
  refine wp_region_lit ?_
  refine h_op H54 rfl (wn rfl) (R_bin H54 rfl rfl rfl (B_to (y := true) (B8_eq _ _) (by decide))) rfl (P7 71 68 46 5 4 2 0 rfl rfl rfl rfl rfl rfl rfl) fun a55 H55 => ?_
  clear H54
  refine h_op H55 rfl (wn rfl) (R_as H55 rfl rfl) rfl (P6 68 46 5 4 2 0 rfl rfl rfl rfl rfl rfl) fun a56 H56 => ?_
  clear H55
  refine h_end ?_
  repeat (go_not_at_region 25; go_step)
  repeat (refine wp_cond_true (H56.ev (x := .tmp 68) rfl) ?_; repeat (go_not_at_region 25; go_step))
  repeat (go_not_at_region 25; go_step)
  have hM := inMost_any (m := 2147483647) (by decide) hs hle1 hL.third
  have hle2 := mostE_le (m := 2147483647) (b := b1) hle1
  generalize mostE s n1 b1 2147483647 = q2 at hM hle2 hr
  obtain ⟨x2, n2, b2⟩ := q2
  simp only at hM hle2 hr
  refine wp_region_lit ?_
  refine h_op H56 rfl (wn rfl) (R_mv H56 rfl rfl) rfl (P6 74 46 5 4 2 0 rfl rfl rfl rfl rfl rfl) fun a57 H57 => ?_
  clear H56
  refine h_call H57 rfl (wn rfl) (R_call2 H57 rfl rfl rfl (fun w => by simp [go_sem])) rfl ?_
  refine hM.mono ?_
  rintro e w58 ⟨rfl, hL2⟩
  replace hL := hL2.back3
  clear hL2 hM
  refine ⟨_, rfl, fun a58 HH => ?_⟩
  have H58 := HH _ (P6 75 46 5 4 2 0 rfl rfl rfl rfl rfl rfl)
  clear HH H57
  refine h_op H58 rfl (wn rfl) (R_fa H58 rfl rfl (fa29_4 _ _)) rfl (P7 76 75 46 5 4 2 0 rfl rfl rfl rfl rfl rfl rfl) fun a59 H59 => ?_
  clear H58
  refine h_stL ((w5.heap.size, mcells { PMsg.zero with kind := 7, move := (x0 : Nat), part := (x1 : Nat), n := (x2 : Nat) } (.slice none 0 0) (.slice none 0 0), 29) :: (W.heap.size, zcells, 29) :: (w1.heap.size, rcells s n2 b2, 85) :: L) H59 rfl (wn rfl) (R_st H59 rfl rfl rfl (st_int hL rfl)) (hL.put 4 _) fun a60 w60 H60 hL' => ?_
  replace hL := hL'
  clear H59 hL'
  refine h_end ?_
  repeat (go_not_at_region 26; go_step)
  refine wp_region_lit ?_
  refine h_op H60 rfl (wn rfl) (R_fa H60 rfl rfl (fa29_0 _ _)) rfl (P5 77 5 4 2 0 rfl rfl rfl rfl rfl) fun a61 H61 => ?_
  clear H60
  refine h_op H61 rfl (wn rfl) (R_ld H61 rfl rfl (ld_u8k (c := 7) (hL.cell 0) rfl)) rfl (P5 78 5 4 2 0 rfl rfl rfl rfl rfl) fun a62 H62 => ?_
  clear H61
  refine h_end ?_
  repeat (go_not_at_region 27; go_step)
  refine wp_region_lit ?_
  refine h_op H62 rfl (wn rfl) (R_bin H62 rfl rfl rfl (B_to (y := false) (B8_eq _ _) (by decide))) rfl (P6 80 78 5 4 2 0 rfl rfl rfl rfl rfl rfl) fun a63 H63 => ?_
  clear H62
  refine h_op H63 rfl (wn rfl) (R_as H63 rfl rfl) rfl (P6 79 78 5 4 2 0 rfl rfl rfl rfl rfl rfl) fun a64 H64 => ?_
  clear H63
  refine h_end ?_
  repeat (go_not_at_region 28; go_step)
  refine wp_cond_false (H64.ev (x := .tmp 79) rfl) ?_
  repeat (go_not_at_region 28; go_step)
  repeat (go_not_at_region 28; go_step)
  refine wp_region_lit ?_
  refine h_op H64 rfl (wn rfl) (R_bin H64 rfl rfl rfl (B_to (y := false) (B8_eq _ _) (by decide))) rfl (P7 81 79 78 5 4 2 0 rfl rfl rfl rfl rfl rfl rfl) fun a65 H65 => ?_
  clear H64
  refine h_op H65 rfl (wn rfl) (R_as H65 rfl rfl) rfl (P6 79 78 5 4 2 0 rfl rfl rfl rfl rfl rfl) fun a66 H66 => ?_
  clear H65
  refine h_end ?_
  repeat (go_not_at_region 30; go_step)
  refine wp_cond_false (H66.ev (x := .tmp 79) rfl) ?_
  repeat (go_not_at_region 30; go_step)
  repeat (go_not_at_region 30; go_step)
  refine wp_region_lit ?_
  refine h_op H66 rfl (wn rfl) (R_bin H66 rfl rfl rfl (B_to (y := false) (B8_eq _ _) (by decide))) rfl (P6 86 78 5 4 2 0 rfl rfl rfl rfl rfl rfl) fun a67 H67 => ?_
  clear H66
  refine h_op H67 rfl (wn rfl) (R_as H67 rfl rfl) rfl (P6 85 78 5 4 2 0 rfl rfl rfl rfl rfl rfl) fun a68 H68 => ?_
  clear H67
  refine h_end ?_
  repeat (go_not_at_region 31; go_step)
  refine wp_cond_false (H68.ev (x := .tmp 85) rfl) ?_
  repeat (go_not_at_region 31; go_step)
  repeat (go_not_at_region 31; go_step)
  refine wp_region_lit ?_
  refine h_op H68 rfl (wn rfl) (R_bin H68 rfl rfl rfl (B_to (y := false) (B8_eq _ _) (by decide))) rfl (P7 87 85 78 5 4 2 0 rfl rfl rfl rfl rfl rfl rfl) fun a69 H69 => ?_
  clear H68
  refine h_op H69 rfl (wn rfl) (R_as H69 rfl rfl) rfl (P6 85 78 5 4 2 0 rfl rfl rfl rfl rfl rfl) fun a70 H70 => ?_
  clear H69
  refine h_end ?_
  repeat (go_not_at_region 32; go_step)
  refine wp_cond_false (H70.ev (x := .tmp 85) rfl) ?_
  repeat (go_not_at_region 32; go_step)
  repeat (go_not_at_region 32; go_step)
  refine wp_region_lit ?_
  refine h_op H70 rfl (wn rfl) (R_bin H70 rfl rfl rfl (B_to (y := false) (B8_eq _ _) (by decide))) rfl (P7 88 85 78 5 4 2 0 rfl rfl rfl rfl rfl rfl rfl) fun a71 H71 => ?_
  clear H70
  refine h_op H71 rfl (wn rfl) (R_as H71 rfl rfl) rfl (P6 85 78 5 4 2 0 rfl rfl rfl rfl rfl rfl) fun a72 H72 => ?_
  clear H71
  refine h_end ?_
  repeat (go_not_at_region 34; go_step)
  refine wp_cond_false (H72.ev (x := .tmp 85) rfl) ?_
  repeat (go_not_at_region 34; go_step)
  repeat (go_not_at_region 34; go_step)
  refine wp_region_lit ?_
  refine h_op H72 rfl (wn rfl) (R_bin H72 rfl rfl rfl (B_to (y := false) (B8_eq _ _) (by decide))) rfl (P6 93 78 5 4 2 0 rfl rfl rfl rfl rfl rfl) fun a73 H73 => ?_
  clear H72
  refine h_op H73 rfl (wn rfl) (R_as H73 rfl rfl) rfl (P6 92 78 5 4 2 0 rfl rfl rfl rfl rfl rfl) fun a74 H74 => ?_
  clear H73
  refine h_end ?_
  repeat (go_not_at_region 37; go_step)
  refine wp_cond_false (H74.ev (x := .tmp 92) rfl) ?_
  repeat (go_not_at_region 37; go_step)
  repeat (go_not_at_region 37; go_step)
  refine wp_region_lit ?_
  refine h_op H74 rfl (wn rfl) (R_bin H74 rfl rfl rfl (B_to (y := false) (B8_eq _ _) (by decide))) rfl (P6 101 78 5 4 2 0 rfl rfl rfl rfl rfl rfl) fun a75 H75 => ?_
  clear H74
  refine h_op H75 rfl (wn rfl) (R_as H75 rfl rfl) rfl (P6 100 78 5 4 2 0 rfl rfl rfl rfl rfl rfl) fun a76 H76 => ?_
  clear H75
  refine h_end ?_
  repeat (go_not_at_region 39; go_step)
  refine wp_cond_false (H76.ev (x := .tmp 100) rfl) ?_
  repeat (go_not_at_region 39; go_step)
  repeat (go_not_at_region 39; go_step)
  refine wp_region_lit ?_
  refine h_op H76 rfl (wn rfl) (R_bin H76 rfl rfl rfl (B_to (y := true) (B8_eq _ _) (by decide))) rfl (P6 106 78 5 4 2 0 rfl rfl rfl rfl rfl rfl) fun a77 H77 => ?_
  clear H76
  refine h_op H77 rfl (wn rfl) (R_as H77 rfl rfl) rfl (P6 105 78 5 4 2 0 rfl rfl rfl rfl rfl rfl) fun a78 H78 => ?_
  clear H77
  refine h_end ?_
  repeat (go_not_at_region 40; go_step)
  repeat (refine wp_cond_true (H78.ev (x := .tmp 105) rfl) ?_; repeat (go_not_at_region 40; go_step))
  repeat (go_not_at_region 40; go_step)
  have hM := rdItem_any hs hle2 hL.third
  have hle3 := itemE_le (b := b2) hle2
  generalize itemE s n2 b2 = q3 at hM hle3 hr
  obtain ⟨x3, n3, b3⟩ := q3
  simp only at hM hle3 hr
  refine wp_region_lit ?_
  refine h_op H78 rfl (wn rfl) (R_mv H78 rfl rfl) rfl (P6 107 78 5 4 2 0 rfl rfl rfl rfl rfl rfl) fun a79 H79 => ?_
  clear H78
  refine h_call H79 rfl (wn rfl) (R_call1 H79 rfl rfl (fun w => by simp [go_sem])) rfl ?_
  refine hM.mono ?_
  rintro e w80 ⟨rfl, hL2⟩
  replace hL := hL2.back3
  clear hL2 hM
  refine ⟨_, rfl, fun a80 HH => ?_⟩
  have H80 := HH _ (P6 108 78 5 4 2 0 rfl rfl rfl rfl rfl rfl)
  clear HH H79
  refine h_op H80 rfl (wn rfl) (R_fa H80 rfl rfl (fa29_9 _ _)) rfl (P7 109 108 78 5 4 2 0 rfl rfl rfl rfl rfl rfl rfl) fun a81 H81 => ?_
  clear H80
  refine h_stL ((w5.heap.size, mcells { PMsg.zero with kind := 7, move := (x0 : Nat), part := (x1 : Nat), n := (x2 : Nat), isrc := x3.isrc, iseq := x3.iseq, ilow := x3.ilow, ikind := x3.ikind, ikey := x3.ikey, ipart := x3.ipart, iat := x3.iat, iN := x3.iN } (.slice none 0 0) (.slice none 0 0), 29) :: (W.heap.size, zcells, 29) :: (w1.heap.size, rcells s n3 b3, 85) :: L) H81 rfl (wn rfl) (R_st H81 rfl rfl rfl (st_itemM hL)) (hL.itemM x3.isrc x3.iseq x3.ilow x3.ikind x3.ikey x3.ipart x3.iat x3.iN) fun a82 w82 H82 hL' => ?_
  replace hL := hL'
  clear H81 hL'
  refine h_end ?_
  subst hr
  simp only at hY
  by_cases hb : b3 ≠ 0
  · rw [if_pos hb] at hY
    repeat (go_not_at_region 44; go_step)
    refine wp_region_lit ?_
    refine h_op H82 rfl (wn rfl) (R_mv H82 rfl rfl) rfl (P5 118 5 4 2 0 rfl rfl rfl rfl rfl) fun a83 H83 => ?_
    clear H82
    refine h_op H83 rfl (wn rfl) (R_nc H83 rfl rfl) rfl (P5 119 5 4 2 0 rfl rfl rfl rfl rfl) fun a84 H84 => ?_
    clear H83
    refine h_op H84 rfl (wn rfl) (R_fa H84 rfl rfl (fr_2 _ _)) rfl (P5 120 5 4 2 0 rfl rfl rfl rfl rfl) fun a85 H85 => ?_
    clear H84
    refine h_op H85 rfl (wn rfl) (R_ld H85 rfl rfl (ld_int (hL.third.cell 2))) rfl (P5 121 5 4 2 0 rfl rfl rfl rfl rfl) fun a86 H86 => ?_
    clear H85
    refine h_op H86 rfl (wn rfl) (R_bin H86 rfl rfl rfl (B_to (y := true) (B_ne Try.underlying3 _ _) (bne_iff_ne.2 hb))) rfl (P5 122 5 4 2 0 rfl rfl rfl rfl rfl) fun a87 H87 => ?_
    clear H86
    refine h_end ?_
    repeat (go_not_at_region 45; go_step)
    refine wp_cond_true (H87.ev (x := .tmp 122) rfl) ?_
    repeat (go_not_at_region 45; go_step)
    refine wp_region_held_drew (S := fun w' => Live w0 ((w5.heap.size, mcells { PMsg.zero with kind := 7, move := (x0 : Nat), part := (x1 : Nat), n := (x2 : Nat), isrc := x3.isrc, iseq := x3.iseq, ilow := x3.ilow, ikind := x3.ikind, ikey := x3.ikey, ipart := x3.ipart, iat := x3.iat, iN := x3.iN } (.slice none 0 0) (.slice none 0 0), 29) :: (W.heap.size, zcells, 29) :: (w1.heap.size, rcells s n3 b3, 85) :: L) w') (by kernel_rfl) hL.drew (fun hL' => ?_)
    replace hL := hL'
    clear hL'
    refine a_op 0 H87 rfl rfl (by kernel_rfl) (by kernel_rfl) (by kernel_rfl) (fun _ _ _ h => h) (wn rfl) (fun w hL => R_build rfl bd_row) hL rfl (P3 123 4 2 rfl rfl rfl) fun a88 H88 => ?_
    clear H87
    refine a_op 1 H88 rfl rfl (by kernel_rfl) (by kernel_rfl) (by kernel_rfl) (fun _ _ _ h => h) (wn rfl) (fun w hL => R_mv H88 rfl rfl) hL rfl (P3 124 123 2 rfl rfl rfl) fun a89 H89 => ?_
    clear H88
    refine a_op 2 H89 rfl rfl (by kernel_rfl) (by kernel_rfl) (by kernel_rfl) (fun _ _ _ h => h) (wn rfl) (fun w hL => R_nc H89 rfl rfl) hL rfl (P3 125 123 2 rfl rfl rfl) fun a90 H90 => ?_
    clear H89
    refine a_op 3 H90 rfl rfl (by kernel_rfl) (by kernel_rfl) (by kernel_rfl) (fun _ _ _ h => h) (wn rfl) (fun w hL => R_fa H90 rfl rfl (fr_2 _ _)) hL rfl (P3 126 123 2 rfl rfl rfl) fun a91 H91 => ?_
    clear H90
    refine a_op 4 H91 rfl rfl (by kernel_rfl) (by kernel_rfl) (by kernel_rfl) (fun _ _ _ h => h) (wn rfl) (fun w hL => R_ld H91 rfl rfl (ld_int (hL.third.cell 2))) hL rfl (P3 127 123 2 rfl rfl rfl) fun a92 H92 => ?_
    clear H91
    refine a_all1 5 (by kernel_rfl) ?_
    refine o_stL ((w5.heap.size, mcells { PMsg.zero with kind := 7, move := (x0 : Nat), part := (x1 : Nat), n := (x2 : Nat), isrc := x3.isrc, iseq := x3.iseq, ilow := x3.ilow, ikind := x3.ikind, ikey := x3.ikey, ipart := x3.ipart, iat := x3.iat, iN := x3.iN } (.slice none 0 0) (.slice none 0 0), 29) :: (W.heap.size, zcells, 29) :: (w1.heap.size, rcells s n3 b3, 85) :: L) 5 H92 rfl rfl (wn rfl) (R_st H92 rfl rfl rfl (st_row (m2 := .zero) (m := .zero) (vo2 := .slice none 0 0) (vs2 := .slice none 0 0) (vo := .slice none 0 0) (vs := .slice none 0 0) (hL.mem_at (by simp)) (mcells_one rfl rfl))) ((hL.swap.row _).swap) fun a93 w93 H93 hL' => ⟨hL', ?_⟩
    replace hL := hL'
    clear H92 hL'
    refine a_op 6 H93 rfl rfl (by kernel_rfl) (by kernel_rfl) (by kernel_rfl) (fun _ _ _ h => h) (wn rfl) (fun w hL => R_as H93 rfl rfl) hL rfl (P2 3 2 rfl rfl) fun a94 H94 => ?_
    clear H93
    refine wpAnyH_done (by kernel_rfl) ?_ _
    repeat (go_not_at_region 999; go_step)
    refine bodyPost_ret (v := .tuple #[.agg zcells, .int .i64 b3]) (refread_results (H94.getD rfl) (H94.getD rfl) hL.swap.at_ rfl) H94.1 ?_
    rw [hY]
    exact .zero rfl hL.tail.tail.tail
  obtain rfl : b3 = 0 := Decidable.not_not.1 hb
  rw [if_neg hb] at hY
  clear hb
  repeat (go_not_at_region 44; go_step)
  refine wp_region_lit ?_
  refine h_op H82 rfl (wn rfl) (R_mv H82 rfl rfl) rfl (P5 118 5 4 2 0 rfl rfl rfl rfl rfl) fun a83 H83 => ?_
  clear H82
  refine h_op H83 rfl (wn rfl) (R_nc H83 rfl rfl) rfl (P5 119 5 4 2 0 rfl rfl rfl rfl rfl) fun a84 H84 => ?_
  clear H83
  refine h_op H84 rfl (wn rfl) (R_fa H84 rfl rfl (fr_2 _ _)) rfl (P5 120 5 4 2 0 rfl rfl rfl rfl rfl) fun a85 H85 => ?_
  clear H84
  refine h_op H85 rfl (wn rfl) (R_ld H85 rfl rfl (ld_int (hL.third.cell 2))) rfl (P5 121 5 4 2 0 rfl rfl rfl rfl rfl) fun a86 H86 => ?_
  clear H85
  refine h_op H86 rfl (wn rfl) (R_bin H86 rfl rfl rfl (B_to (y := false) (B_ne Try.underlying3 _ _) (by decide))) rfl (P5 122 5 4 2 0 rfl rfl rfl rfl rfl) fun a87 H87 => ?_
  clear H86
  refine h_end ?_
  repeat (go_not_at_region 46; go_step)
  refine wp_cond_false (H87.ev (x := .tmp 122) rfl) ?_
  by_cases hn : n3 < s.size
  · rw [if_pos hn] at hY
    repeat (go_not_at_region 46; go_step)
    repeat (go_not_at_region 46; go_step)
    refine wp_region_lit ?_
    refine h_op H87 rfl (wn rfl) (R_mv H87 rfl rfl) rfl (P5 128 5 4 2 0 rfl rfl rfl rfl rfl) fun a88 H88 => ?_
    clear H87
    refine h_op H88 rfl (wn rfl) (R_nc H88 rfl rfl) rfl (P5 129 5 4 2 0 rfl rfl rfl rfl rfl) fun a89 H89 => ?_
    clear H88
    refine h_op H89 rfl (wn rfl) (R_fa H89 rfl rfl (fr_1 _ _)) rfl (P5 130 5 4 2 0 rfl rfl rfl rfl rfl) fun a90 H90 => ?_
    clear H89
    refine h_op H90 rfl (wn rfl) (R_ld H90 rfl rfl (ld_int (hL.third.cell 1))) rfl (P5 131 5 4 2 0 rfl rfl rfl rfl rfl) fun a91 H91 => ?_
    clear H90
    refine h_op H91 rfl (wn rfl) (R_mv H91 rfl rfl) rfl (P6 132 131 5 4 2 0 rfl rfl rfl rfl rfl rfl) fun a92 H92 => ?_
    clear H91
    refine h_op H92 rfl (wn rfl) (R_len H92 rfl rfl Try.underlying9) rfl (P6 133 131 5 4 2 0 rfl rfl rfl rfl rfl rfl) fun a93 H93 => ?_
    clear H92
    refine h_op H93 rfl (wn rfl) (R_bin H93 rfl rfl rfl (B_to (y := true) (B_lt Try.underlying3 _ _) (decide_eq_true (by omega)))) rfl (P5 134 5 4 2 0 rfl rfl rfl rfl rfl) fun a94 H94 => ?_
    clear H93
    refine h_end ?_
    repeat (go_not_at_region 47; go_step)
    refine wp_cond_true (H94.ev (x := .tmp 134) rfl) ?_
    repeat (go_not_at_region 47; go_step)
    repeat (go_not_at_region 47; go_step)
    refine wp_region_lit ?_
    refine h_op H94 rfl (wn rfl) (R_build rfl bd_row) rfl (P2 135 2 rfl rfl) fun a95 H95 => ?_
    clear H94
    refine h_stL ((w5.heap.size, mcells { PMsg.zero with kind := 7, move := (x0 : Nat), part := (x1 : Nat), n := (x2 : Nat), isrc := x3.isrc, iseq := x3.iseq, ilow := x3.ilow, ikind := x3.ikind, ikey := x3.ikey, ipart := x3.ipart, iat := x3.iat, iN := x3.iN } (.slice none 0 0) (.slice none 0 0), 29) :: (W.heap.size, zcells, 29) :: (w1.heap.size, rcells s n3 0, 85) :: L) H95 rfl (wn rfl) (R_st H95 rfl rfl rfl (st_row (m2 := .zero) (m := .zero) (vo2 := .slice none 0 0) (vs2 := .slice none 0 0) (vo := .slice none 0 0) (vs := .slice none 0 0) (hL.mem_at (by simp)) (mcells_one rfl rfl))) ((hL.swap.row _).swap) fun a96 w96 H96 hL' => ?_
    replace hL := hL'
    clear H95 hL'
    refine h_op H96 rfl (wn rfl) (R_as H96 rfl rfl) rfl (P2 3 2 rfl rfl) fun a97 H97 => ?_
    clear H96
    refine h_end ?_
    repeat (go_not_at_region 999; go_step)
    refine bodyPost_ret (v := .tuple #[.agg zcells, .int .i64 8]) (refread_results (H97.getD rfl) (H97.getD rfl) hL.swap.at_ rfl) H97.1 ?_
    rw [hY]
    exact .zero rfl hL.tail.tail.tail
  rw [if_neg hn] at hY
  repeat (go_not_at_region 46; go_step)
  repeat (go_not_at_region 46; go_step)
  refine wp_region_lit ?_
  refine h_op H87 rfl (wn rfl) (R_mv H87 rfl rfl) rfl (P5 128 5 4 2 0 rfl rfl rfl rfl rfl) fun a88 H88 => ?_
  clear H87
  refine h_op H88 rfl (wn rfl) (R_nc H88 rfl rfl) rfl (P5 129 5 4 2 0 rfl rfl rfl rfl rfl) fun a89 H89 => ?_
  clear H88
  refine h_op H89 rfl (wn rfl) (R_fa H89 rfl rfl (fr_1 _ _)) rfl (P5 130 5 4 2 0 rfl rfl rfl rfl rfl) fun a90 H90 => ?_
  clear H89
  refine h_op H90 rfl (wn rfl) (R_ld H90 rfl rfl (ld_int (hL.third.cell 1))) rfl (P5 131 5 4 2 0 rfl rfl rfl rfl rfl) fun a91 H91 => ?_
  clear H90
  refine h_op H91 rfl (wn rfl) (R_mv H91 rfl rfl) rfl (P6 132 131 5 4 2 0 rfl rfl rfl rfl rfl rfl) fun a92 H92 => ?_
  clear H91
  refine h_op H92 rfl (wn rfl) (R_len H92 rfl rfl Try.underlying9) rfl (P6 133 131 5 4 2 0 rfl rfl rfl rfl rfl rfl) fun a93 H93 => ?_
  clear H92
  refine h_op H93 rfl (wn rfl) (R_bin H93 rfl rfl rfl (B_to (y := false) (B_lt Try.underlying3 _ _) (decide_eq_false (by omega)))) rfl (P5 134 5 4 2 0 rfl rfl rfl rfl rfl) fun a94 H94 => ?_
  clear H93
  refine h_end ?_
  repeat (go_not_at_region 48; go_step)
  refine wp_cond_false (H94.ev (x := .tmp 134) rfl) ?_
  repeat (go_not_at_region 48; go_step)
  repeat (go_not_at_region 48; go_step)
  refine wp_region_lit ?_
  refine h_op H94 rfl (wn rfl) (R_ld H94 rfl rfl (ld_row hL.at_)) rfl (P2 136 2 rfl rfl) fun a95 H95 => ?_
  clear H94
  refine h_stL ((W.heap.size, mcells { PMsg.zero with kind := 7, move := (x0 : Nat), part := (x1 : Nat), n := (x2 : Nat), isrc := x3.isrc, iseq := x3.iseq, ilow := x3.ilow, ikind := x3.ikind, ikey := x3.ikey, ipart := x3.ipart, iat := x3.iat, iN := x3.iN } (.slice none 0 0) (.slice none 0 0), 29) :: (w5.heap.size, mcells { PMsg.zero with kind := 7, move := (x0 : Nat), part := (x1 : Nat), n := (x2 : Nat), isrc := x3.isrc, iseq := x3.iseq, ilow := x3.ilow, ikind := x3.ikind, ikey := x3.ikey, ipart := x3.ipart, iat := x3.iat, iN := x3.iN } (.slice none 0 0) (.slice none 0 0), 29) :: (w1.heap.size, rcells s n3 0, 85) :: L) H95 rfl (wn rfl) (R_st H95 rfl rfl rfl (st_row (m2 := .zero) (vo2 := .slice none 0 0) (vs2 := .slice none 0 0) (hL.mem_at (by simp)) (mcells_one rfl rfl))) (hL.swap.row _) fun a96 w96 H96 hL' => ?_
  replace hL := hL'
  clear H95 hL'
  refine h_op H96 rfl (wn rfl) (R_as H96 rfl rfl) rfl (P2 3 2 rfl rfl) fun a97 H97 => ?_
  clear H96
  refine h_end ?_
  repeat (go_not_at_region 999; go_step)
  refine bodyPost_ret (v := .tuple #[.agg (mcells { PMsg.zero with kind := 7, move := (x0 : Nat), part := (x1 : Nat), n := (x2 : Nat), isrc := x3.isrc, iseq := x3.iseq, ilow := x3.ilow, ikind := x3.ikind, ikey := x3.ikey, ipart := x3.ipart, iat := x3.iat, iN := x3.iN } (.slice none 0 0) (.slice none 0 0)), .int .i64 0]) (refread_results (H97.getD rfl) (H97.getD rfl) hL.at_ rfl) H97.1 ?_
  rw [hY]
  exact ⟨(.slice none 0 0), (.slice none 0 0), [], [], rfl, .inl ⟨rd_nul _, rfl⟩, .inl ⟨rd_nul _, rfl⟩, hL.tail.tail.tail⟩
set_option maxRecDepth 100000 in
set_option maxHeartbeats 8000000 in
theorem rread_8 (hs : s.size < 140737488351233) (hL : Live w0 L W) (hK : byteE s 0 0 = (8, 1, 0)) : Calls Try.prog 23 #[.string s] W fun e W' => ReadQ w0 L (msgE s) e W' := by
  obtain ⟨Y, hY⟩ : ∃ Y, Y = msgE s := ⟨_, rfl⟩
  rw [← hY]
  obtain ⟨r, hr⟩ : ∃ r, r = body8 s 1 0 := ⟨_, rfl⟩
  rw [msgE_body hK (by decide) (by decide) (show bodyE s 8 1 0 = r from hr.symm)] at hY
  unfold body8 at hr
  simp only at hr
  go_enter Try.func23, Try.ntmps23
  refine wp_fr (n := 137) (m := [(0, _)]) ⟨rfl, rfl, by intro p hp; simp only [List.mem_cons, List.not_mem_nil, or_false] at hp; rcases hp with rfl <;> rfl⟩ fun a0 H0 => ?_
  repeat (go_not_at_region 0; go_step)
  refine wp_region_lit ?_
  refine h_opL ((W.heap.size, zcells, 29) :: L) H0 rfl (wn rfl) (R_alloc rfl al_row) (hL.alloc _ _) rfl (P2 2 0 rfl rfl) fun a1 w1 H1 hL' => ?_
  replace hL := hL'
  clear H0 hL'
  refine h_op H1 rfl (wn rfl) (R_as H1 rfl rfl) rfl (P2 2 0 rfl rfl) fun a2 H2 => ?_
  clear H1
  refine h_end ?_
  repeat (go_not_at_region 1; go_step)
  refine wp_region_lit ?_
  refine h_op H2 rfl (wn rfl) (R_mv H2 rfl rfl) rfl (P3 6 2 0 rfl rfl rfl) fun a3 H3 => ?_
  clear H2
  refine h_op H3 rfl (wn rfl) (R_bd1 H3 rfl rfl bd_in) rfl (P3 7 2 0 rfl rfl rfl) fun a4 H4 => ?_
  clear H3
  refine h_opL ((w1.heap.size, rcells s 0 0, 85) :: (W.heap.size, zcells, 29) :: L) H4 rfl (wn rfl) (R_box H4 rfl rfl bx_in) (hL.alloc _ _) rfl (P3 8 2 0 rfl rfl rfl) fun a5 w5 H5 hL' => ?_
  replace hL := hL'
  clear H4 hL'
  refine h_op H5 rfl (wn rfl) (R_as H5 rfl rfl) rfl (P3 4 2 0 rfl rfl rfl) fun a6 H6 => ?_
  clear H5
  refine h_end ?_
  repeat (go_not_at_region 2; go_step)
  refine wp_region_lit ?_
  refine h_opL ((w5.heap.size, zcells, 29) :: (W.heap.size, zcells, 29) :: (w1.heap.size, rcells s 0 0, 85) :: L) H6 rfl (wn rfl) (R_alloc rfl al_row) ((hL.alloc _ _).swap3) rfl (P4 5 4 2 0 rfl rfl rfl rfl) fun a7 w7 H7 hL' => ?_
  replace hL := hL'
  clear H6 hL'
  refine h_end ?_
  repeat (go_not_at_region 3; go_step)
  have hM := inByte_any hs (Nat.zero_le _) hL.third
  rw [hK] at hM
  simp only at hM
  refine wp_region_lit ?_
  refine h_op H7 rfl (wn rfl) (R_mv H7 rfl rfl) rfl (P5 9 5 4 2 0 rfl rfl rfl rfl rfl) fun a8 H8 => ?_
  clear H7
  refine h_call H8 rfl (wn rfl) (R_call1 H8 rfl rfl (fun w => by simp [go_sem])) rfl ?_
  refine hM.mono ?_
  rintro e w9 ⟨rfl, hL2⟩
  replace hL := hL2.back3
  clear hL2 hM
  refine ⟨_, rfl, fun a9 HH => ?_⟩
  have H9 := HH _ (P5 10 5 4 2 0 rfl rfl rfl rfl rfl)
  clear HH H8
  refine h_op H9 rfl (wn rfl) (R_fa H9 rfl rfl (fa29_0 _ _)) rfl (P6 11 10 5 4 2 0 rfl rfl rfl rfl rfl rfl) fun a10 H10 => ?_
  clear H9
  refine h_stL ((w5.heap.size, mcells { PMsg.zero with kind := 8 } (.slice none 0 0) (.slice none 0 0), 29) :: (W.heap.size, zcells, 29) :: (w1.heap.size, rcells s 1 0, 85) :: L) H10 rfl (wn rfl) (R_st H10 rfl rfl rfl (st_u8c hL rfl)) (hL.put 0 _) fun a11 w11 H11 hL' => ?_
  replace hL := hL'
  clear H10 hL'
  refine h_end ?_
  repeat (go_not_at_region 4; go_step)
  refine wp_region_lit ?_
  refine h_op H11 rfl (wn rfl) (R_mv H11 rfl rfl) rfl (P5 12 5 4 2 0 rfl rfl rfl rfl rfl) fun a12 H12 => ?_
  clear H11
  refine h_op H12 rfl (wn rfl) (R_nc H12 rfl rfl) rfl (P5 13 5 4 2 0 rfl rfl rfl rfl rfl) fun a13 H13 => ?_
  clear H12
  refine h_op H13 rfl (wn rfl) (R_fa H13 rfl rfl (fr_2 _ _)) rfl (P5 14 5 4 2 0 rfl rfl rfl rfl rfl) fun a14 H14 => ?_
  clear H13
  refine h_op H14 rfl (wn rfl) (R_ld H14 rfl rfl (ld_int (hL.third.cell 2))) rfl (P5 15 5 4 2 0 rfl rfl rfl rfl rfl) fun a15 H15 => ?_
  clear H14
  refine h_op H15 rfl (wn rfl) (R_bin H15 rfl rfl rfl (B_to (y := false) (B_ne Try.underlying3 _ _) (by decide))) rfl (P5 16 5 4 2 0 rfl rfl rfl rfl rfl) fun a16 H16 => ?_
  clear H15
  refine h_end ?_
  repeat (go_not_at_region 6; go_step)
  refine wp_cond_false (H16.ev (x := .tmp 16) rfl) ?_
  repeat (go_not_at_region 6; go_step)
  refine wp_region_lit ?_
  refine h_op H16 rfl (wn rfl) (R_fa H16 rfl rfl (fa29_0 _ _)) rfl (P5 22 5 4 2 0 rfl rfl rfl rfl rfl) fun a17 H17 => ?_
  clear H16
  refine h_op H17 rfl (wn rfl) (R_ld H17 rfl rfl (ld_u8k (c := 8) (hL.cell 0) rfl)) rfl (P5 23 5 4 2 0 rfl rfl rfl rfl rfl) fun a18 H18 => ?_
  clear H17
  refine h_op H18 rfl (wn rfl) (R_bin H18 rfl rfl rfl (B_to (y := false) (B8_lt _ _) (by decide))) rfl (P5 24 5 4 2 0 rfl rfl rfl rfl rfl) fun a19 H19 => ?_
  clear H18
  refine h_op H19 rfl (wn rfl) (R_mv H19 rfl rfl) rfl (P5 25 5 4 2 0 rfl rfl rfl rfl rfl) fun a20 H20 => ?_
  clear H19
  refine h_op H20 rfl (H20.wt rfl rfl rfl) (R_fa H20 rfl rfl (fa29_0 _ _)) rfl (P6 26 25 5 4 2 0 rfl rfl rfl rfl rfl rfl) fun a21 H21 => ?_
  clear H20
  refine h_op H21 rfl (H21.wt rfl rfl rfl) (R_ld H21 rfl rfl (ld_u8k (c := 8) (hL.cell 0) rfl)) rfl (P6 27 25 5 4 2 0 rfl rfl rfl rfl rfl rfl) fun a22 H22 => ?_
  clear H21
  refine h_op H22 rfl (H22.wt rfl rfl rfl) (R_bin H22 rfl rfl rfl (B_to (y := false) (B8_gt _ _) (by decide))) rfl (P6 28 25 5 4 2 0 rfl rfl rfl rfl rfl rfl) fun a23 H23 => ?_
  clear H22
  refine h_op H23 rfl (wn rfl) (R_pick H23 rfl rfl rfl) rfl (P5 29 5 4 2 0 rfl rfl rfl rfl rfl) fun a24 H24 => ?_
  clear H23
  refine h_end ?_
  repeat (go_not_at_region 8; go_step)
  refine wp_cond_false (H24.ev (x := .tmp 29) rfl) ?_
  repeat (go_not_at_region 8; go_step)
  refine wp_region_lit ?_
  refine h_op H24 rfl (wn rfl) (R_fa H24 rfl rfl (fa29_0 _ _)) rfl (P5 31 5 4 2 0 rfl rfl rfl rfl rfl) fun a25 H25 => ?_
  clear H24
  refine h_op H25 rfl (wn rfl) (R_ld H25 rfl rfl (ld_u8k (c := 8) (hL.cell 0) rfl)) rfl (P5 32 5 4 2 0 rfl rfl rfl rfl rfl) fun a26 H26 => ?_
  clear H25
  refine h_op H26 rfl (wn rfl) (R_bin H26 rfl rfl rfl (B_to (y := true) (B8_ge _ _) (by decide))) rfl (P5 33 5 4 2 0 rfl rfl rfl rfl rfl) fun a27 H27 => ?_
  clear H26
  refine h_op H27 rfl (wn rfl) (R_mv H27 rfl rfl) rfl (P5 34 5 4 2 0 rfl rfl rfl rfl rfl) fun a28 H28 => ?_
  clear H27
  refine h_op H28 rfl (H28.wt rfl rfl rfl) (R_fa H28 rfl rfl (fa29_0 _ _)) rfl (P6 35 34 5 4 2 0 rfl rfl rfl rfl rfl rfl) fun a29 H29 => ?_
  clear H28
  refine h_op H29 rfl (H29.wt rfl rfl rfl) (R_ld H29 rfl rfl (ld_u8k (c := 8) (hL.cell 0) rfl)) rfl (P6 36 34 5 4 2 0 rfl rfl rfl rfl rfl rfl) fun a30 H30 => ?_
  clear H29
  refine h_op H30 rfl (H30.wt rfl rfl rfl) (R_bin H30 rfl rfl rfl (B_to (y := true) (B8_le _ _) (by decide))) rfl (P6 37 34 5 4 2 0 rfl rfl rfl rfl rfl rfl) fun a31 H31 => ?_
  clear H30
  refine h_op H31 rfl (wn rfl) (R_pick H31 rfl rfl rfl) rfl (P5 38 5 4 2 0 rfl rfl rfl rfl rfl) fun a32 H32 => ?_
  clear H31
  refine h_end ?_
  repeat (go_not_at_region 9; go_step)
  refine wp_cond_true (H32.ev (x := .tmp 38) rfl) ?_
  repeat (go_not_at_region 9; go_step)
  have hM := inMost_any (m := 2147483647) (by decide) hs (show 1 ≤ s.size by have h := byteE_le (b := 0) (Nat.zero_le s.size); rw [hK] at h; exact h) hL.third
  have hle0 := mostE_le (m := 2147483647) (b := 0) (show 1 ≤ s.size by have h := byteE_le (b := 0) (Nat.zero_le s.size); rw [hK] at h; exact h)
  generalize mostE s 1 0 2147483647 = q0 at hM hle0 hr
  obtain ⟨x0, n0, b0⟩ := q0
  simp only at hM hle0 hr
  refine wp_region_lit ?_
  refine h_op H32 rfl (wn rfl) (R_mv H32 rfl rfl) rfl (P5 39 5 4 2 0 rfl rfl rfl rfl rfl) fun a33 H33 => ?_
  clear H32
  refine h_call H33 rfl (wn rfl) (R_call2 H33 rfl rfl rfl (fun w => by simp [go_sem])) rfl ?_
  refine hM.mono ?_
  rintro e w34 ⟨rfl, hL2⟩
  replace hL := hL2.back3
  clear hL2 hM
  refine ⟨_, rfl, fun a34 HH => ?_⟩
  have H34 := HH _ (P5 40 5 4 2 0 rfl rfl rfl rfl rfl)
  clear HH H33
  refine h_op H34 rfl (wn rfl) (R_fa H34 rfl rfl (fa29_1 _ _)) rfl (P6 41 40 5 4 2 0 rfl rfl rfl rfl rfl rfl) fun a35 H35 => ?_
  clear H34
  refine h_stL ((w5.heap.size, mcells { PMsg.zero with kind := 8, move := (x0 : Nat) } (.slice none 0 0) (.slice none 0 0), 29) :: (W.heap.size, zcells, 29) :: (w1.heap.size, rcells s n0 b0, 85) :: L) H35 rfl (wn rfl) (R_st H35 rfl rfl rfl (st_int hL rfl)) (hL.put 1 _) fun a36 w36 H36 hL' => ?_
  replace hL := hL'
  clear H35 hL'
  refine h_end ?_
  repeat (go_not_at_region 10; go_step)
  have hM := inMost_any (m := 2147483647) (by decide) hs hle0 hL.third
  have hle1 := mostE_le (m := 2147483647) (b := b0) hle0
  generalize mostE s n0 b0 2147483647 = q1 at hM hle1 hr
  obtain ⟨x1, n1, b1⟩ := q1
  simp only at hM hle1 hr
  refine wp_region_lit ?_
  refine h_op H36 rfl (wn rfl) (R_mv H36 rfl rfl) rfl (P5 42 5 4 2 0 rfl rfl rfl rfl rfl) fun a37 H37 => ?_
  clear H36
  refine h_call H37 rfl (wn rfl) (R_call2 H37 rfl rfl rfl (fun w => by simp [go_sem])) rfl ?_
  refine hM.mono ?_
  rintro e w38 ⟨rfl, hL2⟩
  replace hL := hL2.back3
  clear hL2 hM
  refine ⟨_, rfl, fun a38 HH => ?_⟩
  have H38 := HH _ (P5 43 5 4 2 0 rfl rfl rfl rfl rfl)
  clear HH H37
  refine h_op H38 rfl (wn rfl) (R_fa H38 rfl rfl (fa29_2 _ _)) rfl (P6 44 43 5 4 2 0 rfl rfl rfl rfl rfl rfl) fun a39 H39 => ?_
  clear H38
  refine h_stL ((w5.heap.size, mcells { PMsg.zero with kind := 8, move := (x0 : Nat), part := (x1 : Nat) } (.slice none 0 0) (.slice none 0 0), 29) :: (W.heap.size, zcells, 29) :: (w1.heap.size, rcells s n1 b1, 85) :: L) H39 rfl (wn rfl) (R_st H39 rfl rfl rfl (st_int hL rfl)) (hL.put 2 _) fun a40 w40 H40 hL' => ?_
  replace hL := hL'
  clear H39 hL'
  refine h_end ?_
  repeat (go_not_at_region 11; go_step)
  refine wp_region_lit ?_
  refine h_op H40 rfl (wn rfl) (R_fa H40 rfl rfl (fa29_0 _ _)) rfl (P5 45 5 4 2 0 rfl rfl rfl rfl rfl) fun a41 H41 => ?_
  clear H40
  refine h_op H41 rfl (wn rfl) (R_ld H41 rfl rfl (ld_u8k (c := 8) (hL.cell 0) rfl)) rfl (P5 46 5 4 2 0 rfl rfl rfl rfl rfl) fun a42 H42 => ?_
  clear H41
  refine h_end ?_
  repeat (go_not_at_region 12; go_step)
  refine wp_region_lit ?_
  refine h_op H42 rfl (wn rfl) (R_bin H42 rfl rfl rfl (B_to (y := false) (B8_eq _ _) (by decide))) rfl (P6 48 46 5 4 2 0 rfl rfl rfl rfl rfl rfl) fun a43 H43 => ?_
  clear H42
  refine h_op H43 rfl (wn rfl) (R_as H43 rfl rfl) rfl (P6 47 46 5 4 2 0 rfl rfl rfl rfl rfl rfl) fun a44 H44 => ?_
  clear H43
  refine h_end ?_
  repeat (go_not_at_region 14; go_step)
  refine wp_cond_false (H44.ev (x := .tmp 47) rfl) ?_
  repeat (go_not_at_region 14; go_step)
  repeat (go_not_at_region 14; go_step)
  refine wp_region_lit ?_
  refine h_op H44 rfl (wn rfl) (R_bin H44 rfl rfl rfl (B_to (y := false) (B8_eq _ _) (by decide))) rfl (P6 53 46 5 4 2 0 rfl rfl rfl rfl rfl rfl) fun a45 H45 => ?_
  clear H44
  refine h_op H45 rfl (wn rfl) (R_as H45 rfl rfl) rfl (P6 52 46 5 4 2 0 rfl rfl rfl rfl rfl rfl) fun a46 H46 => ?_
  clear H45
  refine h_end ?_
  repeat (go_not_at_region 15; go_step)
  refine wp_cond_false (H46.ev (x := .tmp 52) rfl) ?_
  repeat (go_not_at_region 15; go_step)
  repeat (go_not_at_region 15; go_step)
  refine wp_region_lit ?_
  refine h_op H46 rfl (wn rfl) (R_bin H46 rfl rfl rfl (B_to (y := false) (B8_eq _ _) (by decide))) rfl (P7 54 52 46 5 4 2 0 rfl rfl rfl rfl rfl rfl rfl) fun a47 H47 => ?_
  clear H46
  refine h_op H47 rfl (wn rfl) (R_as H47 rfl rfl) rfl (P6 52 46 5 4 2 0 rfl rfl rfl rfl rfl rfl) fun a48 H48 => ?_
  clear H47
  refine h_end ?_
  repeat (go_not_at_region 18; go_step)
  refine wp_cond_false (H48.ev (x := .tmp 52) rfl) ?_
  repeat (go_not_at_region 18; go_step)
  repeat (go_not_at_region 18; go_step)
  refine wp_region_lit ?_
  refine h_op H48 rfl (wn rfl) (R_bin H48 rfl rfl rfl (B_to (y := false) (B8_eq _ _) (by decide))) rfl (P6 64 46 5 4 2 0 rfl rfl rfl rfl rfl rfl) fun a49 H49 => ?_
  clear H48
  refine h_op H49 rfl (wn rfl) (R_as H49 rfl rfl) rfl (P6 63 46 5 4 2 0 rfl rfl rfl rfl rfl rfl) fun a50 H50 => ?_
  clear H49
  refine h_end ?_
  repeat (go_not_at_region 20; go_step)
  refine wp_cond_false (H50.ev (x := .tmp 63) rfl) ?_
  repeat (go_not_at_region 20; go_step)
  repeat (go_not_at_region 20; go_step)
  refine wp_region_lit ?_
  refine h_op H50 rfl (wn rfl) (R_bin H50 rfl rfl rfl (B_to (y := false) (B8_eq _ _) (by decide))) rfl (P6 69 46 5 4 2 0 rfl rfl rfl rfl rfl rfl) fun a51 H51 => ?_
  clear H50
  refine h_op H51 rfl (wn rfl) (R_as H51 rfl rfl) rfl (P6 68 46 5 4 2 0 rfl rfl rfl rfl rfl rfl) fun a52 H52 => ?_
  clear H51
  refine h_end ?_
  repeat (go_not_at_region 21; go_step)
  refine wp_cond_false (H52.ev (x := .tmp 68) rfl) ?_
  repeat (go_not_at_region 21; go_step)
  repeat (go_not_at_region 21; go_step)
  refine wp_region_lit ?_
  refine h_op H52 rfl (wn rfl) (R_bin H52 rfl rfl rfl (B_to (y := false) (B8_eq _ _) (by decide))) rfl (P7 70 68 46 5 4 2 0 rfl rfl rfl rfl rfl rfl rfl) fun a53 H53 => ?_
  clear H52
  refine h_op H53 rfl (wn rfl) (R_as H53 rfl rfl) rfl (P6 68 46 5 4 2 0 rfl rfl rfl rfl rfl rfl) fun a54 H54 => ?_
  clear H53
  refine h_end ?_
  repeat (go_not_at_region 22; go_step)
  refine wp_cond_false (H54.ev (x := .tmp 68) rfl) ?_
  repeat (go_not_at_region 22; go_step)
  repeat (go_not_at_region 22; go_step)
  refine wp_region_lit ?_
  refine h_op H54 rfl (wn rfl) (R_bin H54 rfl rfl rfl (B_to (y := false) (B8_eq _ _) (by decide))) rfl (P7 71 68 46 5 4 2 0 rfl rfl rfl rfl rfl rfl rfl) fun a55 H55 => ?_
  clear H54
  refine h_op H55 rfl (wn rfl) (R_as H55 rfl rfl) rfl (P6 68 46 5 4 2 0 rfl rfl rfl rfl rfl rfl) fun a56 H56 => ?_
  clear H55
  refine h_end ?_
  repeat (go_not_at_region 23; go_step)
  refine wp_cond_false (H56.ev (x := .tmp 68) rfl) ?_
  repeat (go_not_at_region 23; go_step)
  repeat (go_not_at_region 23; go_step)
  refine wp_region_lit ?_
  refine h_op H56 rfl (wn rfl) (R_bin H56 rfl rfl rfl (B_to (y := true) (B8_eq _ _) (by decide))) rfl (P7 72 68 46 5 4 2 0 rfl rfl rfl rfl rfl rfl rfl) fun a57 H57 => ?_
  clear H56
  refine h_op H57 rfl (wn rfl) (R_as H57 rfl rfl) rfl (P6 68 46 5 4 2 0 rfl rfl rfl rfl rfl rfl) fun a58 H58 => ?_
  clear H57
  refine h_end ?_
  repeat (go_not_at_region 25; go_step)
  repeat (refine wp_cond_true (H58.ev (x := .tmp 68) rfl) ?_; repeat (go_not_at_region 25; go_step))
  repeat (go_not_at_region 25; go_step)
  have hM := inMost_any (m := 2147483647) (by decide) hs hle1 hL.third
  have hle2 := mostE_le (m := 2147483647) (b := b1) hle1
  generalize mostE s n1 b1 2147483647 = q2 at hM hle2 hr
  obtain ⟨x2, n2, b2⟩ := q2
  simp only at hM hle2 hr
  refine wp_region_lit ?_
  refine h_op H58 rfl (wn rfl) (R_mv H58 rfl rfl) rfl (P6 74 46 5 4 2 0 rfl rfl rfl rfl rfl rfl) fun a59 H59 => ?_
  clear H58
  refine h_call H59 rfl (wn rfl) (R_call2 H59 rfl rfl rfl (fun w => by simp [go_sem])) rfl ?_
  refine hM.mono ?_
  rintro e w60 ⟨rfl, hL2⟩
  replace hL := hL2.back3
  clear hL2 hM
  refine ⟨_, rfl, fun a60 HH => ?_⟩
  have H60 := HH _ (P6 75 46 5 4 2 0 rfl rfl rfl rfl rfl rfl)
  clear HH H59
  refine h_op H60 rfl (wn rfl) (R_fa H60 rfl rfl (fa29_4 _ _)) rfl (P7 76 75 46 5 4 2 0 rfl rfl rfl rfl rfl rfl rfl) fun a61 H61 => ?_
  clear H60
  refine h_stL ((w5.heap.size, mcells { PMsg.zero with kind := 8, move := (x0 : Nat), part := (x1 : Nat), n := (x2 : Nat) } (.slice none 0 0) (.slice none 0 0), 29) :: (W.heap.size, zcells, 29) :: (w1.heap.size, rcells s n2 b2, 85) :: L) H61 rfl (wn rfl) (R_st H61 rfl rfl rfl (st_int hL rfl)) (hL.put 4 _) fun a62 w62 H62 hL' => ?_
  replace hL := hL'
  clear H61 hL'
  refine h_end ?_
  repeat (go_not_at_region 26; go_step)
  refine wp_region_lit ?_
  refine h_op H62 rfl (wn rfl) (R_fa H62 rfl rfl (fa29_0 _ _)) rfl (P5 77 5 4 2 0 rfl rfl rfl rfl rfl) fun a63 H63 => ?_
  clear H62
  refine h_op H63 rfl (wn rfl) (R_ld H63 rfl rfl (ld_u8k (c := 8) (hL.cell 0) rfl)) rfl (P5 78 5 4 2 0 rfl rfl rfl rfl rfl) fun a64 H64 => ?_
  clear H63
  refine h_end ?_
  repeat (go_not_at_region 27; go_step)
  refine wp_region_lit ?_
  refine h_op H64 rfl (wn rfl) (R_bin H64 rfl rfl rfl (B_to (y := false) (B8_eq _ _) (by decide))) rfl (P6 80 78 5 4 2 0 rfl rfl rfl rfl rfl rfl) fun a65 H65 => ?_
  clear H64
  refine h_op H65 rfl (wn rfl) (R_as H65 rfl rfl) rfl (P6 79 78 5 4 2 0 rfl rfl rfl rfl rfl rfl) fun a66 H66 => ?_
  clear H65
  refine h_end ?_
  repeat (go_not_at_region 28; go_step)
  refine wp_cond_false (H66.ev (x := .tmp 79) rfl) ?_
  repeat (go_not_at_region 28; go_step)
  repeat (go_not_at_region 28; go_step)
  refine wp_region_lit ?_
  refine h_op H66 rfl (wn rfl) (R_bin H66 rfl rfl rfl (B_to (y := false) (B8_eq _ _) (by decide))) rfl (P7 81 79 78 5 4 2 0 rfl rfl rfl rfl rfl rfl rfl) fun a67 H67 => ?_
  clear H66
  refine h_op H67 rfl (wn rfl) (R_as H67 rfl rfl) rfl (P6 79 78 5 4 2 0 rfl rfl rfl rfl rfl rfl) fun a68 H68 => ?_
  clear H67
  refine h_end ?_
  repeat (go_not_at_region 30; go_step)
  refine wp_cond_false (H68.ev (x := .tmp 79) rfl) ?_
  repeat (go_not_at_region 30; go_step)
  repeat (go_not_at_region 30; go_step)
  refine wp_region_lit ?_
  refine h_op H68 rfl (wn rfl) (R_bin H68 rfl rfl rfl (B_to (y := false) (B8_eq _ _) (by decide))) rfl (P6 86 78 5 4 2 0 rfl rfl rfl rfl rfl rfl) fun a69 H69 => ?_
  clear H68
  refine h_op H69 rfl (wn rfl) (R_as H69 rfl rfl) rfl (P6 85 78 5 4 2 0 rfl rfl rfl rfl rfl rfl) fun a70 H70 => ?_
  clear H69
  refine h_end ?_
  repeat (go_not_at_region 31; go_step)
  refine wp_cond_false (H70.ev (x := .tmp 85) rfl) ?_
  repeat (go_not_at_region 31; go_step)
  repeat (go_not_at_region 31; go_step)
  refine wp_region_lit ?_
  refine h_op H70 rfl (wn rfl) (R_bin H70 rfl rfl rfl (B_to (y := false) (B8_eq _ _) (by decide))) rfl (P7 87 85 78 5 4 2 0 rfl rfl rfl rfl rfl rfl rfl) fun a71 H71 => ?_
  clear H70
  refine h_op H71 rfl (wn rfl) (R_as H71 rfl rfl) rfl (P6 85 78 5 4 2 0 rfl rfl rfl rfl rfl rfl) fun a72 H72 => ?_
  clear H71
  refine h_end ?_
  repeat (go_not_at_region 32; go_step)
  refine wp_cond_false (H72.ev (x := .tmp 85) rfl) ?_
  repeat (go_not_at_region 32; go_step)
  repeat (go_not_at_region 32; go_step)
  refine wp_region_lit ?_
  refine h_op H72 rfl (wn rfl) (R_bin H72 rfl rfl rfl (B_to (y := false) (B8_eq _ _) (by decide))) rfl (P7 88 85 78 5 4 2 0 rfl rfl rfl rfl rfl rfl rfl) fun a73 H73 => ?_
  clear H72
  refine h_op H73 rfl (wn rfl) (R_as H73 rfl rfl) rfl (P6 85 78 5 4 2 0 rfl rfl rfl rfl rfl rfl) fun a74 H74 => ?_
  clear H73
  refine h_end ?_
  repeat (go_not_at_region 34; go_step)
  refine wp_cond_false (H74.ev (x := .tmp 85) rfl) ?_
  repeat (go_not_at_region 34; go_step)
  repeat (go_not_at_region 34; go_step)
  refine wp_region_lit ?_
  refine h_op H74 rfl (wn rfl) (R_bin H74 rfl rfl rfl (B_to (y := false) (B8_eq _ _) (by decide))) rfl (P6 93 78 5 4 2 0 rfl rfl rfl rfl rfl rfl) fun a75 H75 => ?_
  clear H74
  refine h_op H75 rfl (wn rfl) (R_as H75 rfl rfl) rfl (P6 92 78 5 4 2 0 rfl rfl rfl rfl rfl rfl) fun a76 H76 => ?_
  clear H75
  refine h_end ?_
  repeat (go_not_at_region 37; go_step)
  refine wp_cond_false (H76.ev (x := .tmp 92) rfl) ?_
  repeat (go_not_at_region 37; go_step)
  repeat (go_not_at_region 37; go_step)
  refine wp_region_lit ?_
  refine h_op H76 rfl (wn rfl) (R_bin H76 rfl rfl rfl (B_to (y := false) (B8_eq _ _) (by decide))) rfl (P6 101 78 5 4 2 0 rfl rfl rfl rfl rfl rfl) fun a77 H77 => ?_
  clear H76
  refine h_op H77 rfl (wn rfl) (R_as H77 rfl rfl) rfl (P6 100 78 5 4 2 0 rfl rfl rfl rfl rfl rfl) fun a78 H78 => ?_
  clear H77
  refine h_end ?_
  repeat (go_not_at_region 39; go_step)
  refine wp_cond_false (H78.ev (x := .tmp 100) rfl) ?_
  repeat (go_not_at_region 39; go_step)
  repeat (go_not_at_region 39; go_step)
  refine wp_region_lit ?_
  refine h_op H78 rfl (wn rfl) (R_bin H78 rfl rfl rfl (B_to (y := false) (B8_eq _ _) (by decide))) rfl (P6 106 78 5 4 2 0 rfl rfl rfl rfl rfl rfl) fun a79 H79 => ?_
  clear H78
  refine h_op H79 rfl (wn rfl) (R_as H79 rfl rfl) rfl (P6 105 78 5 4 2 0 rfl rfl rfl rfl rfl rfl) fun a80 H80 => ?_
  clear H79
  refine h_end ?_
  repeat (go_not_at_region 41; go_step)
  refine wp_cond_false (H80.ev (x := .tmp 105) rfl) ?_
  repeat (go_not_at_region 41; go_step)
  repeat (go_not_at_region 41; go_step)
  refine wp_region_lit ?_
  refine h_op H80 rfl (wn rfl) (R_bin H80 rfl rfl rfl (B_to (y := false) (B8_eq _ _) (by decide))) rfl (P6 111 78 5 4 2 0 rfl rfl rfl rfl rfl rfl) fun a81 H81 => ?_
  clear H80
  refine h_op H81 rfl (wn rfl) (R_as H81 rfl rfl) rfl (P6 110 78 5 4 2 0 rfl rfl rfl rfl rfl rfl) fun a82 H82 => ?_
  clear H81
  refine h_end ?_
  repeat (go_not_at_region 44; go_step)
  refine wp_cond_false (H82.ev (x := .tmp 110) rfl) ?_
  repeat (go_not_at_region 44; go_step)
  subst hr
  simp only at hY
  by_cases hb : b2 ≠ 0
  · rw [if_pos hb] at hY
    repeat (go_not_at_region 44; go_step)
    refine wp_region_lit ?_
    refine h_op H82 rfl (wn rfl) (R_mv H82 rfl rfl) rfl (P5 118 5 4 2 0 rfl rfl rfl rfl rfl) fun a83 H83 => ?_
    clear H82
    refine h_op H83 rfl (wn rfl) (R_nc H83 rfl rfl) rfl (P5 119 5 4 2 0 rfl rfl rfl rfl rfl) fun a84 H84 => ?_
    clear H83
    refine h_op H84 rfl (wn rfl) (R_fa H84 rfl rfl (fr_2 _ _)) rfl (P5 120 5 4 2 0 rfl rfl rfl rfl rfl) fun a85 H85 => ?_
    clear H84
    refine h_op H85 rfl (wn rfl) (R_ld H85 rfl rfl (ld_int (hL.third.cell 2))) rfl (P5 121 5 4 2 0 rfl rfl rfl rfl rfl) fun a86 H86 => ?_
    clear H85
    refine h_op H86 rfl (wn rfl) (R_bin H86 rfl rfl rfl (B_to (y := true) (B_ne Try.underlying3 _ _) (bne_iff_ne.2 hb))) rfl (P5 122 5 4 2 0 rfl rfl rfl rfl rfl) fun a87 H87 => ?_
    clear H86
    refine h_end ?_
    repeat (go_not_at_region 45; go_step)
    refine wp_cond_true (H87.ev (x := .tmp 122) rfl) ?_
    repeat (go_not_at_region 45; go_step)
    refine wp_region_held_drew (S := fun w' => Live w0 ((w5.heap.size, mcells { PMsg.zero with kind := 8, move := (x0 : Nat), part := (x1 : Nat), n := (x2 : Nat) } (.slice none 0 0) (.slice none 0 0), 29) :: (W.heap.size, zcells, 29) :: (w1.heap.size, rcells s n2 b2, 85) :: L) w') (by kernel_rfl) hL.drew (fun hL' => ?_)
    replace hL := hL'
    clear hL'
    refine a_op 0 H87 rfl rfl (by kernel_rfl) (by kernel_rfl) (by kernel_rfl) (fun _ _ _ h => h) (wn rfl) (fun w hL => R_build rfl bd_row) hL rfl (P3 123 4 2 rfl rfl rfl) fun a88 H88 => ?_
    clear H87
    refine a_op 1 H88 rfl rfl (by kernel_rfl) (by kernel_rfl) (by kernel_rfl) (fun _ _ _ h => h) (wn rfl) (fun w hL => R_mv H88 rfl rfl) hL rfl (P3 124 123 2 rfl rfl rfl) fun a89 H89 => ?_
    clear H88
    refine a_op 2 H89 rfl rfl (by kernel_rfl) (by kernel_rfl) (by kernel_rfl) (fun _ _ _ h => h) (wn rfl) (fun w hL => R_nc H89 rfl rfl) hL rfl (P3 125 123 2 rfl rfl rfl) fun a90 H90 => ?_
    clear H89
    refine a_op 3 H90 rfl rfl (by kernel_rfl) (by kernel_rfl) (by kernel_rfl) (fun _ _ _ h => h) (wn rfl) (fun w hL => R_fa H90 rfl rfl (fr_2 _ _)) hL rfl (P3 126 123 2 rfl rfl rfl) fun a91 H91 => ?_
    clear H90
    refine a_op 4 H91 rfl rfl (by kernel_rfl) (by kernel_rfl) (by kernel_rfl) (fun _ _ _ h => h) (wn rfl) (fun w hL => R_ld H91 rfl rfl (ld_int (hL.third.cell 2))) hL rfl (P3 127 123 2 rfl rfl rfl) fun a92 H92 => ?_
    clear H91
    refine a_all1 5 (by kernel_rfl) ?_
    refine o_stL ((w5.heap.size, mcells { PMsg.zero with kind := 8, move := (x0 : Nat), part := (x1 : Nat), n := (x2 : Nat) } (.slice none 0 0) (.slice none 0 0), 29) :: (W.heap.size, zcells, 29) :: (w1.heap.size, rcells s n2 b2, 85) :: L) 5 H92 rfl rfl (wn rfl) (R_st H92 rfl rfl rfl (st_row (m2 := .zero) (m := .zero) (vo2 := .slice none 0 0) (vs2 := .slice none 0 0) (vo := .slice none 0 0) (vs := .slice none 0 0) (hL.mem_at (by simp)) (mcells_one rfl rfl))) ((hL.swap.row _).swap) fun a93 w93 H93 hL' => ⟨hL', ?_⟩
    replace hL := hL'
    clear H92 hL'
    refine a_op 6 H93 rfl rfl (by kernel_rfl) (by kernel_rfl) (by kernel_rfl) (fun _ _ _ h => h) (wn rfl) (fun w hL => R_as H93 rfl rfl) hL rfl (P2 3 2 rfl rfl) fun a94 H94 => ?_
    clear H93
    refine wpAnyH_done (by kernel_rfl) ?_ _
    repeat (go_not_at_region 999; go_step)
    refine bodyPost_ret (v := .tuple #[.agg zcells, .int .i64 b2]) (refread_results (H94.getD rfl) (H94.getD rfl) hL.swap.at_ rfl) H94.1 ?_
    rw [hY]
    exact .zero rfl hL.tail.tail.tail
  obtain rfl : b2 = 0 := Decidable.not_not.1 hb
  rw [if_neg hb] at hY
  clear hb
  repeat (go_not_at_region 44; go_step)
  refine wp_region_lit ?_
  refine h_op H82 rfl (wn rfl) (R_mv H82 rfl rfl) rfl (P5 118 5 4 2 0 rfl rfl rfl rfl rfl) fun a83 H83 => ?_
  clear H82
  refine h_op H83 rfl (wn rfl) (R_nc H83 rfl rfl) rfl (P5 119 5 4 2 0 rfl rfl rfl rfl rfl) fun a84 H84 => ?_
  clear H83
  refine h_op H84 rfl (wn rfl) (R_fa H84 rfl rfl (fr_2 _ _)) rfl (P5 120 5 4 2 0 rfl rfl rfl rfl rfl) fun a85 H85 => ?_
  clear H84
  refine h_op H85 rfl (wn rfl) (R_ld H85 rfl rfl (ld_int (hL.third.cell 2))) rfl (P5 121 5 4 2 0 rfl rfl rfl rfl rfl) fun a86 H86 => ?_
  clear H85
  refine h_op H86 rfl (wn rfl) (R_bin H86 rfl rfl rfl (B_to (y := false) (B_ne Try.underlying3 _ _) (by decide))) rfl (P5 122 5 4 2 0 rfl rfl rfl rfl rfl) fun a87 H87 => ?_
  clear H86
  refine h_end ?_
  repeat (go_not_at_region 46; go_step)
  refine wp_cond_false (H87.ev (x := .tmp 122) rfl) ?_
  by_cases hn : n2 < s.size
  · rw [if_pos hn] at hY
    repeat (go_not_at_region 46; go_step)
    repeat (go_not_at_region 46; go_step)
    refine wp_region_lit ?_
    refine h_op H87 rfl (wn rfl) (R_mv H87 rfl rfl) rfl (P5 128 5 4 2 0 rfl rfl rfl rfl rfl) fun a88 H88 => ?_
    clear H87
    refine h_op H88 rfl (wn rfl) (R_nc H88 rfl rfl) rfl (P5 129 5 4 2 0 rfl rfl rfl rfl rfl) fun a89 H89 => ?_
    clear H88
    refine h_op H89 rfl (wn rfl) (R_fa H89 rfl rfl (fr_1 _ _)) rfl (P5 130 5 4 2 0 rfl rfl rfl rfl rfl) fun a90 H90 => ?_
    clear H89
    refine h_op H90 rfl (wn rfl) (R_ld H90 rfl rfl (ld_int (hL.third.cell 1))) rfl (P5 131 5 4 2 0 rfl rfl rfl rfl rfl) fun a91 H91 => ?_
    clear H90
    refine h_op H91 rfl (wn rfl) (R_mv H91 rfl rfl) rfl (P6 132 131 5 4 2 0 rfl rfl rfl rfl rfl rfl) fun a92 H92 => ?_
    clear H91
    refine h_op H92 rfl (wn rfl) (R_len H92 rfl rfl Try.underlying9) rfl (P6 133 131 5 4 2 0 rfl rfl rfl rfl rfl rfl) fun a93 H93 => ?_
    clear H92
    refine h_op H93 rfl (wn rfl) (R_bin H93 rfl rfl rfl (B_to (y := true) (B_lt Try.underlying3 _ _) (decide_eq_true (by omega)))) rfl (P5 134 5 4 2 0 rfl rfl rfl rfl rfl) fun a94 H94 => ?_
    clear H93
    refine h_end ?_
    repeat (go_not_at_region 47; go_step)
    refine wp_cond_true (H94.ev (x := .tmp 134) rfl) ?_
    repeat (go_not_at_region 47; go_step)
    repeat (go_not_at_region 47; go_step)
    refine wp_region_lit ?_
    refine h_op H94 rfl (wn rfl) (R_build rfl bd_row) rfl (P2 135 2 rfl rfl) fun a95 H95 => ?_
    clear H94
    refine h_stL ((w5.heap.size, mcells { PMsg.zero with kind := 8, move := (x0 : Nat), part := (x1 : Nat), n := (x2 : Nat) } (.slice none 0 0) (.slice none 0 0), 29) :: (W.heap.size, zcells, 29) :: (w1.heap.size, rcells s n2 0, 85) :: L) H95 rfl (wn rfl) (R_st H95 rfl rfl rfl (st_row (m2 := .zero) (m := .zero) (vo2 := .slice none 0 0) (vs2 := .slice none 0 0) (vo := .slice none 0 0) (vs := .slice none 0 0) (hL.mem_at (by simp)) (mcells_one rfl rfl))) ((hL.swap.row _).swap) fun a96 w96 H96 hL' => ?_
    replace hL := hL'
    clear H95 hL'
    refine h_op H96 rfl (wn rfl) (R_as H96 rfl rfl) rfl (P2 3 2 rfl rfl) fun a97 H97 => ?_
    clear H96
    refine h_end ?_
    repeat (go_not_at_region 999; go_step)
    refine bodyPost_ret (v := .tuple #[.agg zcells, .int .i64 8]) (refread_results (H97.getD rfl) (H97.getD rfl) hL.swap.at_ rfl) H97.1 ?_
    rw [hY]
    exact .zero rfl hL.tail.tail.tail
  rw [if_neg hn] at hY
  repeat (go_not_at_region 46; go_step)
  repeat (go_not_at_region 46; go_step)
  refine wp_region_lit ?_
  refine h_op H87 rfl (wn rfl) (R_mv H87 rfl rfl) rfl (P5 128 5 4 2 0 rfl rfl rfl rfl rfl) fun a88 H88 => ?_
  clear H87
  refine h_op H88 rfl (wn rfl) (R_nc H88 rfl rfl) rfl (P5 129 5 4 2 0 rfl rfl rfl rfl rfl) fun a89 H89 => ?_
  clear H88
  refine h_op H89 rfl (wn rfl) (R_fa H89 rfl rfl (fr_1 _ _)) rfl (P5 130 5 4 2 0 rfl rfl rfl rfl rfl) fun a90 H90 => ?_
  clear H89
  refine h_op H90 rfl (wn rfl) (R_ld H90 rfl rfl (ld_int (hL.third.cell 1))) rfl (P5 131 5 4 2 0 rfl rfl rfl rfl rfl) fun a91 H91 => ?_
  clear H90
  refine h_op H91 rfl (wn rfl) (R_mv H91 rfl rfl) rfl (P6 132 131 5 4 2 0 rfl rfl rfl rfl rfl rfl) fun a92 H92 => ?_
  clear H91
  refine h_op H92 rfl (wn rfl) (R_len H92 rfl rfl Try.underlying9) rfl (P6 133 131 5 4 2 0 rfl rfl rfl rfl rfl rfl) fun a93 H93 => ?_
  clear H92
  refine h_op H93 rfl (wn rfl) (R_bin H93 rfl rfl rfl (B_to (y := false) (B_lt Try.underlying3 _ _) (decide_eq_false (by omega)))) rfl (P5 134 5 4 2 0 rfl rfl rfl rfl rfl) fun a94 H94 => ?_
  clear H93
  refine h_end ?_
  repeat (go_not_at_region 48; go_step)
  refine wp_cond_false (H94.ev (x := .tmp 134) rfl) ?_
  repeat (go_not_at_region 48; go_step)
  repeat (go_not_at_region 48; go_step)
  refine wp_region_lit ?_
  refine h_op H94 rfl (wn rfl) (R_ld H94 rfl rfl (ld_row hL.at_)) rfl (P2 136 2 rfl rfl) fun a95 H95 => ?_
  clear H94
  refine h_stL ((W.heap.size, mcells { PMsg.zero with kind := 8, move := (x0 : Nat), part := (x1 : Nat), n := (x2 : Nat) } (.slice none 0 0) (.slice none 0 0), 29) :: (w5.heap.size, mcells { PMsg.zero with kind := 8, move := (x0 : Nat), part := (x1 : Nat), n := (x2 : Nat) } (.slice none 0 0) (.slice none 0 0), 29) :: (w1.heap.size, rcells s n2 0, 85) :: L) H95 rfl (wn rfl) (R_st H95 rfl rfl rfl (st_row (m2 := .zero) (vo2 := .slice none 0 0) (vs2 := .slice none 0 0) (hL.mem_at (by simp)) (mcells_one rfl rfl))) (hL.swap.row _) fun a96 w96 H96 hL' => ?_
  replace hL := hL'
  clear H95 hL'
  refine h_op H96 rfl (wn rfl) (R_as H96 rfl rfl) rfl (P2 3 2 rfl rfl) fun a97 H97 => ?_
  clear H96
  refine h_end ?_
  repeat (go_not_at_region 999; go_step)
  refine bodyPost_ret (v := .tuple #[.agg (mcells { PMsg.zero with kind := 8, move := (x0 : Nat), part := (x1 : Nat), n := (x2 : Nat) } (.slice none 0 0) (.slice none 0 0)), .int .i64 0]) (refread_results (H97.getD rfl) (H97.getD rfl) hL.at_ rfl) H97.1 ?_
  rw [hY]
  exact ⟨(.slice none 0 0), (.slice none 0 0), [], [], rfl, .inl ⟨rd_nul _, rfl⟩, .inl ⟨rd_nul _, rfl⟩, hL.tail.tail.tail⟩
set_option maxRecDepth 100000 in
set_option maxHeartbeats 8000000 in
theorem rread_9 (hs : s.size < 140737488351233) (hL : Live w0 L W) (hK : byteE s 0 0 = (9, 1, 0)) : Calls Try.prog 23 #[.string s] W fun e W' => ReadQ w0 L (msgE s) e W' := by
  obtain ⟨Y, hY⟩ : ∃ Y, Y = msgE s := ⟨_, rfl⟩
  rw [← hY]
  obtain ⟨r, hr⟩ : ∃ r, r = body9 s 1 0 := ⟨_, rfl⟩
  rw [msgE_body hK (by decide) (by decide) (show bodyE s 9 1 0 = r from hr.symm)] at hY
  unfold body9 at hr
  simp only at hr
  go_enter Try.func23, Try.ntmps23
  refine wp_fr (n := 137) (m := [(0, _)]) ⟨rfl, rfl, by intro p hp; simp only [List.mem_cons, List.not_mem_nil, or_false] at hp; rcases hp with rfl <;> rfl⟩ fun a0 H0 => ?_
  repeat (go_not_at_region 0; go_step)
  refine wp_region_lit ?_
  refine h_opL ((W.heap.size, zcells, 29) :: L) H0 rfl (wn rfl) (R_alloc rfl al_row) (hL.alloc _ _) rfl (P2 2 0 rfl rfl) fun a1 w1 H1 hL' => ?_
  replace hL := hL'
  clear H0 hL'
  refine h_op H1 rfl (wn rfl) (R_as H1 rfl rfl) rfl (P2 2 0 rfl rfl) fun a2 H2 => ?_
  clear H1
  refine h_end ?_
  repeat (go_not_at_region 1; go_step)
  refine wp_region_lit ?_
  refine h_op H2 rfl (wn rfl) (R_mv H2 rfl rfl) rfl (P3 6 2 0 rfl rfl rfl) fun a3 H3 => ?_
  clear H2
  refine h_op H3 rfl (wn rfl) (R_bd1 H3 rfl rfl bd_in) rfl (P3 7 2 0 rfl rfl rfl) fun a4 H4 => ?_
  clear H3
  refine h_opL ((w1.heap.size, rcells s 0 0, 85) :: (W.heap.size, zcells, 29) :: L) H4 rfl (wn rfl) (R_box H4 rfl rfl bx_in) (hL.alloc _ _) rfl (P3 8 2 0 rfl rfl rfl) fun a5 w5 H5 hL' => ?_
  replace hL := hL'
  clear H4 hL'
  refine h_op H5 rfl (wn rfl) (R_as H5 rfl rfl) rfl (P3 4 2 0 rfl rfl rfl) fun a6 H6 => ?_
  clear H5
  refine h_end ?_
  repeat (go_not_at_region 2; go_step)
  refine wp_region_lit ?_
  refine h_opL ((w5.heap.size, zcells, 29) :: (W.heap.size, zcells, 29) :: (w1.heap.size, rcells s 0 0, 85) :: L) H6 rfl (wn rfl) (R_alloc rfl al_row) ((hL.alloc _ _).swap3) rfl (P4 5 4 2 0 rfl rfl rfl rfl) fun a7 w7 H7 hL' => ?_
  replace hL := hL'
  clear H6 hL'
  refine h_end ?_
  repeat (go_not_at_region 3; go_step)
  have hM := inByte_any hs (Nat.zero_le _) hL.third
  rw [hK] at hM
  simp only at hM
  refine wp_region_lit ?_
  refine h_op H7 rfl (wn rfl) (R_mv H7 rfl rfl) rfl (P5 9 5 4 2 0 rfl rfl rfl rfl rfl) fun a8 H8 => ?_
  clear H7
  refine h_call H8 rfl (wn rfl) (R_call1 H8 rfl rfl (fun w => by simp [go_sem])) rfl ?_
  refine hM.mono ?_
  rintro e w9 ⟨rfl, hL2⟩
  replace hL := hL2.back3
  clear hL2 hM
  refine ⟨_, rfl, fun a9 HH => ?_⟩
  have H9 := HH _ (P5 10 5 4 2 0 rfl rfl rfl rfl rfl)
  clear HH H8
  refine h_op H9 rfl (wn rfl) (R_fa H9 rfl rfl (fa29_0 _ _)) rfl (P6 11 10 5 4 2 0 rfl rfl rfl rfl rfl rfl) fun a10 H10 => ?_
  clear H9
  refine h_stL ((w5.heap.size, mcells { PMsg.zero with kind := 9 } (.slice none 0 0) (.slice none 0 0), 29) :: (W.heap.size, zcells, 29) :: (w1.heap.size, rcells s 1 0, 85) :: L) H10 rfl (wn rfl) (R_st H10 rfl rfl rfl (st_u8c hL rfl)) (hL.put 0 _) fun a11 w11 H11 hL' => ?_
  replace hL := hL'
  clear H10 hL'
  refine h_end ?_
  repeat (go_not_at_region 4; go_step)
  refine wp_region_lit ?_
  refine h_op H11 rfl (wn rfl) (R_mv H11 rfl rfl) rfl (P5 12 5 4 2 0 rfl rfl rfl rfl rfl) fun a12 H12 => ?_
  clear H11
  refine h_op H12 rfl (wn rfl) (R_nc H12 rfl rfl) rfl (P5 13 5 4 2 0 rfl rfl rfl rfl rfl) fun a13 H13 => ?_
  clear H12
  refine h_op H13 rfl (wn rfl) (R_fa H13 rfl rfl (fr_2 _ _)) rfl (P5 14 5 4 2 0 rfl rfl rfl rfl rfl) fun a14 H14 => ?_
  clear H13
  refine h_op H14 rfl (wn rfl) (R_ld H14 rfl rfl (ld_int (hL.third.cell 2))) rfl (P5 15 5 4 2 0 rfl rfl rfl rfl rfl) fun a15 H15 => ?_
  clear H14
  refine h_op H15 rfl (wn rfl) (R_bin H15 rfl rfl rfl (B_to (y := false) (B_ne Try.underlying3 _ _) (by decide))) rfl (P5 16 5 4 2 0 rfl rfl rfl rfl rfl) fun a16 H16 => ?_
  clear H15
  refine h_end ?_
  repeat (go_not_at_region 6; go_step)
  refine wp_cond_false (H16.ev (x := .tmp 16) rfl) ?_
  repeat (go_not_at_region 6; go_step)
  refine wp_region_lit ?_
  refine h_op H16 rfl (wn rfl) (R_fa H16 rfl rfl (fa29_0 _ _)) rfl (P5 22 5 4 2 0 rfl rfl rfl rfl rfl) fun a17 H17 => ?_
  clear H16
  refine h_op H17 rfl (wn rfl) (R_ld H17 rfl rfl (ld_u8k (c := 9) (hL.cell 0) rfl)) rfl (P5 23 5 4 2 0 rfl rfl rfl rfl rfl) fun a18 H18 => ?_
  clear H17
  refine h_op H18 rfl (wn rfl) (R_bin H18 rfl rfl rfl (B_to (y := false) (B8_lt _ _) (by decide))) rfl (P5 24 5 4 2 0 rfl rfl rfl rfl rfl) fun a19 H19 => ?_
  clear H18
  refine h_op H19 rfl (wn rfl) (R_mv H19 rfl rfl) rfl (P5 25 5 4 2 0 rfl rfl rfl rfl rfl) fun a20 H20 => ?_
  clear H19
  refine h_op H20 rfl (H20.wt rfl rfl rfl) (R_fa H20 rfl rfl (fa29_0 _ _)) rfl (P6 26 25 5 4 2 0 rfl rfl rfl rfl rfl rfl) fun a21 H21 => ?_
  clear H20
  refine h_op H21 rfl (H21.wt rfl rfl rfl) (R_ld H21 rfl rfl (ld_u8k (c := 9) (hL.cell 0) rfl)) rfl (P6 27 25 5 4 2 0 rfl rfl rfl rfl rfl rfl) fun a22 H22 => ?_
  clear H21
  refine h_op H22 rfl (H22.wt rfl rfl rfl) (R_bin H22 rfl rfl rfl (B_to (y := false) (B8_gt _ _) (by decide))) rfl (P6 28 25 5 4 2 0 rfl rfl rfl rfl rfl rfl) fun a23 H23 => ?_
  clear H22
  refine h_op H23 rfl (wn rfl) (R_pick H23 rfl rfl rfl) rfl (P5 29 5 4 2 0 rfl rfl rfl rfl rfl) fun a24 H24 => ?_
  clear H23
  refine h_end ?_
  repeat (go_not_at_region 8; go_step)
  refine wp_cond_false (H24.ev (x := .tmp 29) rfl) ?_
  repeat (go_not_at_region 8; go_step)
  refine wp_region_lit ?_
  refine h_op H24 rfl (wn rfl) (R_fa H24 rfl rfl (fa29_0 _ _)) rfl (P5 31 5 4 2 0 rfl rfl rfl rfl rfl) fun a25 H25 => ?_
  clear H24
  refine h_op H25 rfl (wn rfl) (R_ld H25 rfl rfl (ld_u8k (c := 9) (hL.cell 0) rfl)) rfl (P5 32 5 4 2 0 rfl rfl rfl rfl rfl) fun a26 H26 => ?_
  clear H25
  refine h_op H26 rfl (wn rfl) (R_bin H26 rfl rfl rfl (B_to (y := true) (B8_ge _ _) (by decide))) rfl (P5 33 5 4 2 0 rfl rfl rfl rfl rfl) fun a27 H27 => ?_
  clear H26
  refine h_op H27 rfl (wn rfl) (R_mv H27 rfl rfl) rfl (P5 34 5 4 2 0 rfl rfl rfl rfl rfl) fun a28 H28 => ?_
  clear H27
  refine h_op H28 rfl (H28.wt rfl rfl rfl) (R_fa H28 rfl rfl (fa29_0 _ _)) rfl (P6 35 34 5 4 2 0 rfl rfl rfl rfl rfl rfl) fun a29 H29 => ?_
  clear H28
  refine h_op H29 rfl (H29.wt rfl rfl rfl) (R_ld H29 rfl rfl (ld_u8k (c := 9) (hL.cell 0) rfl)) rfl (P6 36 34 5 4 2 0 rfl rfl rfl rfl rfl rfl) fun a30 H30 => ?_
  clear H29
  refine h_op H30 rfl (H30.wt rfl rfl rfl) (R_bin H30 rfl rfl rfl (B_to (y := true) (B8_le _ _) (by decide))) rfl (P6 37 34 5 4 2 0 rfl rfl rfl rfl rfl rfl) fun a31 H31 => ?_
  clear H30
  refine h_op H31 rfl (wn rfl) (R_pick H31 rfl rfl rfl) rfl (P5 38 5 4 2 0 rfl rfl rfl rfl rfl) fun a32 H32 => ?_
  clear H31
  refine h_end ?_
  repeat (go_not_at_region 9; go_step)
  refine wp_cond_true (H32.ev (x := .tmp 38) rfl) ?_
  repeat (go_not_at_region 9; go_step)
  have hM := inMost_any (m := 2147483647) (by decide) hs (show 1 ≤ s.size by have h := byteE_le (b := 0) (Nat.zero_le s.size); rw [hK] at h; exact h) hL.third
  have hle0 := mostE_le (m := 2147483647) (b := 0) (show 1 ≤ s.size by have h := byteE_le (b := 0) (Nat.zero_le s.size); rw [hK] at h; exact h)
  generalize mostE s 1 0 2147483647 = q0 at hM hle0 hr
  obtain ⟨x0, n0, b0⟩ := q0
  simp only at hM hle0 hr
  refine wp_region_lit ?_
  refine h_op H32 rfl (wn rfl) (R_mv H32 rfl rfl) rfl (P5 39 5 4 2 0 rfl rfl rfl rfl rfl) fun a33 H33 => ?_
  clear H32
  refine h_call H33 rfl (wn rfl) (R_call2 H33 rfl rfl rfl (fun w => by simp [go_sem])) rfl ?_
  refine hM.mono ?_
  rintro e w34 ⟨rfl, hL2⟩
  replace hL := hL2.back3
  clear hL2 hM
  refine ⟨_, rfl, fun a34 HH => ?_⟩
  have H34 := HH _ (P5 40 5 4 2 0 rfl rfl rfl rfl rfl)
  clear HH H33
  refine h_op H34 rfl (wn rfl) (R_fa H34 rfl rfl (fa29_1 _ _)) rfl (P6 41 40 5 4 2 0 rfl rfl rfl rfl rfl rfl) fun a35 H35 => ?_
  clear H34
  refine h_stL ((w5.heap.size, mcells { PMsg.zero with kind := 9, move := (x0 : Nat) } (.slice none 0 0) (.slice none 0 0), 29) :: (W.heap.size, zcells, 29) :: (w1.heap.size, rcells s n0 b0, 85) :: L) H35 rfl (wn rfl) (R_st H35 rfl rfl rfl (st_int hL rfl)) (hL.put 1 _) fun a36 w36 H36 hL' => ?_
  replace hL := hL'
  clear H35 hL'
  refine h_end ?_
  repeat (go_not_at_region 10; go_step)
  have hM := inMost_any (m := 2147483647) (by decide) hs hle0 hL.third
  have hle1 := mostE_le (m := 2147483647) (b := b0) hle0
  generalize mostE s n0 b0 2147483647 = q1 at hM hle1 hr
  obtain ⟨x1, n1, b1⟩ := q1
  simp only at hM hle1 hr
  refine wp_region_lit ?_
  refine h_op H36 rfl (wn rfl) (R_mv H36 rfl rfl) rfl (P5 42 5 4 2 0 rfl rfl rfl rfl rfl) fun a37 H37 => ?_
  clear H36
  refine h_call H37 rfl (wn rfl) (R_call2 H37 rfl rfl rfl (fun w => by simp [go_sem])) rfl ?_
  refine hM.mono ?_
  rintro e w38 ⟨rfl, hL2⟩
  replace hL := hL2.back3
  clear hL2 hM
  refine ⟨_, rfl, fun a38 HH => ?_⟩
  have H38 := HH _ (P5 43 5 4 2 0 rfl rfl rfl rfl rfl)
  clear HH H37
  refine h_op H38 rfl (wn rfl) (R_fa H38 rfl rfl (fa29_2 _ _)) rfl (P6 44 43 5 4 2 0 rfl rfl rfl rfl rfl rfl) fun a39 H39 => ?_
  clear H38
  refine h_stL ((w5.heap.size, mcells { PMsg.zero with kind := 9, move := (x0 : Nat), part := (x1 : Nat) } (.slice none 0 0) (.slice none 0 0), 29) :: (W.heap.size, zcells, 29) :: (w1.heap.size, rcells s n1 b1, 85) :: L) H39 rfl (wn rfl) (R_st H39 rfl rfl rfl (st_int hL rfl)) (hL.put 2 _) fun a40 w40 H40 hL' => ?_
  replace hL := hL'
  clear H39 hL'
  refine h_end ?_
  repeat (go_not_at_region 11; go_step)
  refine wp_region_lit ?_
  refine h_op H40 rfl (wn rfl) (R_fa H40 rfl rfl (fa29_0 _ _)) rfl (P5 45 5 4 2 0 rfl rfl rfl rfl rfl) fun a41 H41 => ?_
  clear H40
  refine h_op H41 rfl (wn rfl) (R_ld H41 rfl rfl (ld_u8k (c := 9) (hL.cell 0) rfl)) rfl (P5 46 5 4 2 0 rfl rfl rfl rfl rfl) fun a42 H42 => ?_
  clear H41
  refine h_end ?_
  repeat (go_not_at_region 12; go_step)
  refine wp_region_lit ?_
  refine h_op H42 rfl (wn rfl) (R_bin H42 rfl rfl rfl (B_to (y := false) (B8_eq _ _) (by decide))) rfl (P6 48 46 5 4 2 0 rfl rfl rfl rfl rfl rfl) fun a43 H43 => ?_
  clear H42
  refine h_op H43 rfl (wn rfl) (R_as H43 rfl rfl) rfl (P6 47 46 5 4 2 0 rfl rfl rfl rfl rfl rfl) fun a44 H44 => ?_
  clear H43
  refine h_end ?_
  repeat (go_not_at_region 14; go_step)
  refine wp_cond_false (H44.ev (x := .tmp 47) rfl) ?_
  repeat (go_not_at_region 14; go_step)
  repeat (go_not_at_region 14; go_step)
  refine wp_region_lit ?_
  refine h_op H44 rfl (wn rfl) (R_bin H44 rfl rfl rfl (B_to (y := false) (B8_eq _ _) (by decide))) rfl (P6 53 46 5 4 2 0 rfl rfl rfl rfl rfl rfl) fun a45 H45 => ?_
  clear H44
  refine h_op H45 rfl (wn rfl) (R_as H45 rfl rfl) rfl (P6 52 46 5 4 2 0 rfl rfl rfl rfl rfl rfl) fun a46 H46 => ?_
  clear H45
  refine h_end ?_
  repeat (go_not_at_region 15; go_step)
  refine wp_cond_false (H46.ev (x := .tmp 52) rfl) ?_
  repeat (go_not_at_region 15; go_step)
  repeat (go_not_at_region 15; go_step)
  refine wp_region_lit ?_
  refine h_op H46 rfl (wn rfl) (R_bin H46 rfl rfl rfl (B_to (y := false) (B8_eq _ _) (by decide))) rfl (P7 54 52 46 5 4 2 0 rfl rfl rfl rfl rfl rfl rfl) fun a47 H47 => ?_
  clear H46
  refine h_op H47 rfl (wn rfl) (R_as H47 rfl rfl) rfl (P6 52 46 5 4 2 0 rfl rfl rfl rfl rfl rfl) fun a48 H48 => ?_
  clear H47
  refine h_end ?_
  repeat (go_not_at_region 18; go_step)
  refine wp_cond_false (H48.ev (x := .tmp 52) rfl) ?_
  repeat (go_not_at_region 18; go_step)
  repeat (go_not_at_region 18; go_step)
  refine wp_region_lit ?_
  refine h_op H48 rfl (wn rfl) (R_bin H48 rfl rfl rfl (B_to (y := false) (B8_eq _ _) (by decide))) rfl (P6 64 46 5 4 2 0 rfl rfl rfl rfl rfl rfl) fun a49 H49 => ?_
  clear H48
  refine h_op H49 rfl (wn rfl) (R_as H49 rfl rfl) rfl (P6 63 46 5 4 2 0 rfl rfl rfl rfl rfl rfl) fun a50 H50 => ?_
  clear H49
  refine h_end ?_
  repeat (go_not_at_region 20; go_step)
  refine wp_cond_false (H50.ev (x := .tmp 63) rfl) ?_
  repeat (go_not_at_region 20; go_step)
  repeat (go_not_at_region 20; go_step)
  refine wp_region_lit ?_
  refine h_op H50 rfl (wn rfl) (R_bin H50 rfl rfl rfl (B_to (y := false) (B8_eq _ _) (by decide))) rfl (P6 69 46 5 4 2 0 rfl rfl rfl rfl rfl rfl) fun a51 H51 => ?_
  clear H50
  refine h_op H51 rfl (wn rfl) (R_as H51 rfl rfl) rfl (P6 68 46 5 4 2 0 rfl rfl rfl rfl rfl rfl) fun a52 H52 => ?_
  clear H51
  refine h_end ?_
  repeat (go_not_at_region 21; go_step)
  refine wp_cond_false (H52.ev (x := .tmp 68) rfl) ?_
  repeat (go_not_at_region 21; go_step)
  repeat (go_not_at_region 21; go_step)
  refine wp_region_lit ?_
  refine h_op H52 rfl (wn rfl) (R_bin H52 rfl rfl rfl (B_to (y := false) (B8_eq _ _) (by decide))) rfl (P7 70 68 46 5 4 2 0 rfl rfl rfl rfl rfl rfl rfl) fun a53 H53 => ?_
  clear H52
  refine h_op H53 rfl (wn rfl) (R_as H53 rfl rfl) rfl (P6 68 46 5 4 2 0 rfl rfl rfl rfl rfl rfl) fun a54 H54 => ?_
  clear H53
  refine h_end ?_
  repeat (go_not_at_region 22; go_step)
  refine wp_cond_false (H54.ev (x := .tmp 68) rfl) ?_
  repeat (go_not_at_region 22; go_step)
  repeat (go_not_at_region 22; go_step)
  refine wp_region_lit ?_
  refine h_op H54 rfl (wn rfl) (R_bin H54 rfl rfl rfl (B_to (y := false) (B8_eq _ _) (by decide))) rfl (P7 71 68 46 5 4 2 0 rfl rfl rfl rfl rfl rfl rfl) fun a55 H55 => ?_
  clear H54
  refine h_op H55 rfl (wn rfl) (R_as H55 rfl rfl) rfl (P6 68 46 5 4 2 0 rfl rfl rfl rfl rfl rfl) fun a56 H56 => ?_
  clear H55
  refine h_end ?_
  repeat (go_not_at_region 23; go_step)
  refine wp_cond_false (H56.ev (x := .tmp 68) rfl) ?_
  repeat (go_not_at_region 23; go_step)
  repeat (go_not_at_region 23; go_step)
  refine wp_region_lit ?_
  refine h_op H56 rfl (wn rfl) (R_bin H56 rfl rfl rfl (B_to (y := false) (B8_eq _ _) (by decide))) rfl (P7 72 68 46 5 4 2 0 rfl rfl rfl rfl rfl rfl rfl) fun a57 H57 => ?_
  clear H56
  refine h_op H57 rfl (wn rfl) (R_as H57 rfl rfl) rfl (P6 68 46 5 4 2 0 rfl rfl rfl rfl rfl rfl) fun a58 H58 => ?_
  clear H57
  refine h_end ?_
  repeat (go_not_at_region 24; go_step)
  refine wp_cond_false (H58.ev (x := .tmp 68) rfl) ?_
  repeat (go_not_at_region 24; go_step)
  repeat (go_not_at_region 24; go_step)
  refine wp_region_lit ?_
  refine h_op H58 rfl (wn rfl) (R_bin H58 rfl rfl rfl (B_to (y := true) (B8_eq _ _) (by decide))) rfl (P7 73 68 46 5 4 2 0 rfl rfl rfl rfl rfl rfl rfl) fun a59 H59 => ?_
  clear H58
  refine h_op H59 rfl (wn rfl) (R_as H59 rfl rfl) rfl (P6 68 46 5 4 2 0 rfl rfl rfl rfl rfl rfl) fun a60 H60 => ?_
  clear H59
  refine h_end ?_
  repeat (go_not_at_region 25; go_step)
  repeat (refine wp_cond_true (H60.ev (x := .tmp 68) rfl) ?_; repeat (go_not_at_region 25; go_step))
  repeat (go_not_at_region 25; go_step)
  have hM := inMost_any (m := 2147483647) (by decide) hs hle1 hL.third
  have hle2 := mostE_le (m := 2147483647) (b := b1) hle1
  generalize mostE s n1 b1 2147483647 = q2 at hM hle2 hr
  obtain ⟨x2, n2, b2⟩ := q2
  simp only at hM hle2 hr
  refine wp_region_lit ?_
  refine h_op H60 rfl (wn rfl) (R_mv H60 rfl rfl) rfl (P6 74 46 5 4 2 0 rfl rfl rfl rfl rfl rfl) fun a61 H61 => ?_
  clear H60
  refine h_call H61 rfl (wn rfl) (R_call2 H61 rfl rfl rfl (fun w => by simp [go_sem])) rfl ?_
  refine hM.mono ?_
  rintro e w62 ⟨rfl, hL2⟩
  replace hL := hL2.back3
  clear hL2 hM
  refine ⟨_, rfl, fun a62 HH => ?_⟩
  have H62 := HH _ (P6 75 46 5 4 2 0 rfl rfl rfl rfl rfl rfl)
  clear HH H61
  refine h_op H62 rfl (wn rfl) (R_fa H62 rfl rfl (fa29_4 _ _)) rfl (P7 76 75 46 5 4 2 0 rfl rfl rfl rfl rfl rfl rfl) fun a63 H63 => ?_
  clear H62
  refine h_stL ((w5.heap.size, mcells { PMsg.zero with kind := 9, move := (x0 : Nat), part := (x1 : Nat), n := (x2 : Nat) } (.slice none 0 0) (.slice none 0 0), 29) :: (W.heap.size, zcells, 29) :: (w1.heap.size, rcells s n2 b2, 85) :: L) H63 rfl (wn rfl) (R_st H63 rfl rfl rfl (st_int hL rfl)) (hL.put 4 _) fun a64 w64 H64 hL' => ?_
  replace hL := hL'
  clear H63 hL'
  refine h_end ?_
  repeat (go_not_at_region 26; go_step)
  refine wp_region_lit ?_
  refine h_op H64 rfl (wn rfl) (R_fa H64 rfl rfl (fa29_0 _ _)) rfl (P5 77 5 4 2 0 rfl rfl rfl rfl rfl) fun a65 H65 => ?_
  clear H64
  refine h_op H65 rfl (wn rfl) (R_ld H65 rfl rfl (ld_u8k (c := 9) (hL.cell 0) rfl)) rfl (P5 78 5 4 2 0 rfl rfl rfl rfl rfl) fun a66 H66 => ?_
  clear H65
  refine h_end ?_
  repeat (go_not_at_region 27; go_step)
  refine wp_region_lit ?_
  refine h_op H66 rfl (wn rfl) (R_bin H66 rfl rfl rfl (B_to (y := false) (B8_eq _ _) (by decide))) rfl (P6 80 78 5 4 2 0 rfl rfl rfl rfl rfl rfl) fun a67 H67 => ?_
  clear H66
  refine h_op H67 rfl (wn rfl) (R_as H67 rfl rfl) rfl (P6 79 78 5 4 2 0 rfl rfl rfl rfl rfl rfl) fun a68 H68 => ?_
  clear H67
  refine h_end ?_
  repeat (go_not_at_region 28; go_step)
  refine wp_cond_false (H68.ev (x := .tmp 79) rfl) ?_
  repeat (go_not_at_region 28; go_step)
  repeat (go_not_at_region 28; go_step)
  refine wp_region_lit ?_
  refine h_op H68 rfl (wn rfl) (R_bin H68 rfl rfl rfl (B_to (y := false) (B8_eq _ _) (by decide))) rfl (P7 81 79 78 5 4 2 0 rfl rfl rfl rfl rfl rfl rfl) fun a69 H69 => ?_
  clear H68
  refine h_op H69 rfl (wn rfl) (R_as H69 rfl rfl) rfl (P6 79 78 5 4 2 0 rfl rfl rfl rfl rfl rfl) fun a70 H70 => ?_
  clear H69
  refine h_end ?_
  repeat (go_not_at_region 30; go_step)
  refine wp_cond_false (H70.ev (x := .tmp 79) rfl) ?_
  repeat (go_not_at_region 30; go_step)
  repeat (go_not_at_region 30; go_step)
  refine wp_region_lit ?_
  refine h_op H70 rfl (wn rfl) (R_bin H70 rfl rfl rfl (B_to (y := false) (B8_eq _ _) (by decide))) rfl (P6 86 78 5 4 2 0 rfl rfl rfl rfl rfl rfl) fun a71 H71 => ?_
  clear H70
  refine h_op H71 rfl (wn rfl) (R_as H71 rfl rfl) rfl (P6 85 78 5 4 2 0 rfl rfl rfl rfl rfl rfl) fun a72 H72 => ?_
  clear H71
  refine h_end ?_
  repeat (go_not_at_region 31; go_step)
  refine wp_cond_false (H72.ev (x := .tmp 85) rfl) ?_
  repeat (go_not_at_region 31; go_step)
  repeat (go_not_at_region 31; go_step)
  refine wp_region_lit ?_
  refine h_op H72 rfl (wn rfl) (R_bin H72 rfl rfl rfl (B_to (y := false) (B8_eq _ _) (by decide))) rfl (P7 87 85 78 5 4 2 0 rfl rfl rfl rfl rfl rfl rfl) fun a73 H73 => ?_
  clear H72
  refine h_op H73 rfl (wn rfl) (R_as H73 rfl rfl) rfl (P6 85 78 5 4 2 0 rfl rfl rfl rfl rfl rfl) fun a74 H74 => ?_
  clear H73
  refine h_end ?_
  repeat (go_not_at_region 32; go_step)
  refine wp_cond_false (H74.ev (x := .tmp 85) rfl) ?_
  repeat (go_not_at_region 32; go_step)
  repeat (go_not_at_region 32; go_step)
  refine wp_region_lit ?_
  refine h_op H74 rfl (wn rfl) (R_bin H74 rfl rfl rfl (B_to (y := false) (B8_eq _ _) (by decide))) rfl (P7 88 85 78 5 4 2 0 rfl rfl rfl rfl rfl rfl rfl) fun a75 H75 => ?_
  clear H74
  refine h_op H75 rfl (wn rfl) (R_as H75 rfl rfl) rfl (P6 85 78 5 4 2 0 rfl rfl rfl rfl rfl rfl) fun a76 H76 => ?_
  clear H75
  refine h_end ?_
  repeat (go_not_at_region 34; go_step)
  refine wp_cond_false (H76.ev (x := .tmp 85) rfl) ?_
  repeat (go_not_at_region 34; go_step)
  repeat (go_not_at_region 34; go_step)
  refine wp_region_lit ?_
  refine h_op H76 rfl (wn rfl) (R_bin H76 rfl rfl rfl (B_to (y := false) (B8_eq _ _) (by decide))) rfl (P6 93 78 5 4 2 0 rfl rfl rfl rfl rfl rfl) fun a77 H77 => ?_
  clear H76
  refine h_op H77 rfl (wn rfl) (R_as H77 rfl rfl) rfl (P6 92 78 5 4 2 0 rfl rfl rfl rfl rfl rfl) fun a78 H78 => ?_
  clear H77
  refine h_end ?_
  repeat (go_not_at_region 37; go_step)
  refine wp_cond_false (H78.ev (x := .tmp 92) rfl) ?_
  repeat (go_not_at_region 37; go_step)
  repeat (go_not_at_region 37; go_step)
  refine wp_region_lit ?_
  refine h_op H78 rfl (wn rfl) (R_bin H78 rfl rfl rfl (B_to (y := false) (B8_eq _ _) (by decide))) rfl (P6 101 78 5 4 2 0 rfl rfl rfl rfl rfl rfl) fun a79 H79 => ?_
  clear H78
  refine h_op H79 rfl (wn rfl) (R_as H79 rfl rfl) rfl (P6 100 78 5 4 2 0 rfl rfl rfl rfl rfl rfl) fun a80 H80 => ?_
  clear H79
  refine h_end ?_
  repeat (go_not_at_region 39; go_step)
  refine wp_cond_false (H80.ev (x := .tmp 100) rfl) ?_
  repeat (go_not_at_region 39; go_step)
  repeat (go_not_at_region 39; go_step)
  refine wp_region_lit ?_
  refine h_op H80 rfl (wn rfl) (R_bin H80 rfl rfl rfl (B_to (y := false) (B8_eq _ _) (by decide))) rfl (P6 106 78 5 4 2 0 rfl rfl rfl rfl rfl rfl) fun a81 H81 => ?_
  clear H80
  refine h_op H81 rfl (wn rfl) (R_as H81 rfl rfl) rfl (P6 105 78 5 4 2 0 rfl rfl rfl rfl rfl rfl) fun a82 H82 => ?_
  clear H81
  refine h_end ?_
  repeat (go_not_at_region 41; go_step)
  refine wp_cond_false (H82.ev (x := .tmp 105) rfl) ?_
  repeat (go_not_at_region 41; go_step)
  repeat (go_not_at_region 41; go_step)
  refine wp_region_lit ?_
  refine h_op H82 rfl (wn rfl) (R_bin H82 rfl rfl rfl (B_to (y := true) (B8_eq _ _) (by decide))) rfl (P6 111 78 5 4 2 0 rfl rfl rfl rfl rfl rfl) fun a83 H83 => ?_
  clear H82
  refine h_op H83 rfl (wn rfl) (R_as H83 rfl rfl) rfl (P6 110 78 5 4 2 0 rfl rfl rfl rfl rfl rfl) fun a84 H84 => ?_
  clear H83
  refine h_end ?_
  repeat (go_not_at_region 42; go_step)
  repeat (refine wp_cond_true (H84.ev (x := .tmp 110) rfl) ?_; repeat (go_not_at_region 42; go_step))
  repeat (go_not_at_region 42; go_step)
  have hM := rI64_any hs hle2 hL.third
  have hle3 := numE_le (b := b2) hle2
  generalize numE s n2 b2 = q3 at hM hle3 hr
  obtain ⟨x3, n3, b3⟩ := q3
  simp only at hM hle3 hr
  refine wp_region_lit ?_
  refine h_op H84 rfl (wn rfl) (R_mv H84 rfl rfl) rfl (P6 112 78 5 4 2 0 rfl rfl rfl rfl rfl rfl) fun a85 H85 => ?_
  clear H84
  refine h_call H85 rfl (wn rfl) (R_call1 H85 rfl rfl (fun w => by simp [go_sem])) rfl ?_
  refine hM.mono ?_
  rintro e w86 ⟨rfl, hL2⟩
  replace hL := hL2.back3
  clear hL2 hM
  refine ⟨_, rfl, fun a86 HH => ?_⟩
  have H86 := HH _ (P6 113 78 5 4 2 0 rfl rfl rfl rfl rfl rfl)
  clear HH H85
  refine h_op H86 rfl (wn rfl) (R_fa H86 rfl rfl (fa29_8 _ _)) rfl (P7 114 113 78 5 4 2 0 rfl rfl rfl rfl rfl rfl rfl) fun a87 H87 => ?_
  clear H86
  refine h_stL ((w5.heap.size, mcells { PMsg.zero with kind := 9, move := (x0 : Nat), part := (x1 : Nat), n := (x2 : Nat), at_ := zag x3 } (.slice none 0 0) (.slice none 0 0), 29) :: (W.heap.size, zcells, 29) :: (w1.heap.size, rcells s n3 b3, 85) :: L) H87 rfl (wn rfl) (R_st H87 rfl rfl rfl (st_i64c hL rfl)) (hL.put 8 _) fun a88 w88 H88 hL' => ?_
  replace hL := hL'
  clear H87 hL'
  refine h_end ?_
  repeat (go_not_at_region 43; go_step)
  have hM := inNum_any hs hle3 hL.third
  have hle4 := numE_le (b := b3) hle3
  have hlt := numE_lt (s := s) (n := n3) (b := b3)
  generalize numE s n3 b3 = q4 at hM hle4 hr hlt
  obtain ⟨x4, n4, b4⟩ := q4
  simp only at hM hle4 hr
  refine wp_region_lit ?_
  refine h_op H88 rfl (wn rfl) (R_mv H88 rfl rfl) rfl (P6 115 78 5 4 2 0 rfl rfl rfl rfl rfl rfl) fun a89 H89 => ?_
  clear H88
  refine h_call H89 rfl (wn rfl) (R_call1 H89 rfl rfl (fun w => by simp [go_sem])) rfl ?_
  refine hM.mono ?_
  rintro e w90 ⟨rfl, hL2⟩
  replace hL := hL2.back3
  clear hL2 hM
  refine ⟨_, rfl, fun a90 HH => ?_⟩
  have H90 := HH _ (P6 116 78 5 4 2 0 rfl rfl rfl rfl rfl rfl)
  clear HH H89
  refine h_op H90 rfl (wn rfl) (R_fa H90 rfl rfl (fa29_7 _ _)) rfl (P7 117 116 78 5 4 2 0 rfl rfl rfl rfl rfl rfl rfl) fun a91 H91 => ?_
  clear H90
  refine h_stL ((w5.heap.size, mcells { PMsg.zero with kind := 9, move := (x0 : Nat), part := (x1 : Nat), n := (x2 : Nat), at_ := zag x3, digest := x4 } (.slice none 0 0) (.slice none 0 0), 29) :: (W.heap.size, zcells, 29) :: (w1.heap.size, rcells s n4 b4, 85) :: L) H91 rfl (wn rfl) (R_st H91 rfl rfl rfl (st_u64c hL rfl)) (hL.put 7 _) fun a92 w92 H92 hL' => ?_
  replace hL := hL'
  clear H91 hL'
  refine h_end ?_
  subst hr
  simp only at hY
  by_cases hb : b4 ≠ 0
  · rw [if_pos hb] at hY
    repeat (go_not_at_region 44; go_step)
    refine wp_region_lit ?_
    refine h_op H92 rfl (wn rfl) (R_mv H92 rfl rfl) rfl (P5 118 5 4 2 0 rfl rfl rfl rfl rfl) fun a93 H93 => ?_
    clear H92
    refine h_op H93 rfl (wn rfl) (R_nc H93 rfl rfl) rfl (P5 119 5 4 2 0 rfl rfl rfl rfl rfl) fun a94 H94 => ?_
    clear H93
    refine h_op H94 rfl (wn rfl) (R_fa H94 rfl rfl (fr_2 _ _)) rfl (P5 120 5 4 2 0 rfl rfl rfl rfl rfl) fun a95 H95 => ?_
    clear H94
    refine h_op H95 rfl (wn rfl) (R_ld H95 rfl rfl (ld_int (hL.third.cell 2))) rfl (P5 121 5 4 2 0 rfl rfl rfl rfl rfl) fun a96 H96 => ?_
    clear H95
    refine h_op H96 rfl (wn rfl) (R_bin H96 rfl rfl rfl (B_to (y := true) (B_ne Try.underlying3 _ _) (bne_iff_ne.2 hb))) rfl (P5 122 5 4 2 0 rfl rfl rfl rfl rfl) fun a97 H97 => ?_
    clear H96
    refine h_end ?_
    repeat (go_not_at_region 45; go_step)
    refine wp_cond_true (H97.ev (x := .tmp 122) rfl) ?_
    repeat (go_not_at_region 45; go_step)
    refine wp_region_held_drew (S := fun w' => Live w0 ((w5.heap.size, mcells { PMsg.zero with kind := 9, move := (x0 : Nat), part := (x1 : Nat), n := (x2 : Nat), at_ := zag x3, digest := x4 } (.slice none 0 0) (.slice none 0 0), 29) :: (W.heap.size, zcells, 29) :: (w1.heap.size, rcells s n4 b4, 85) :: L) w') (by kernel_rfl) hL.drew (fun hL' => ?_)
    replace hL := hL'
    clear hL'
    refine a_op 0 H97 rfl rfl (by kernel_rfl) (by kernel_rfl) (by kernel_rfl) (fun _ _ _ h => h) (wn rfl) (fun w hL => R_build rfl bd_row) hL rfl (P3 123 4 2 rfl rfl rfl) fun a98 H98 => ?_
    clear H97
    refine a_op 1 H98 rfl rfl (by kernel_rfl) (by kernel_rfl) (by kernel_rfl) (fun _ _ _ h => h) (wn rfl) (fun w hL => R_mv H98 rfl rfl) hL rfl (P3 124 123 2 rfl rfl rfl) fun a99 H99 => ?_
    clear H98
    refine a_op 2 H99 rfl rfl (by kernel_rfl) (by kernel_rfl) (by kernel_rfl) (fun _ _ _ h => h) (wn rfl) (fun w hL => R_nc H99 rfl rfl) hL rfl (P3 125 123 2 rfl rfl rfl) fun a100 H100 => ?_
    clear H99
    refine a_op 3 H100 rfl rfl (by kernel_rfl) (by kernel_rfl) (by kernel_rfl) (fun _ _ _ h => h) (wn rfl) (fun w hL => R_fa H100 rfl rfl (fr_2 _ _)) hL rfl (P3 126 123 2 rfl rfl rfl) fun a101 H101 => ?_
    clear H100
    refine a_op 4 H101 rfl rfl (by kernel_rfl) (by kernel_rfl) (by kernel_rfl) (fun _ _ _ h => h) (wn rfl) (fun w hL => R_ld H101 rfl rfl (ld_int (hL.third.cell 2))) hL rfl (P3 127 123 2 rfl rfl rfl) fun a102 H102 => ?_
    clear H101
    refine a_all1 5 (by kernel_rfl) ?_
    refine o_stL ((w5.heap.size, mcells { PMsg.zero with kind := 9, move := (x0 : Nat), part := (x1 : Nat), n := (x2 : Nat), at_ := zag x3, digest := x4 } (.slice none 0 0) (.slice none 0 0), 29) :: (W.heap.size, zcells, 29) :: (w1.heap.size, rcells s n4 b4, 85) :: L) 5 H102 rfl rfl (wn rfl) (R_st H102 rfl rfl rfl (st_row (m2 := .zero) (m := .zero) (vo2 := .slice none 0 0) (vs2 := .slice none 0 0) (vo := .slice none 0 0) (vs := .slice none 0 0) (hL.mem_at (by simp)) (mcells_one rfl rfl))) ((hL.swap.row _).swap) fun a103 w103 H103 hL' => ⟨hL', ?_⟩
    replace hL := hL'
    clear H102 hL'
    refine a_op 6 H103 rfl rfl (by kernel_rfl) (by kernel_rfl) (by kernel_rfl) (fun _ _ _ h => h) (wn rfl) (fun w hL => R_as H103 rfl rfl) hL rfl (P2 3 2 rfl rfl) fun a104 H104 => ?_
    clear H103
    refine wpAnyH_done (by kernel_rfl) ?_ _
    repeat (go_not_at_region 999; go_step)
    refine bodyPost_ret (v := .tuple #[.agg zcells, .int .i64 b4]) (refread_results (H104.getD rfl) (H104.getD rfl) hL.swap.at_ rfl) H104.1 ?_
    rw [hY]
    exact .zero rfl hL.tail.tail.tail
  obtain rfl : b4 = 0 := Decidable.not_not.1 hb
  rw [if_neg hb] at hY
  clear hb
  repeat (go_not_at_region 44; go_step)
  refine wp_region_lit ?_
  refine h_op H92 rfl (wn rfl) (R_mv H92 rfl rfl) rfl (P5 118 5 4 2 0 rfl rfl rfl rfl rfl) fun a93 H93 => ?_
  clear H92
  refine h_op H93 rfl (wn rfl) (R_nc H93 rfl rfl) rfl (P5 119 5 4 2 0 rfl rfl rfl rfl rfl) fun a94 H94 => ?_
  clear H93
  refine h_op H94 rfl (wn rfl) (R_fa H94 rfl rfl (fr_2 _ _)) rfl (P5 120 5 4 2 0 rfl rfl rfl rfl rfl) fun a95 H95 => ?_
  clear H94
  refine h_op H95 rfl (wn rfl) (R_ld H95 rfl rfl (ld_int (hL.third.cell 2))) rfl (P5 121 5 4 2 0 rfl rfl rfl rfl rfl) fun a96 H96 => ?_
  clear H95
  refine h_op H96 rfl (wn rfl) (R_bin H96 rfl rfl rfl (B_to (y := false) (B_ne Try.underlying3 _ _) (by decide))) rfl (P5 122 5 4 2 0 rfl rfl rfl rfl rfl) fun a97 H97 => ?_
  clear H96
  refine h_end ?_
  repeat (go_not_at_region 46; go_step)
  refine wp_cond_false (H97.ev (x := .tmp 122) rfl) ?_
  by_cases hn : n4 < s.size
  · rw [if_pos hn] at hY
    repeat (go_not_at_region 46; go_step)
    repeat (go_not_at_region 46; go_step)
    refine wp_region_lit ?_
    refine h_op H97 rfl (wn rfl) (R_mv H97 rfl rfl) rfl (P5 128 5 4 2 0 rfl rfl rfl rfl rfl) fun a98 H98 => ?_
    clear H97
    refine h_op H98 rfl (wn rfl) (R_nc H98 rfl rfl) rfl (P5 129 5 4 2 0 rfl rfl rfl rfl rfl) fun a99 H99 => ?_
    clear H98
    refine h_op H99 rfl (wn rfl) (R_fa H99 rfl rfl (fr_1 _ _)) rfl (P5 130 5 4 2 0 rfl rfl rfl rfl rfl) fun a100 H100 => ?_
    clear H99
    refine h_op H100 rfl (wn rfl) (R_ld H100 rfl rfl (ld_int (hL.third.cell 1))) rfl (P5 131 5 4 2 0 rfl rfl rfl rfl rfl) fun a101 H101 => ?_
    clear H100
    refine h_op H101 rfl (wn rfl) (R_mv H101 rfl rfl) rfl (P6 132 131 5 4 2 0 rfl rfl rfl rfl rfl rfl) fun a102 H102 => ?_
    clear H101
    refine h_op H102 rfl (wn rfl) (R_len H102 rfl rfl Try.underlying9) rfl (P6 133 131 5 4 2 0 rfl rfl rfl rfl rfl rfl) fun a103 H103 => ?_
    clear H102
    refine h_op H103 rfl (wn rfl) (R_bin H103 rfl rfl rfl (B_to (y := true) (B_lt Try.underlying3 _ _) (decide_eq_true (by omega)))) rfl (P5 134 5 4 2 0 rfl rfl rfl rfl rfl) fun a104 H104 => ?_
    clear H103
    refine h_end ?_
    repeat (go_not_at_region 47; go_step)
    refine wp_cond_true (H104.ev (x := .tmp 134) rfl) ?_
    repeat (go_not_at_region 47; go_step)
    repeat (go_not_at_region 47; go_step)
    refine wp_region_lit ?_
    refine h_op H104 rfl (wn rfl) (R_build rfl bd_row) rfl (P2 135 2 rfl rfl) fun a105 H105 => ?_
    clear H104
    refine h_stL ((w5.heap.size, mcells { PMsg.zero with kind := 9, move := (x0 : Nat), part := (x1 : Nat), n := (x2 : Nat), at_ := zag x3, digest := x4 } (.slice none 0 0) (.slice none 0 0), 29) :: (W.heap.size, zcells, 29) :: (w1.heap.size, rcells s n4 0, 85) :: L) H105 rfl (wn rfl) (R_st H105 rfl rfl rfl (st_row (m2 := .zero) (m := .zero) (vo2 := .slice none 0 0) (vs2 := .slice none 0 0) (vo := .slice none 0 0) (vs := .slice none 0 0) (hL.mem_at (by simp)) (mcells_one rfl rfl))) ((hL.swap.row _).swap) fun a106 w106 H106 hL' => ?_
    replace hL := hL'
    clear H105 hL'
    refine h_op H106 rfl (wn rfl) (R_as H106 rfl rfl) rfl (P2 3 2 rfl rfl) fun a107 H107 => ?_
    clear H106
    refine h_end ?_
    repeat (go_not_at_region 999; go_step)
    refine bodyPost_ret (v := .tuple #[.agg zcells, .int .i64 8]) (refread_results (H107.getD rfl) (H107.getD rfl) hL.swap.at_ rfl) H107.1 ?_
    rw [hY]
    exact .zero rfl hL.tail.tail.tail
  rw [if_neg hn] at hY
  repeat (go_not_at_region 46; go_step)
  repeat (go_not_at_region 46; go_step)
  refine wp_region_lit ?_
  refine h_op H97 rfl (wn rfl) (R_mv H97 rfl rfl) rfl (P5 128 5 4 2 0 rfl rfl rfl rfl rfl) fun a98 H98 => ?_
  clear H97
  refine h_op H98 rfl (wn rfl) (R_nc H98 rfl rfl) rfl (P5 129 5 4 2 0 rfl rfl rfl rfl rfl) fun a99 H99 => ?_
  clear H98
  refine h_op H99 rfl (wn rfl) (R_fa H99 rfl rfl (fr_1 _ _)) rfl (P5 130 5 4 2 0 rfl rfl rfl rfl rfl) fun a100 H100 => ?_
  clear H99
  refine h_op H100 rfl (wn rfl) (R_ld H100 rfl rfl (ld_int (hL.third.cell 1))) rfl (P5 131 5 4 2 0 rfl rfl rfl rfl rfl) fun a101 H101 => ?_
  clear H100
  refine h_op H101 rfl (wn rfl) (R_mv H101 rfl rfl) rfl (P6 132 131 5 4 2 0 rfl rfl rfl rfl rfl rfl) fun a102 H102 => ?_
  clear H101
  refine h_op H102 rfl (wn rfl) (R_len H102 rfl rfl Try.underlying9) rfl (P6 133 131 5 4 2 0 rfl rfl rfl rfl rfl rfl) fun a103 H103 => ?_
  clear H102
  refine h_op H103 rfl (wn rfl) (R_bin H103 rfl rfl rfl (B_to (y := false) (B_lt Try.underlying3 _ _) (decide_eq_false (by omega)))) rfl (P5 134 5 4 2 0 rfl rfl rfl rfl rfl) fun a104 H104 => ?_
  clear H103
  refine h_end ?_
  repeat (go_not_at_region 48; go_step)
  refine wp_cond_false (H104.ev (x := .tmp 134) rfl) ?_
  repeat (go_not_at_region 48; go_step)
  repeat (go_not_at_region 48; go_step)
  refine wp_region_lit ?_
  refine h_op H104 rfl (wn rfl) (R_ld H104 rfl rfl (ld_row hL.at_)) rfl (P2 136 2 rfl rfl) fun a105 H105 => ?_
  clear H104
  refine h_stL ((W.heap.size, mcells { PMsg.zero with kind := 9, move := (x0 : Nat), part := (x1 : Nat), n := (x2 : Nat), at_ := zag x3, digest := x4 } (.slice none 0 0) (.slice none 0 0), 29) :: (w5.heap.size, mcells { PMsg.zero with kind := 9, move := (x0 : Nat), part := (x1 : Nat), n := (x2 : Nat), at_ := zag x3, digest := x4 } (.slice none 0 0) (.slice none 0 0), 29) :: (w1.heap.size, rcells s n4 0, 85) :: L) H105 rfl (wn rfl) (R_st H105 rfl rfl rfl (st_row (m2 := .zero) (vo2 := .slice none 0 0) (vs2 := .slice none 0 0) (hL.mem_at (by simp)) (mcells_one rfl rfl))) (hL.swap.row _) fun a106 w106 H106 hL' => ?_
  replace hL := hL'
  clear H105 hL'
  refine h_op H106 rfl (wn rfl) (R_as H106 rfl rfl) rfl (P2 3 2 rfl rfl) fun a107 H107 => ?_
  clear H106
  refine h_end ?_
  repeat (go_not_at_region 999; go_step)
  refine bodyPost_ret (v := .tuple #[.agg (mcells { PMsg.zero with kind := 9, move := (x0 : Nat), part := (x1 : Nat), n := (x2 : Nat), at_ := zag x3, digest := x4 } (.slice none 0 0) (.slice none 0 0)), .int .i64 0]) (refread_results (H107.getD rfl) (H107.getD rfl) hL.at_ rfl) H107.1 ?_
  rw [hY]
  exact ⟨(.slice none 0 0), (.slice none 0 0), [], [], rfl, .inl ⟨rd_nul _, rfl⟩, .inl ⟨rd_nul _, rfl⟩, hL.tail.tail.tail⟩
set_option maxRecDepth 100000 in
set_option maxHeartbeats 8000000 in
theorem rread_10 (hs : s.size < 140737488351233) (hL : Live w0 L W) (hK : byteE s 0 0 = (10, 1, 0)) : Calls Try.prog 23 #[.string s] W fun e W' => ReadQ w0 L (msgE s) e W' := by
  obtain ⟨Y, hY⟩ : ∃ Y, Y = msgE s := ⟨_, rfl⟩
  rw [← hY]
  obtain ⟨r, hr⟩ : ∃ r, r = body10 s 1 0 := ⟨_, rfl⟩
  rw [msgE_body hK (by decide) (by decide) (show bodyE s 10 1 0 = r from hr.symm)] at hY
  unfold body10 at hr
  simp only at hr
  go_enter Try.func23, Try.ntmps23
  refine wp_fr (n := 137) (m := [(0, _)]) ⟨rfl, rfl, by intro p hp; simp only [List.mem_cons, List.not_mem_nil, or_false] at hp; rcases hp with rfl <;> rfl⟩ fun a0 H0 => ?_
  repeat (go_not_at_region 0; go_step)
  refine wp_region_lit ?_
  refine h_opL ((W.heap.size, zcells, 29) :: L) H0 rfl (wn rfl) (R_alloc rfl al_row) (hL.alloc _ _) rfl (P2 2 0 rfl rfl) fun a1 w1 H1 hL' => ?_
  replace hL := hL'
  clear H0 hL'
  refine h_op H1 rfl (wn rfl) (R_as H1 rfl rfl) rfl (P2 2 0 rfl rfl) fun a2 H2 => ?_
  clear H1
  refine h_end ?_
  repeat (go_not_at_region 1; go_step)
  refine wp_region_lit ?_
  refine h_op H2 rfl (wn rfl) (R_mv H2 rfl rfl) rfl (P3 6 2 0 rfl rfl rfl) fun a3 H3 => ?_
  clear H2
  refine h_op H3 rfl (wn rfl) (R_bd1 H3 rfl rfl bd_in) rfl (P3 7 2 0 rfl rfl rfl) fun a4 H4 => ?_
  clear H3
  refine h_opL ((w1.heap.size, rcells s 0 0, 85) :: (W.heap.size, zcells, 29) :: L) H4 rfl (wn rfl) (R_box H4 rfl rfl bx_in) (hL.alloc _ _) rfl (P3 8 2 0 rfl rfl rfl) fun a5 w5 H5 hL' => ?_
  replace hL := hL'
  clear H4 hL'
  refine h_op H5 rfl (wn rfl) (R_as H5 rfl rfl) rfl (P3 4 2 0 rfl rfl rfl) fun a6 H6 => ?_
  clear H5
  refine h_end ?_
  repeat (go_not_at_region 2; go_step)
  refine wp_region_lit ?_
  refine h_opL ((w5.heap.size, zcells, 29) :: (W.heap.size, zcells, 29) :: (w1.heap.size, rcells s 0 0, 85) :: L) H6 rfl (wn rfl) (R_alloc rfl al_row) ((hL.alloc _ _).swap3) rfl (P4 5 4 2 0 rfl rfl rfl rfl) fun a7 w7 H7 hL' => ?_
  replace hL := hL'
  clear H6 hL'
  refine h_end ?_
  repeat (go_not_at_region 3; go_step)
  have hM := inByte_any hs (Nat.zero_le _) hL.third
  rw [hK] at hM
  simp only at hM
  refine wp_region_lit ?_
  refine h_op H7 rfl (wn rfl) (R_mv H7 rfl rfl) rfl (P5 9 5 4 2 0 rfl rfl rfl rfl rfl) fun a8 H8 => ?_
  clear H7
  refine h_call H8 rfl (wn rfl) (R_call1 H8 rfl rfl (fun w => by simp [go_sem])) rfl ?_
  refine hM.mono ?_
  rintro e w9 ⟨rfl, hL2⟩
  replace hL := hL2.back3
  clear hL2 hM
  refine ⟨_, rfl, fun a9 HH => ?_⟩
  have H9 := HH _ (P5 10 5 4 2 0 rfl rfl rfl rfl rfl)
  clear HH H8
  refine h_op H9 rfl (wn rfl) (R_fa H9 rfl rfl (fa29_0 _ _)) rfl (P6 11 10 5 4 2 0 rfl rfl rfl rfl rfl rfl) fun a10 H10 => ?_
  clear H9
  refine h_stL ((w5.heap.size, mcells { PMsg.zero with kind := 10 } (.slice none 0 0) (.slice none 0 0), 29) :: (W.heap.size, zcells, 29) :: (w1.heap.size, rcells s 1 0, 85) :: L) H10 rfl (wn rfl) (R_st H10 rfl rfl rfl (st_u8c hL rfl)) (hL.put 0 _) fun a11 w11 H11 hL' => ?_
  replace hL := hL'
  clear H10 hL'
  refine h_end ?_
  repeat (go_not_at_region 4; go_step)
  refine wp_region_lit ?_
  refine h_op H11 rfl (wn rfl) (R_mv H11 rfl rfl) rfl (P5 12 5 4 2 0 rfl rfl rfl rfl rfl) fun a12 H12 => ?_
  clear H11
  refine h_op H12 rfl (wn rfl) (R_nc H12 rfl rfl) rfl (P5 13 5 4 2 0 rfl rfl rfl rfl rfl) fun a13 H13 => ?_
  clear H12
  refine h_op H13 rfl (wn rfl) (R_fa H13 rfl rfl (fr_2 _ _)) rfl (P5 14 5 4 2 0 rfl rfl rfl rfl rfl) fun a14 H14 => ?_
  clear H13
  refine h_op H14 rfl (wn rfl) (R_ld H14 rfl rfl (ld_int (hL.third.cell 2))) rfl (P5 15 5 4 2 0 rfl rfl rfl rfl rfl) fun a15 H15 => ?_
  clear H14
  refine h_op H15 rfl (wn rfl) (R_bin H15 rfl rfl rfl (B_to (y := false) (B_ne Try.underlying3 _ _) (by decide))) rfl (P5 16 5 4 2 0 rfl rfl rfl rfl rfl) fun a16 H16 => ?_
  clear H15
  refine h_end ?_
  repeat (go_not_at_region 6; go_step)
  refine wp_cond_false (H16.ev (x := .tmp 16) rfl) ?_
  repeat (go_not_at_region 6; go_step)
  refine wp_region_lit ?_
  refine h_op H16 rfl (wn rfl) (R_fa H16 rfl rfl (fa29_0 _ _)) rfl (P5 22 5 4 2 0 rfl rfl rfl rfl rfl) fun a17 H17 => ?_
  clear H16
  refine h_op H17 rfl (wn rfl) (R_ld H17 rfl rfl (ld_u8k (c := 10) (hL.cell 0) rfl)) rfl (P5 23 5 4 2 0 rfl rfl rfl rfl rfl) fun a18 H18 => ?_
  clear H17
  refine h_op H18 rfl (wn rfl) (R_bin H18 rfl rfl rfl (B_to (y := false) (B8_lt _ _) (by decide))) rfl (P5 24 5 4 2 0 rfl rfl rfl rfl rfl) fun a19 H19 => ?_
  clear H18
  refine h_op H19 rfl (wn rfl) (R_mv H19 rfl rfl) rfl (P5 25 5 4 2 0 rfl rfl rfl rfl rfl) fun a20 H20 => ?_
  clear H19
  refine h_op H20 rfl (H20.wt rfl rfl rfl) (R_fa H20 rfl rfl (fa29_0 _ _)) rfl (P6 26 25 5 4 2 0 rfl rfl rfl rfl rfl rfl) fun a21 H21 => ?_
  clear H20
  refine h_op H21 rfl (H21.wt rfl rfl rfl) (R_ld H21 rfl rfl (ld_u8k (c := 10) (hL.cell 0) rfl)) rfl (P6 27 25 5 4 2 0 rfl rfl rfl rfl rfl rfl) fun a22 H22 => ?_
  clear H21
  refine h_op H22 rfl (H22.wt rfl rfl rfl) (R_bin H22 rfl rfl rfl (B_to (y := false) (B8_gt _ _) (by decide))) rfl (P6 28 25 5 4 2 0 rfl rfl rfl rfl rfl rfl) fun a23 H23 => ?_
  clear H22
  refine h_op H23 rfl (wn rfl) (R_pick H23 rfl rfl rfl) rfl (P5 29 5 4 2 0 rfl rfl rfl rfl rfl) fun a24 H24 => ?_
  clear H23
  refine h_end ?_
  repeat (go_not_at_region 8; go_step)
  refine wp_cond_false (H24.ev (x := .tmp 29) rfl) ?_
  repeat (go_not_at_region 8; go_step)
  refine wp_region_lit ?_
  refine h_op H24 rfl (wn rfl) (R_fa H24 rfl rfl (fa29_0 _ _)) rfl (P5 31 5 4 2 0 rfl rfl rfl rfl rfl) fun a25 H25 => ?_
  clear H24
  refine h_op H25 rfl (wn rfl) (R_ld H25 rfl rfl (ld_u8k (c := 10) (hL.cell 0) rfl)) rfl (P5 32 5 4 2 0 rfl rfl rfl rfl rfl) fun a26 H26 => ?_
  clear H25
  refine h_op H26 rfl (wn rfl) (R_bin H26 rfl rfl rfl (B_to (y := true) (B8_ge _ _) (by decide))) rfl (P5 33 5 4 2 0 rfl rfl rfl rfl rfl) fun a27 H27 => ?_
  clear H26
  refine h_op H27 rfl (wn rfl) (R_mv H27 rfl rfl) rfl (P5 34 5 4 2 0 rfl rfl rfl rfl rfl) fun a28 H28 => ?_
  clear H27
  refine h_op H28 rfl (H28.wt rfl rfl rfl) (R_fa H28 rfl rfl (fa29_0 _ _)) rfl (P6 35 34 5 4 2 0 rfl rfl rfl rfl rfl rfl) fun a29 H29 => ?_
  clear H28
  refine h_op H29 rfl (H29.wt rfl rfl rfl) (R_ld H29 rfl rfl (ld_u8k (c := 10) (hL.cell 0) rfl)) rfl (P6 36 34 5 4 2 0 rfl rfl rfl rfl rfl rfl) fun a30 H30 => ?_
  clear H29
  refine h_op H30 rfl (H30.wt rfl rfl rfl) (R_bin H30 rfl rfl rfl (B_to (y := true) (B8_le _ _) (by decide))) rfl (P6 37 34 5 4 2 0 rfl rfl rfl rfl rfl rfl) fun a31 H31 => ?_
  clear H30
  refine h_op H31 rfl (wn rfl) (R_pick H31 rfl rfl rfl) rfl (P5 38 5 4 2 0 rfl rfl rfl rfl rfl) fun a32 H32 => ?_
  clear H31
  refine h_end ?_
  repeat (go_not_at_region 9; go_step)
  refine wp_cond_true (H32.ev (x := .tmp 38) rfl) ?_
  repeat (go_not_at_region 9; go_step)
  have hM := inMost_any (m := 2147483647) (by decide) hs (show 1 ≤ s.size by have h := byteE_le (b := 0) (Nat.zero_le s.size); rw [hK] at h; exact h) hL.third
  have hle0 := mostE_le (m := 2147483647) (b := 0) (show 1 ≤ s.size by have h := byteE_le (b := 0) (Nat.zero_le s.size); rw [hK] at h; exact h)
  generalize mostE s 1 0 2147483647 = q0 at hM hle0 hr
  obtain ⟨x0, n0, b0⟩ := q0
  simp only at hM hle0 hr
  refine wp_region_lit ?_
  refine h_op H32 rfl (wn rfl) (R_mv H32 rfl rfl) rfl (P5 39 5 4 2 0 rfl rfl rfl rfl rfl) fun a33 H33 => ?_
  clear H32
  refine h_call H33 rfl (wn rfl) (R_call2 H33 rfl rfl rfl (fun w => by simp [go_sem])) rfl ?_
  refine hM.mono ?_
  rintro e w34 ⟨rfl, hL2⟩
  replace hL := hL2.back3
  clear hL2 hM
  refine ⟨_, rfl, fun a34 HH => ?_⟩
  have H34 := HH _ (P5 40 5 4 2 0 rfl rfl rfl rfl rfl)
  clear HH H33
  refine h_op H34 rfl (wn rfl) (R_fa H34 rfl rfl (fa29_1 _ _)) rfl (P6 41 40 5 4 2 0 rfl rfl rfl rfl rfl rfl) fun a35 H35 => ?_
  clear H34
  refine h_stL ((w5.heap.size, mcells { PMsg.zero with kind := 10, move := (x0 : Nat) } (.slice none 0 0) (.slice none 0 0), 29) :: (W.heap.size, zcells, 29) :: (w1.heap.size, rcells s n0 b0, 85) :: L) H35 rfl (wn rfl) (R_st H35 rfl rfl rfl (st_int hL rfl)) (hL.put 1 _) fun a36 w36 H36 hL' => ?_
  replace hL := hL'
  clear H35 hL'
  refine h_end ?_
  repeat (go_not_at_region 10; go_step)
  have hM := inMost_any (m := 2147483647) (by decide) hs hle0 hL.third
  have hle1 := mostE_le (m := 2147483647) (b := b0) hle0
  generalize mostE s n0 b0 2147483647 = q1 at hM hle1 hr
  obtain ⟨x1, n1, b1⟩ := q1
  simp only at hM hle1 hr
  refine wp_region_lit ?_
  refine h_op H36 rfl (wn rfl) (R_mv H36 rfl rfl) rfl (P5 42 5 4 2 0 rfl rfl rfl rfl rfl) fun a37 H37 => ?_
  clear H36
  refine h_call H37 rfl (wn rfl) (R_call2 H37 rfl rfl rfl (fun w => by simp [go_sem])) rfl ?_
  refine hM.mono ?_
  rintro e w38 ⟨rfl, hL2⟩
  replace hL := hL2.back3
  clear hL2 hM
  refine ⟨_, rfl, fun a38 HH => ?_⟩
  have H38 := HH _ (P5 43 5 4 2 0 rfl rfl rfl rfl rfl)
  clear HH H37
  refine h_op H38 rfl (wn rfl) (R_fa H38 rfl rfl (fa29_2 _ _)) rfl (P6 44 43 5 4 2 0 rfl rfl rfl rfl rfl rfl) fun a39 H39 => ?_
  clear H38
  refine h_stL ((w5.heap.size, mcells { PMsg.zero with kind := 10, move := (x0 : Nat), part := (x1 : Nat) } (.slice none 0 0) (.slice none 0 0), 29) :: (W.heap.size, zcells, 29) :: (w1.heap.size, rcells s n1 b1, 85) :: L) H39 rfl (wn rfl) (R_st H39 rfl rfl rfl (st_int hL rfl)) (hL.put 2 _) fun a40 w40 H40 hL' => ?_
  replace hL := hL'
  clear H39 hL'
  refine h_end ?_
  repeat (go_not_at_region 11; go_step)
  refine wp_region_lit ?_
  refine h_op H40 rfl (wn rfl) (R_fa H40 rfl rfl (fa29_0 _ _)) rfl (P5 45 5 4 2 0 rfl rfl rfl rfl rfl) fun a41 H41 => ?_
  clear H40
  refine h_op H41 rfl (wn rfl) (R_ld H41 rfl rfl (ld_u8k (c := 10) (hL.cell 0) rfl)) rfl (P5 46 5 4 2 0 rfl rfl rfl rfl rfl) fun a42 H42 => ?_
  clear H41
  refine h_end ?_
  repeat (go_not_at_region 12; go_step)
  refine wp_region_lit ?_
  refine h_op H42 rfl (wn rfl) (R_bin H42 rfl rfl rfl (B_to (y := false) (B8_eq _ _) (by decide))) rfl (P6 48 46 5 4 2 0 rfl rfl rfl rfl rfl rfl) fun a43 H43 => ?_
  clear H42
  refine h_op H43 rfl (wn rfl) (R_as H43 rfl rfl) rfl (P6 47 46 5 4 2 0 rfl rfl rfl rfl rfl rfl) fun a44 H44 => ?_
  clear H43
  refine h_end ?_
  repeat (go_not_at_region 14; go_step)
  refine wp_cond_false (H44.ev (x := .tmp 47) rfl) ?_
  repeat (go_not_at_region 14; go_step)
  repeat (go_not_at_region 14; go_step)
  refine wp_region_lit ?_
  refine h_op H44 rfl (wn rfl) (R_bin H44 rfl rfl rfl (B_to (y := false) (B8_eq _ _) (by decide))) rfl (P6 53 46 5 4 2 0 rfl rfl rfl rfl rfl rfl) fun a45 H45 => ?_
  clear H44
  refine h_op H45 rfl (wn rfl) (R_as H45 rfl rfl) rfl (P6 52 46 5 4 2 0 rfl rfl rfl rfl rfl rfl) fun a46 H46 => ?_
  clear H45
  refine h_end ?_
  repeat (go_not_at_region 15; go_step)
  refine wp_cond_false (H46.ev (x := .tmp 52) rfl) ?_
  repeat (go_not_at_region 15; go_step)
  repeat (go_not_at_region 15; go_step)
  refine wp_region_lit ?_
  refine h_op H46 rfl (wn rfl) (R_bin H46 rfl rfl rfl (B_to (y := false) (B8_eq _ _) (by decide))) rfl (P7 54 52 46 5 4 2 0 rfl rfl rfl rfl rfl rfl rfl) fun a47 H47 => ?_
  clear H46
  refine h_op H47 rfl (wn rfl) (R_as H47 rfl rfl) rfl (P6 52 46 5 4 2 0 rfl rfl rfl rfl rfl rfl) fun a48 H48 => ?_
  clear H47
  refine h_end ?_
  repeat (go_not_at_region 18; go_step)
  refine wp_cond_false (H48.ev (x := .tmp 52) rfl) ?_
  repeat (go_not_at_region 18; go_step)
  repeat (go_not_at_region 18; go_step)
  refine wp_region_lit ?_
  refine h_op H48 rfl (wn rfl) (R_bin H48 rfl rfl rfl (B_to (y := false) (B8_eq _ _) (by decide))) rfl (P6 64 46 5 4 2 0 rfl rfl rfl rfl rfl rfl) fun a49 H49 => ?_
  clear H48
  refine h_op H49 rfl (wn rfl) (R_as H49 rfl rfl) rfl (P6 63 46 5 4 2 0 rfl rfl rfl rfl rfl rfl) fun a50 H50 => ?_
  clear H49
  refine h_end ?_
  repeat (go_not_at_region 20; go_step)
  refine wp_cond_false (H50.ev (x := .tmp 63) rfl) ?_
  repeat (go_not_at_region 20; go_step)
  repeat (go_not_at_region 20; go_step)
  refine wp_region_lit ?_
  refine h_op H50 rfl (wn rfl) (R_bin H50 rfl rfl rfl (B_to (y := false) (B8_eq _ _) (by decide))) rfl (P6 69 46 5 4 2 0 rfl rfl rfl rfl rfl rfl) fun a51 H51 => ?_
  clear H50
  refine h_op H51 rfl (wn rfl) (R_as H51 rfl rfl) rfl (P6 68 46 5 4 2 0 rfl rfl rfl rfl rfl rfl) fun a52 H52 => ?_
  clear H51
  refine h_end ?_
  repeat (go_not_at_region 21; go_step)
  refine wp_cond_false (H52.ev (x := .tmp 68) rfl) ?_
  repeat (go_not_at_region 21; go_step)
  repeat (go_not_at_region 21; go_step)
  refine wp_region_lit ?_
  refine h_op H52 rfl (wn rfl) (R_bin H52 rfl rfl rfl (B_to (y := false) (B8_eq _ _) (by decide))) rfl (P7 70 68 46 5 4 2 0 rfl rfl rfl rfl rfl rfl rfl) fun a53 H53 => ?_
  clear H52
  refine h_op H53 rfl (wn rfl) (R_as H53 rfl rfl) rfl (P6 68 46 5 4 2 0 rfl rfl rfl rfl rfl rfl) fun a54 H54 => ?_
  clear H53
  refine h_end ?_
  repeat (go_not_at_region 22; go_step)
  refine wp_cond_false (H54.ev (x := .tmp 68) rfl) ?_
  repeat (go_not_at_region 22; go_step)
  repeat (go_not_at_region 22; go_step)
  refine wp_region_lit ?_
  refine h_op H54 rfl (wn rfl) (R_bin H54 rfl rfl rfl (B_to (y := false) (B8_eq _ _) (by decide))) rfl (P7 71 68 46 5 4 2 0 rfl rfl rfl rfl rfl rfl rfl) fun a55 H55 => ?_
  clear H54
  refine h_op H55 rfl (wn rfl) (R_as H55 rfl rfl) rfl (P6 68 46 5 4 2 0 rfl rfl rfl rfl rfl rfl) fun a56 H56 => ?_
  clear H55
  refine h_end ?_
  repeat (go_not_at_region 23; go_step)
  refine wp_cond_false (H56.ev (x := .tmp 68) rfl) ?_
  repeat (go_not_at_region 23; go_step)
  repeat (go_not_at_region 23; go_step)
  refine wp_region_lit ?_
  refine h_op H56 rfl (wn rfl) (R_bin H56 rfl rfl rfl (B_to (y := false) (B8_eq _ _) (by decide))) rfl (P7 72 68 46 5 4 2 0 rfl rfl rfl rfl rfl rfl rfl) fun a57 H57 => ?_
  clear H56
  refine h_op H57 rfl (wn rfl) (R_as H57 rfl rfl) rfl (P6 68 46 5 4 2 0 rfl rfl rfl rfl rfl rfl) fun a58 H58 => ?_
  clear H57
  refine h_end ?_
  repeat (go_not_at_region 24; go_step)
  refine wp_cond_false (H58.ev (x := .tmp 68) rfl) ?_
  repeat (go_not_at_region 24; go_step)
  repeat (go_not_at_region 24; go_step)
  refine wp_region_lit ?_
  refine h_op H58 rfl (wn rfl) (R_bin H58 rfl rfl rfl (B_to (y := false) (B8_eq _ _) (by decide))) rfl (P7 73 68 46 5 4 2 0 rfl rfl rfl rfl rfl rfl rfl) fun a59 H59 => ?_
  clear H58
  refine h_op H59 rfl (wn rfl) (R_as H59 rfl rfl) rfl (P6 68 46 5 4 2 0 rfl rfl rfl rfl rfl rfl) fun a60 H60 => ?_
  clear H59
  refine h_end ?_
  repeat (go_not_at_region 26; go_step)
  refine wp_cond_false (H60.ev (x := .tmp 68) rfl) ?_
  repeat (go_not_at_region 26; go_step)
  repeat (go_not_at_region 26; go_step)
  refine wp_region_lit ?_
  refine h_op H60 rfl (wn rfl) (R_fa H60 rfl rfl (fa29_0 _ _)) rfl (P5 77 5 4 2 0 rfl rfl rfl rfl rfl) fun a61 H61 => ?_
  clear H60
  refine h_op H61 rfl (wn rfl) (R_ld H61 rfl rfl (ld_u8k (c := 10) (hL.cell 0) rfl)) rfl (P5 78 5 4 2 0 rfl rfl rfl rfl rfl) fun a62 H62 => ?_
  clear H61
  refine h_end ?_
  repeat (go_not_at_region 27; go_step)
  refine wp_region_lit ?_
  refine h_op H62 rfl (wn rfl) (R_bin H62 rfl rfl rfl (B_to (y := false) (B8_eq _ _) (by decide))) rfl (P6 80 78 5 4 2 0 rfl rfl rfl rfl rfl rfl) fun a63 H63 => ?_
  clear H62
  refine h_op H63 rfl (wn rfl) (R_as H63 rfl rfl) rfl (P6 79 78 5 4 2 0 rfl rfl rfl rfl rfl rfl) fun a64 H64 => ?_
  clear H63
  refine h_end ?_
  repeat (go_not_at_region 28; go_step)
  refine wp_cond_false (H64.ev (x := .tmp 79) rfl) ?_
  repeat (go_not_at_region 28; go_step)
  repeat (go_not_at_region 28; go_step)
  refine wp_region_lit ?_
  refine h_op H64 rfl (wn rfl) (R_bin H64 rfl rfl rfl (B_to (y := true) (B8_eq _ _) (by decide))) rfl (P7 81 79 78 5 4 2 0 rfl rfl rfl rfl rfl rfl rfl) fun a65 H65 => ?_
  clear H64
  refine h_op H65 rfl (wn rfl) (R_as H65 rfl rfl) rfl (P6 79 78 5 4 2 0 rfl rfl rfl rfl rfl rfl) fun a66 H66 => ?_
  clear H65
  refine h_end ?_
  repeat (go_not_at_region 29; go_step)
  repeat (refine wp_cond_true (H66.ev (x := .tmp 79) rfl) ?_; repeat (go_not_at_region 29; go_step))
  repeat (go_not_at_region 29; go_step)
  have hM := inMost_any (m := 2147483647) (by decide) hs hle1 hL.third
  have hle2 := mostE_le (m := 2147483647) (b := b1) hle1
  generalize mostE s n1 b1 2147483647 = q2 at hM hle2 hr
  obtain ⟨x2, n2, b2⟩ := q2
  simp only at hM hle2 hr
  refine wp_region_lit ?_
  refine h_op H66 rfl (wn rfl) (R_mv H66 rfl rfl) rfl (P6 82 78 5 4 2 0 rfl rfl rfl rfl rfl rfl) fun a67 H67 => ?_
  clear H66
  refine h_call H67 rfl (wn rfl) (R_call2 H67 rfl rfl rfl (fun w => by simp [go_sem])) rfl ?_
  refine hM.mono ?_
  rintro e w68 ⟨rfl, hL2⟩
  replace hL := hL2.back3
  clear hL2 hM
  refine ⟨_, rfl, fun a68 HH => ?_⟩
  have H68 := HH _ (P6 83 78 5 4 2 0 rfl rfl rfl rfl rfl rfl)
  clear HH H67
  refine h_op H68 rfl (wn rfl) (R_fa H68 rfl rfl (fa29_6 _ _)) rfl (P7 84 83 78 5 4 2 0 rfl rfl rfl rfl rfl rfl rfl) fun a69 H69 => ?_
  clear H68
  refine h_stL ((w5.heap.size, mcells { PMsg.zero with kind := 10, move := (x0 : Nat), part := (x1 : Nat), code := (x2 : Nat) } (.slice none 0 0) (.slice none 0 0), 29) :: (W.heap.size, zcells, 29) :: (w1.heap.size, rcells s n2 b2, 85) :: L) H69 rfl (wn rfl) (R_st H69 rfl rfl rfl (st_int hL rfl)) (hL.put 6 _) fun a70 w70 H70 hL' => ?_
  replace hL := hL'
  clear H69 hL'
  refine h_end ?_
  subst hr
  simp only at hY
  by_cases hb : b2 ≠ 0
  · rw [if_pos hb] at hY
    repeat (go_not_at_region 44; go_step)
    refine wp_region_lit ?_
    refine h_op H70 rfl (wn rfl) (R_mv H70 rfl rfl) rfl (P5 118 5 4 2 0 rfl rfl rfl rfl rfl) fun a71 H71 => ?_
    clear H70
    refine h_op H71 rfl (wn rfl) (R_nc H71 rfl rfl) rfl (P5 119 5 4 2 0 rfl rfl rfl rfl rfl) fun a72 H72 => ?_
    clear H71
    refine h_op H72 rfl (wn rfl) (R_fa H72 rfl rfl (fr_2 _ _)) rfl (P5 120 5 4 2 0 rfl rfl rfl rfl rfl) fun a73 H73 => ?_
    clear H72
    refine h_op H73 rfl (wn rfl) (R_ld H73 rfl rfl (ld_int (hL.third.cell 2))) rfl (P5 121 5 4 2 0 rfl rfl rfl rfl rfl) fun a74 H74 => ?_
    clear H73
    refine h_op H74 rfl (wn rfl) (R_bin H74 rfl rfl rfl (B_to (y := true) (B_ne Try.underlying3 _ _) (bne_iff_ne.2 hb))) rfl (P5 122 5 4 2 0 rfl rfl rfl rfl rfl) fun a75 H75 => ?_
    clear H74
    refine h_end ?_
    repeat (go_not_at_region 45; go_step)
    refine wp_cond_true (H75.ev (x := .tmp 122) rfl) ?_
    repeat (go_not_at_region 45; go_step)
    refine wp_region_held_drew (S := fun w' => Live w0 ((w5.heap.size, mcells { PMsg.zero with kind := 10, move := (x0 : Nat), part := (x1 : Nat), code := (x2 : Nat) } (.slice none 0 0) (.slice none 0 0), 29) :: (W.heap.size, zcells, 29) :: (w1.heap.size, rcells s n2 b2, 85) :: L) w') (by kernel_rfl) hL.drew (fun hL' => ?_)
    replace hL := hL'
    clear hL'
    refine a_op 0 H75 rfl rfl (by kernel_rfl) (by kernel_rfl) (by kernel_rfl) (fun _ _ _ h => h) (wn rfl) (fun w hL => R_build rfl bd_row) hL rfl (P3 123 4 2 rfl rfl rfl) fun a76 H76 => ?_
    clear H75
    refine a_op 1 H76 rfl rfl (by kernel_rfl) (by kernel_rfl) (by kernel_rfl) (fun _ _ _ h => h) (wn rfl) (fun w hL => R_mv H76 rfl rfl) hL rfl (P3 124 123 2 rfl rfl rfl) fun a77 H77 => ?_
    clear H76
    refine a_op 2 H77 rfl rfl (by kernel_rfl) (by kernel_rfl) (by kernel_rfl) (fun _ _ _ h => h) (wn rfl) (fun w hL => R_nc H77 rfl rfl) hL rfl (P3 125 123 2 rfl rfl rfl) fun a78 H78 => ?_
    clear H77
    refine a_op 3 H78 rfl rfl (by kernel_rfl) (by kernel_rfl) (by kernel_rfl) (fun _ _ _ h => h) (wn rfl) (fun w hL => R_fa H78 rfl rfl (fr_2 _ _)) hL rfl (P3 126 123 2 rfl rfl rfl) fun a79 H79 => ?_
    clear H78
    refine a_op 4 H79 rfl rfl (by kernel_rfl) (by kernel_rfl) (by kernel_rfl) (fun _ _ _ h => h) (wn rfl) (fun w hL => R_ld H79 rfl rfl (ld_int (hL.third.cell 2))) hL rfl (P3 127 123 2 rfl rfl rfl) fun a80 H80 => ?_
    clear H79
    refine a_all1 5 (by kernel_rfl) ?_
    refine o_stL ((w5.heap.size, mcells { PMsg.zero with kind := 10, move := (x0 : Nat), part := (x1 : Nat), code := (x2 : Nat) } (.slice none 0 0) (.slice none 0 0), 29) :: (W.heap.size, zcells, 29) :: (w1.heap.size, rcells s n2 b2, 85) :: L) 5 H80 rfl rfl (wn rfl) (R_st H80 rfl rfl rfl (st_row (m2 := .zero) (m := .zero) (vo2 := .slice none 0 0) (vs2 := .slice none 0 0) (vo := .slice none 0 0) (vs := .slice none 0 0) (hL.mem_at (by simp)) (mcells_one rfl rfl))) ((hL.swap.row _).swap) fun a81 w81 H81 hL' => ⟨hL', ?_⟩
    replace hL := hL'
    clear H80 hL'
    refine a_op 6 H81 rfl rfl (by kernel_rfl) (by kernel_rfl) (by kernel_rfl) (fun _ _ _ h => h) (wn rfl) (fun w hL => R_as H81 rfl rfl) hL rfl (P2 3 2 rfl rfl) fun a82 H82 => ?_
    clear H81
    refine wpAnyH_done (by kernel_rfl) ?_ _
    repeat (go_not_at_region 999; go_step)
    refine bodyPost_ret (v := .tuple #[.agg zcells, .int .i64 b2]) (refread_results (H82.getD rfl) (H82.getD rfl) hL.swap.at_ rfl) H82.1 ?_
    rw [hY]
    exact .zero rfl hL.tail.tail.tail
  obtain rfl : b2 = 0 := Decidable.not_not.1 hb
  rw [if_neg hb] at hY
  clear hb
  repeat (go_not_at_region 44; go_step)
  refine wp_region_lit ?_
  refine h_op H70 rfl (wn rfl) (R_mv H70 rfl rfl) rfl (P5 118 5 4 2 0 rfl rfl rfl rfl rfl) fun a71 H71 => ?_
  clear H70
  refine h_op H71 rfl (wn rfl) (R_nc H71 rfl rfl) rfl (P5 119 5 4 2 0 rfl rfl rfl rfl rfl) fun a72 H72 => ?_
  clear H71
  refine h_op H72 rfl (wn rfl) (R_fa H72 rfl rfl (fr_2 _ _)) rfl (P5 120 5 4 2 0 rfl rfl rfl rfl rfl) fun a73 H73 => ?_
  clear H72
  refine h_op H73 rfl (wn rfl) (R_ld H73 rfl rfl (ld_int (hL.third.cell 2))) rfl (P5 121 5 4 2 0 rfl rfl rfl rfl rfl) fun a74 H74 => ?_
  clear H73
  refine h_op H74 rfl (wn rfl) (R_bin H74 rfl rfl rfl (B_to (y := false) (B_ne Try.underlying3 _ _) (by decide))) rfl (P5 122 5 4 2 0 rfl rfl rfl rfl rfl) fun a75 H75 => ?_
  clear H74
  refine h_end ?_
  repeat (go_not_at_region 46; go_step)
  refine wp_cond_false (H75.ev (x := .tmp 122) rfl) ?_
  by_cases hn : n2 < s.size
  · rw [if_pos hn] at hY
    repeat (go_not_at_region 46; go_step)
    repeat (go_not_at_region 46; go_step)
    refine wp_region_lit ?_
    refine h_op H75 rfl (wn rfl) (R_mv H75 rfl rfl) rfl (P5 128 5 4 2 0 rfl rfl rfl rfl rfl) fun a76 H76 => ?_
    clear H75
    refine h_op H76 rfl (wn rfl) (R_nc H76 rfl rfl) rfl (P5 129 5 4 2 0 rfl rfl rfl rfl rfl) fun a77 H77 => ?_
    clear H76
    refine h_op H77 rfl (wn rfl) (R_fa H77 rfl rfl (fr_1 _ _)) rfl (P5 130 5 4 2 0 rfl rfl rfl rfl rfl) fun a78 H78 => ?_
    clear H77
    refine h_op H78 rfl (wn rfl) (R_ld H78 rfl rfl (ld_int (hL.third.cell 1))) rfl (P5 131 5 4 2 0 rfl rfl rfl rfl rfl) fun a79 H79 => ?_
    clear H78
    refine h_op H79 rfl (wn rfl) (R_mv H79 rfl rfl) rfl (P6 132 131 5 4 2 0 rfl rfl rfl rfl rfl rfl) fun a80 H80 => ?_
    clear H79
    refine h_op H80 rfl (wn rfl) (R_len H80 rfl rfl Try.underlying9) rfl (P6 133 131 5 4 2 0 rfl rfl rfl rfl rfl rfl) fun a81 H81 => ?_
    clear H80
    refine h_op H81 rfl (wn rfl) (R_bin H81 rfl rfl rfl (B_to (y := true) (B_lt Try.underlying3 _ _) (decide_eq_true (by omega)))) rfl (P5 134 5 4 2 0 rfl rfl rfl rfl rfl) fun a82 H82 => ?_
    clear H81
    refine h_end ?_
    repeat (go_not_at_region 47; go_step)
    refine wp_cond_true (H82.ev (x := .tmp 134) rfl) ?_
    repeat (go_not_at_region 47; go_step)
    repeat (go_not_at_region 47; go_step)
    refine wp_region_lit ?_
    refine h_op H82 rfl (wn rfl) (R_build rfl bd_row) rfl (P2 135 2 rfl rfl) fun a83 H83 => ?_
    clear H82
    refine h_stL ((w5.heap.size, mcells { PMsg.zero with kind := 10, move := (x0 : Nat), part := (x1 : Nat), code := (x2 : Nat) } (.slice none 0 0) (.slice none 0 0), 29) :: (W.heap.size, zcells, 29) :: (w1.heap.size, rcells s n2 0, 85) :: L) H83 rfl (wn rfl) (R_st H83 rfl rfl rfl (st_row (m2 := .zero) (m := .zero) (vo2 := .slice none 0 0) (vs2 := .slice none 0 0) (vo := .slice none 0 0) (vs := .slice none 0 0) (hL.mem_at (by simp)) (mcells_one rfl rfl))) ((hL.swap.row _).swap) fun a84 w84 H84 hL' => ?_
    replace hL := hL'
    clear H83 hL'
    refine h_op H84 rfl (wn rfl) (R_as H84 rfl rfl) rfl (P2 3 2 rfl rfl) fun a85 H85 => ?_
    clear H84
    refine h_end ?_
    repeat (go_not_at_region 999; go_step)
    refine bodyPost_ret (v := .tuple #[.agg zcells, .int .i64 8]) (refread_results (H85.getD rfl) (H85.getD rfl) hL.swap.at_ rfl) H85.1 ?_
    rw [hY]
    exact .zero rfl hL.tail.tail.tail
  rw [if_neg hn] at hY
  repeat (go_not_at_region 46; go_step)
  repeat (go_not_at_region 46; go_step)
  refine wp_region_lit ?_
  refine h_op H75 rfl (wn rfl) (R_mv H75 rfl rfl) rfl (P5 128 5 4 2 0 rfl rfl rfl rfl rfl) fun a76 H76 => ?_
  clear H75
  refine h_op H76 rfl (wn rfl) (R_nc H76 rfl rfl) rfl (P5 129 5 4 2 0 rfl rfl rfl rfl rfl) fun a77 H77 => ?_
  clear H76
  refine h_op H77 rfl (wn rfl) (R_fa H77 rfl rfl (fr_1 _ _)) rfl (P5 130 5 4 2 0 rfl rfl rfl rfl rfl) fun a78 H78 => ?_
  clear H77
  refine h_op H78 rfl (wn rfl) (R_ld H78 rfl rfl (ld_int (hL.third.cell 1))) rfl (P5 131 5 4 2 0 rfl rfl rfl rfl rfl) fun a79 H79 => ?_
  clear H78
  refine h_op H79 rfl (wn rfl) (R_mv H79 rfl rfl) rfl (P6 132 131 5 4 2 0 rfl rfl rfl rfl rfl rfl) fun a80 H80 => ?_
  clear H79
  refine h_op H80 rfl (wn rfl) (R_len H80 rfl rfl Try.underlying9) rfl (P6 133 131 5 4 2 0 rfl rfl rfl rfl rfl rfl) fun a81 H81 => ?_
  clear H80
  refine h_op H81 rfl (wn rfl) (R_bin H81 rfl rfl rfl (B_to (y := false) (B_lt Try.underlying3 _ _) (decide_eq_false (by omega)))) rfl (P5 134 5 4 2 0 rfl rfl rfl rfl rfl) fun a82 H82 => ?_
  clear H81
  refine h_end ?_
  repeat (go_not_at_region 48; go_step)
  refine wp_cond_false (H82.ev (x := .tmp 134) rfl) ?_
  repeat (go_not_at_region 48; go_step)
  repeat (go_not_at_region 48; go_step)
  refine wp_region_lit ?_
  refine h_op H82 rfl (wn rfl) (R_ld H82 rfl rfl (ld_row hL.at_)) rfl (P2 136 2 rfl rfl) fun a83 H83 => ?_
  clear H82
  refine h_stL ((W.heap.size, mcells { PMsg.zero with kind := 10, move := (x0 : Nat), part := (x1 : Nat), code := (x2 : Nat) } (.slice none 0 0) (.slice none 0 0), 29) :: (w5.heap.size, mcells { PMsg.zero with kind := 10, move := (x0 : Nat), part := (x1 : Nat), code := (x2 : Nat) } (.slice none 0 0) (.slice none 0 0), 29) :: (w1.heap.size, rcells s n2 0, 85) :: L) H83 rfl (wn rfl) (R_st H83 rfl rfl rfl (st_row (m2 := .zero) (vo2 := .slice none 0 0) (vs2 := .slice none 0 0) (hL.mem_at (by simp)) (mcells_one rfl rfl))) (hL.swap.row _) fun a84 w84 H84 hL' => ?_
  replace hL := hL'
  clear H83 hL'
  refine h_op H84 rfl (wn rfl) (R_as H84 rfl rfl) rfl (P2 3 2 rfl rfl) fun a85 H85 => ?_
  clear H84
  refine h_end ?_
  repeat (go_not_at_region 999; go_step)
  refine bodyPost_ret (v := .tuple #[.agg (mcells { PMsg.zero with kind := 10, move := (x0 : Nat), part := (x1 : Nat), code := (x2 : Nat) } (.slice none 0 0) (.slice none 0 0)), .int .i64 0]) (refread_results (H85.getD rfl) (H85.getD rfl) hL.at_ rfl) H85.1 ?_
  rw [hY]
  exact ⟨(.slice none 0 0), (.slice none 0 0), [], [], rfl, .inl ⟨rd_nul _, rfl⟩, .inl ⟨rd_nul _, rfl⟩, hL.tail.tail.tail⟩
end
end Go.Proofs.Ytmmhchpilcjflaa
