/-
  MsgOnly: its walk.
-/
import Derived.Test.YtmmhchpilcjflaaMsgRl
import Derived.Deep.Cut
set_option linter.unusedSimpArgs false
set_option linter.unusedVariables false
namespace Go.Proofs.Ytmmhchpilcjflaa
open Go.RowKit

abbrev m15 : PMsg := { PMsg.zero with kind := 15 }
theorem m15_fits : m15.Fits := ⟨zero_fits.digest, zero_fits.at0, zero_fits.at1, zero_fits.iat0, zero_fits.iat1, zero_fits.iN0, zero_fits.iN1, zero_fits.key, zero_fits.data⟩
theorem err15 : errM m15 = 10 := by
  unfold errM
  rw [bytes_em m15_fits (by decide) (by decide), if_neg (by decide)]
theorem err0 : errM PMsg.zero = 10 := by
  unfold errM
  rw [bytes_em zero_fits (by decide) (by decide), if_neg (by decide)]
section
variable {W : World} {m : PMsg} {vo vs : Value}
set_option maxHeartbeats 16000000 in
set_option maxRecDepth 100000 in
theorem only_law (na : m.FitsN) (h1 : Rd W vo m.owner) (h2 : Rd W vs m.set) (l1 : m.owner.length ≤ 9223372036854775807) (l2 : m.set.length ≤ 9223372036854775807) :
    Calls Try.prog 5 #[.agg (mcells m vo vs)] W fun e W' => e = .returned (.bool true) ∧ Below W.heap.size W W' := by
  have hL := Live.init W
  have K1 : ∀ {w}, Below W.heap.size W w → Rd w vo m.owner := fun hb => h1.kept fun k hk => hb.block k hk
  have K2 : ∀ {w}, Below W.heap.size W w → Rd w vs m.set := fun hb => h2.kept fun k hk => hb.block k hk
  go_enter Try.func5, Try.ntmps5
  refine wp_fr (n := 44) (m := [(0, _)]) ⟨rfl, rfl, by intro p hp; simp only [List.mem_cons, List.not_mem_nil, or_false] at hp; rcases hp with rfl <;> rfl⟩ fun a0 H0 => ?_
  repeat (go_not_at_region 0; go_step)
  refine wp_region_lit ?_
  refine h_opL [(W.heap.size, mcells m vo vs, 29)] (m' := [(1, _)]) H0 rfl (wn rfl) (R_box H0 rfl rfl bx_row) (hL.alloc _ _) rfl (.cons rfl .nil) fun a1 w1 H1 hL' => ?_
  replace hL := hL'
  clear H0 hL'
  refine h_op (m' := [(1, _)]) H1 rfl (wn rfl) (R_as H1 rfl rfl) rfl (.cons rfl .nil) fun a2 H2 => ?_
  clear H1
  refine h_end ?_
  repeat (go_not_at_region 1; go_step)
  refine wp_region_lit ?_
  refine h_call H2 rfl (wn rfl) (R_call0 H2 rfl (fun w => by simp [go_sem])) rfl ?_
  refine (awake_ok).mono ?_
  rintro e w3 ⟨rfl, hb⟩
  replace hL := hL.call hb
  clear hb
  refine ⟨_, rfl, fun a3 HH => ?_⟩
  have H3 := HH [(5, _), (1, _)] (.cons rfl (.cons rfl .nil))
  clear HH H2
  refine h_op (m' := [(6, _), (1, _)]) H3 rfl (wn rfl) (R_not H3 rfl rfl) rfl (.cons rfl (.cons rfl .nil)) fun a4 H4 => ?_
  clear H3
  refine h_end ?_
  repeat (go_not_at_region 3; go_step)
  refine wp_cond_false (H4.ev (x := .tmp 6) rfl) ?_
  repeat (go_not_at_region 3; go_step)
  cases ga : greatB m
  rotate_left
  · refine wp_region_lit ?_
    refine h_op (m' := [(7, _), (1, _)]) H4 rfl (wn rfl) (R_ld H4 rfl rfl (ld_row hL.at_)) rfl (.cons rfl (.cons rfl .nil)) fun a5 H5 => ?_
    clear H4
    refine h_call H5 rfl (wn rfl) (R_call1 H5 rfl rfl (fun w => by simp [go_sem])) rfl ?_
    refine (Great_any (K1 hL.1) (K2 hL.1) l1 l2).mono ?_
    rintro e w6 ⟨rfl, hb⟩
    replace hL := hL.call hb
    clear hb
    rw [ga]
    refine ⟨_, rfl, fun a6 HH => ?_⟩
    have H6 := HH [(8, _), (1, _)] (.cons rfl (.cons rfl .nil))
    clear HH H5
    refine h_op (m' := [(9, _), (1, _)]) H6 rfl (wn rfl) (R_mv H6 rfl rfl) rfl (.cons rfl (.cons rfl .nil)) fun a7 H7 => ?_
    clear H6
    refine h_skip (m' := [(9, _), (1, _)]) H7 rfl (H7.wf rfl rfl rfl) rfl (.cons rfl (.cons rfl .nil)) fun a8 H8 => ?_
    clear H7
    refine h_skip (m' := [(9, _), (1, _)]) H8 rfl (H8.wf rfl rfl rfl) rfl (.cons rfl (.cons rfl .nil)) fun a9 H9 => ?_
    clear H8
    refine h_skip (m' := [(9, _), (1, _)]) H9 rfl (H9.wf rfl rfl rfl) rfl (.cons rfl (.cons rfl .nil)) fun a10 H10 => ?_
    clear H9
    refine h_op (m' := [(13, _), (1, _)]) H10 rfl (wn rfl) (R_pick H10 rfl rfl rfl) rfl (.cons rfl (.cons rfl .nil)) fun a11 H11 => ?_
    clear H10
    refine h_op (m' := [(14, _), (1, _)]) H11 rfl (wn rfl) (R_mv H11 rfl rfl) rfl (.cons rfl (.cons rfl .nil)) fun a12 H12 => ?_
    clear H11
    refine h_skip (m' := [(14, _), (1, _)]) H12 rfl (H12.wf rfl rfl rfl) rfl (.cons rfl (.cons rfl .nil)) fun a13 H13 => ?_
    clear H12
    refine h_skip (m' := [(14, _), (1, _)]) H13 rfl (H13.wf rfl rfl rfl) rfl (.cons rfl (.cons rfl .nil)) fun a14 H14 => ?_
    clear H13
    refine h_skip (m' := [(14, _), (1, _)]) H14 rfl (H14.wf rfl rfl rfl) rfl (.cons rfl (.cons rfl .nil)) fun a15 H15 => ?_
    clear H14
    refine h_op (m' := [(18, _), (1, _)]) H15 rfl (wn rfl) (R_pick H15 rfl rfl rfl) rfl (.cons rfl (.cons rfl .nil)) fun a16 H16 => ?_
    clear H15
    refine h_end ?_
    repeat (go_not_at_region 4; go_step)
    refine wp_cond_true (H16.ev (x := .tmp 18) rfl) ?_
    repeat (go_not_at_region 4; go_step)
    refine wp_region_lit ?_
    refine h_op (m' := [(19, _)]) H16 rfl (wn rfl) (R_bd1 H16 rfl rfl (bd_kind (k := 15))) rfl (.cons rfl .nil) fun a17 H17 => ?_
    clear H16
    refine h_call H17 rfl (wn rfl) (R_call1 H17 rfl rfl (fun w => by simp [go_sem])) rfl ?_
    refine (Right_any m15_fits (by decide) (by decide) (.inl ⟨rfl, rfl⟩) (.inl ⟨rfl, rfl⟩) (by decide) (by decide)).mono ?_
    rintro e w18 ⟨rfl, hb⟩
    replace hL := hL.call hb
    clear hb
    rw [err15]
    refine ⟨_, rfl, fun a18 HH => ?_⟩
    have H18 := HH [(20, _)] (.cons rfl .nil)
    clear HH H17
    refine h_op (m' := [(21, _)]) H18 rfl (wn rfl) (R_bin H18 rfl rfl rfl (B_eq Try.underlying33 _ _)) rfl (.cons rfl .nil) fun a19 H19 => ?_
    clear H18
    refine h_op (m' := [(22, _)]) H19 rfl (wn rfl) (R_mv H19 rfl rfl) rfl (.cons rfl .nil) fun a20 H20 => ?_
    clear H19
    refine h_op (m' := [(23, _), (22, _)]) H20 rfl (H20.wt rfl rfl rfl) (R_build rfl bd_row) rfl (.cons rfl (.cons rfl .nil)) fun a21 H21 => ?_
    clear H20
    refine h_call H21 rfl (H21.wt rfl rfl rfl) (R_call1 H21 rfl rfl (fun w => by simp [go_sem])) rfl ?_
    refine (Right_any zero_fits (by decide) (by decide) (.inl ⟨rfl, rfl⟩) (.inl ⟨rfl, rfl⟩) (by decide) (by decide)).mono ?_
    rintro e w22 ⟨rfl, hb⟩
    replace hL := hL.call hb
    clear hb
    rw [err0]
    refine ⟨_, rfl, fun a22 HH => ?_⟩
    have H22 := HH [(24, _), (22, _)] (.cons rfl (.cons rfl .nil))
    clear HH H21
    refine h_op (m' := [(25, _), (22, _)]) H22 rfl (H22.wt rfl rfl rfl) (R_bin H22 rfl rfl rfl (B_eq Try.underlying33 _ _)) rfl (.cons rfl (.cons rfl .nil)) fun a23 H23 => ?_
    clear H22
    refine h_op (m' := [(26, _)]) H23 rfl (wn rfl) (R_pick H23 rfl rfl rfl) rfl (.cons rfl .nil) fun a24 H24 => ?_
    clear H23
    refine h_op (m' := [(2, _)]) H24 rfl (wn rfl) (R_as H24 rfl rfl) rfl (.cons rfl .nil) fun a25 H25 => ?_
    clear H24
    refine h_end ?_
    repeat (go_not_at_region 999; go_step)
    exact H25.ret1 (v := .bool true) rfl rfl ⟨rfl, hL.1⟩
  by_cases k1 : m.kind < 1
  · refine wp_region_lit ?_
    refine h_op (m' := [(7, _), (1, _)]) H4 rfl (wn rfl) (R_ld H4 rfl rfl (ld_row hL.at_)) rfl (.cons rfl (.cons rfl .nil)) fun a5 H5 => ?_
    clear H4
    refine h_call H5 rfl (wn rfl) (R_call1 H5 rfl rfl (fun w => by simp [go_sem])) rfl ?_
    refine (Great_any (K1 hL.1) (K2 hL.1) l1 l2).mono ?_
    rintro e w6 ⟨rfl, hb⟩
    replace hL := hL.call hb
    clear hb
    rw [ga]
    refine ⟨_, rfl, fun a6 HH => ?_⟩
    have H6 := HH [(8, _), (1, _)] (.cons rfl (.cons rfl .nil))
    clear HH H5
    refine h_op (m' := [(9, _), (1, _)]) H6 rfl (wn rfl) (R_mv H6 rfl rfl) rfl (.cons rfl (.cons rfl .nil)) fun a7 H7 => ?_
    clear H6
    refine h_op (m' := [(10, _), (9, _), (1, _)]) H7 rfl (H7.wt rfl rfl rfl) (R_fa H7 rfl rfl (fa29_0 _ _)) rfl (.cons rfl (.cons rfl (.cons rfl .nil))) fun a8 H8 => ?_
    clear H7
    refine h_op (m' := [(11, _), (9, _), (1, _)]) H8 rfl (H8.wt rfl rfl rfl) (R_ld H8 rfl rfl (ld_u8 (hL.cell 0))) rfl (.cons rfl (.cons rfl (.cons rfl .nil))) fun a9 H9 => ?_
    clear H8
    refine h_op (m' := [(12, _), (9, _), (1, _)]) H9 rfl (H9.wt rfl rfl rfl) (R_bin H9 rfl rfl rfl (B_to (y := true) (B8_lt _ _) (decide_eq_true (by omega)))) rfl (.cons rfl (.cons rfl (.cons rfl .nil))) fun a10 H10 => ?_
    clear H9
    refine h_op (m' := [(13, _), (1, _)]) H10 rfl (wn rfl) (R_pick H10 rfl rfl rfl) rfl (.cons rfl (.cons rfl .nil)) fun a11 H11 => ?_
    clear H10
    refine h_op (m' := [(14, _), (1, _)]) H11 rfl (wn rfl) (R_mv H11 rfl rfl) rfl (.cons rfl (.cons rfl .nil)) fun a12 H12 => ?_
    clear H11
    refine h_skip (m' := [(14, _), (1, _)]) H12 rfl (H12.wf rfl rfl rfl) rfl (.cons rfl (.cons rfl .nil)) fun a13 H13 => ?_
    clear H12
    refine h_skip (m' := [(14, _), (1, _)]) H13 rfl (H13.wf rfl rfl rfl) rfl (.cons rfl (.cons rfl .nil)) fun a14 H14 => ?_
    clear H13
    refine h_skip (m' := [(14, _), (1, _)]) H14 rfl (H14.wf rfl rfl rfl) rfl (.cons rfl (.cons rfl .nil)) fun a15 H15 => ?_
    clear H14
    refine h_op (m' := [(18, _), (1, _)]) H15 rfl (wn rfl) (R_pick H15 rfl rfl rfl) rfl (.cons rfl (.cons rfl .nil)) fun a16 H16 => ?_
    clear H15
    refine h_end ?_
    repeat (go_not_at_region 4; go_step)
    refine wp_cond_true (H16.ev (x := .tmp 18) rfl) ?_
    repeat (go_not_at_region 4; go_step)
    refine wp_region_lit ?_
    refine h_op (m' := [(19, _)]) H16 rfl (wn rfl) (R_bd1 H16 rfl rfl (bd_kind (k := 15))) rfl (.cons rfl .nil) fun a17 H17 => ?_
    clear H16
    refine h_call H17 rfl (wn rfl) (R_call1 H17 rfl rfl (fun w => by simp [go_sem])) rfl ?_
    refine (Right_any m15_fits (by decide) (by decide) (.inl ⟨rfl, rfl⟩) (.inl ⟨rfl, rfl⟩) (by decide) (by decide)).mono ?_
    rintro e w18 ⟨rfl, hb⟩
    replace hL := hL.call hb
    clear hb
    rw [err15]
    refine ⟨_, rfl, fun a18 HH => ?_⟩
    have H18 := HH [(20, _)] (.cons rfl .nil)
    clear HH H17
    refine h_op (m' := [(21, _)]) H18 rfl (wn rfl) (R_bin H18 rfl rfl rfl (B_eq Try.underlying33 _ _)) rfl (.cons rfl .nil) fun a19 H19 => ?_
    clear H18
    refine h_op (m' := [(22, _)]) H19 rfl (wn rfl) (R_mv H19 rfl rfl) rfl (.cons rfl .nil) fun a20 H20 => ?_
    clear H19
    refine h_op (m' := [(23, _), (22, _)]) H20 rfl (H20.wt rfl rfl rfl) (R_build rfl bd_row) rfl (.cons rfl (.cons rfl .nil)) fun a21 H21 => ?_
    clear H20
    refine h_call H21 rfl (H21.wt rfl rfl rfl) (R_call1 H21 rfl rfl (fun w => by simp [go_sem])) rfl ?_
    refine (Right_any zero_fits (by decide) (by decide) (.inl ⟨rfl, rfl⟩) (.inl ⟨rfl, rfl⟩) (by decide) (by decide)).mono ?_
    rintro e w22 ⟨rfl, hb⟩
    replace hL := hL.call hb
    clear hb
    rw [err0]
    refine ⟨_, rfl, fun a22 HH => ?_⟩
    have H22 := HH [(24, _), (22, _)] (.cons rfl (.cons rfl .nil))
    clear HH H21
    refine h_op (m' := [(25, _), (22, _)]) H22 rfl (H22.wt rfl rfl rfl) (R_bin H22 rfl rfl rfl (B_eq Try.underlying33 _ _)) rfl (.cons rfl (.cons rfl .nil)) fun a23 H23 => ?_
    clear H22
    refine h_op (m' := [(26, _)]) H23 rfl (wn rfl) (R_pick H23 rfl rfl rfl) rfl (.cons rfl .nil) fun a24 H24 => ?_
    clear H23
    refine h_op (m' := [(2, _)]) H24 rfl (wn rfl) (R_as H24 rfl rfl) rfl (.cons rfl .nil) fun a25 H25 => ?_
    clear H24
    refine h_end ?_
    repeat (go_not_at_region 999; go_step)
    exact H25.ret1 (v := .bool true) rfl rfl ⟨rfl, hL.1⟩
  by_cases k2 : 14 < m.kind
  · refine wp_region_lit ?_
    refine h_op (m' := [(7, _), (1, _)]) H4 rfl (wn rfl) (R_ld H4 rfl rfl (ld_row hL.at_)) rfl (.cons rfl (.cons rfl .nil)) fun a5 H5 => ?_
    clear H4
    refine h_call H5 rfl (wn rfl) (R_call1 H5 rfl rfl (fun w => by simp [go_sem])) rfl ?_
    refine (Great_any (K1 hL.1) (K2 hL.1) l1 l2).mono ?_
    rintro e w6 ⟨rfl, hb⟩
    replace hL := hL.call hb
    clear hb
    rw [ga]
    refine ⟨_, rfl, fun a6 HH => ?_⟩
    have H6 := HH [(8, _), (1, _)] (.cons rfl (.cons rfl .nil))
    clear HH H5
    refine h_op (m' := [(9, _), (1, _)]) H6 rfl (wn rfl) (R_mv H6 rfl rfl) rfl (.cons rfl (.cons rfl .nil)) fun a7 H7 => ?_
    clear H6
    refine h_op (m' := [(10, _), (9, _), (1, _)]) H7 rfl (H7.wt rfl rfl rfl) (R_fa H7 rfl rfl (fa29_0 _ _)) rfl (.cons rfl (.cons rfl (.cons rfl .nil))) fun a8 H8 => ?_
    clear H7
    refine h_op (m' := [(11, _), (9, _), (1, _)]) H8 rfl (H8.wt rfl rfl rfl) (R_ld H8 rfl rfl (ld_u8 (hL.cell 0))) rfl (.cons rfl (.cons rfl (.cons rfl .nil))) fun a9 H9 => ?_
    clear H8
    refine h_op (m' := [(12, _), (9, _), (1, _)]) H9 rfl (H9.wt rfl rfl rfl) (R_bin H9 rfl rfl rfl (B_to (y := false) (B8_lt _ _) (decide_eq_false (by omega)))) rfl (.cons rfl (.cons rfl (.cons rfl .nil))) fun a10 H10 => ?_
    clear H9
    refine h_op (m' := [(13, _), (1, _)]) H10 rfl (wn rfl) (R_pick H10 rfl rfl rfl) rfl (.cons rfl (.cons rfl .nil)) fun a11 H11 => ?_
    clear H10
    refine h_op (m' := [(14, _), (1, _)]) H11 rfl (wn rfl) (R_mv H11 rfl rfl) rfl (.cons rfl (.cons rfl .nil)) fun a12 H12 => ?_
    clear H11
    refine h_op (m' := [(15, _), (14, _), (1, _)]) H12 rfl (H12.wt rfl rfl rfl) (R_fa H12 rfl rfl (fa29_0 _ _)) rfl (.cons rfl (.cons rfl (.cons rfl .nil))) fun a13 H13 => ?_
    clear H12
    refine h_op (m' := [(16, _), (14, _), (1, _)]) H13 rfl (H13.wt rfl rfl rfl) (R_ld H13 rfl rfl (ld_u8 (hL.cell 0))) rfl (.cons rfl (.cons rfl (.cons rfl .nil))) fun a14 H14 => ?_
    clear H13
    refine h_op (m' := [(17, _), (14, _), (1, _)]) H14 rfl (H14.wt rfl rfl rfl) (R_bin H14 rfl rfl rfl (B_to (y := true) (B8_gt _ _) (decide_eq_true (by omega)))) rfl (.cons rfl (.cons rfl (.cons rfl .nil))) fun a15 H15 => ?_
    clear H14
    refine h_op (m' := [(18, _), (1, _)]) H15 rfl (wn rfl) (R_pick H15 rfl rfl rfl) rfl (.cons rfl (.cons rfl .nil)) fun a16 H16 => ?_
    clear H15
    refine h_end ?_
    repeat (go_not_at_region 4; go_step)
    refine wp_cond_true (H16.ev (x := .tmp 18) rfl) ?_
    repeat (go_not_at_region 4; go_step)
    refine wp_region_lit ?_
    refine h_op (m' := [(19, _)]) H16 rfl (wn rfl) (R_bd1 H16 rfl rfl (bd_kind (k := 15))) rfl (.cons rfl .nil) fun a17 H17 => ?_
    clear H16
    refine h_call H17 rfl (wn rfl) (R_call1 H17 rfl rfl (fun w => by simp [go_sem])) rfl ?_
    refine (Right_any m15_fits (by decide) (by decide) (.inl ⟨rfl, rfl⟩) (.inl ⟨rfl, rfl⟩) (by decide) (by decide)).mono ?_
    rintro e w18 ⟨rfl, hb⟩
    replace hL := hL.call hb
    clear hb
    rw [err15]
    refine ⟨_, rfl, fun a18 HH => ?_⟩
    have H18 := HH [(20, _)] (.cons rfl .nil)
    clear HH H17
    refine h_op (m' := [(21, _)]) H18 rfl (wn rfl) (R_bin H18 rfl rfl rfl (B_eq Try.underlying33 _ _)) rfl (.cons rfl .nil) fun a19 H19 => ?_
    clear H18
    refine h_op (m' := [(22, _)]) H19 rfl (wn rfl) (R_mv H19 rfl rfl) rfl (.cons rfl .nil) fun a20 H20 => ?_
    clear H19
    refine h_op (m' := [(23, _), (22, _)]) H20 rfl (H20.wt rfl rfl rfl) (R_build rfl bd_row) rfl (.cons rfl (.cons rfl .nil)) fun a21 H21 => ?_
    clear H20
    refine h_call H21 rfl (H21.wt rfl rfl rfl) (R_call1 H21 rfl rfl (fun w => by simp [go_sem])) rfl ?_
    refine (Right_any zero_fits (by decide) (by decide) (.inl ⟨rfl, rfl⟩) (.inl ⟨rfl, rfl⟩) (by decide) (by decide)).mono ?_
    rintro e w22 ⟨rfl, hb⟩
    replace hL := hL.call hb
    clear hb
    rw [err0]
    refine ⟨_, rfl, fun a22 HH => ?_⟩
    have H22 := HH [(24, _), (22, _)] (.cons rfl (.cons rfl .nil))
    clear HH H21
    refine h_op (m' := [(25, _), (22, _)]) H22 rfl (H22.wt rfl rfl rfl) (R_bin H22 rfl rfl rfl (B_eq Try.underlying33 _ _)) rfl (.cons rfl (.cons rfl .nil)) fun a23 H23 => ?_
    clear H22
    refine h_op (m' := [(26, _)]) H23 rfl (wn rfl) (R_pick H23 rfl rfl rfl) rfl (.cons rfl .nil) fun a24 H24 => ?_
    clear H23
    refine h_op (m' := [(2, _)]) H24 rfl (wn rfl) (R_as H24 rfl rfl) rfl (.cons rfl .nil) fun a25 H25 => ?_
    clear H24
    refine h_end ?_
    repeat (go_not_at_region 999; go_step)
    exact H25.ret1 (v := .bool true) rfl rfl ⟨rfl, hL.1⟩
  refine wp_region_lit ?_
  refine h_op (m' := [(7, _), (1, _)]) H4 rfl (wn rfl) (R_ld H4 rfl rfl (ld_row hL.at_)) rfl (.cons rfl (.cons rfl .nil)) fun a5 H5 => ?_
  clear H4
  refine h_call H5 rfl (wn rfl) (R_call1 H5 rfl rfl (fun w => by simp [go_sem])) rfl ?_
  refine (Great_any (K1 hL.1) (K2 hL.1) l1 l2).mono ?_
  rintro e w6 ⟨rfl, hb⟩
  replace hL := hL.call hb
  clear hb
  rw [ga]
  refine ⟨_, rfl, fun a6 HH => ?_⟩
  have H6 := HH [(8, _), (1, _)] (.cons rfl (.cons rfl .nil))
  clear HH H5
  refine h_op (m' := [(9, _), (1, _)]) H6 rfl (wn rfl) (R_mv H6 rfl rfl) rfl (.cons rfl (.cons rfl .nil)) fun a7 H7 => ?_
  clear H6
  refine h_op (m' := [(10, _), (9, _), (1, _)]) H7 rfl (H7.wt rfl rfl rfl) (R_fa H7 rfl rfl (fa29_0 _ _)) rfl (.cons rfl (.cons rfl (.cons rfl .nil))) fun a8 H8 => ?_
  clear H7
  refine h_op (m' := [(11, _), (9, _), (1, _)]) H8 rfl (H8.wt rfl rfl rfl) (R_ld H8 rfl rfl (ld_u8 (hL.cell 0))) rfl (.cons rfl (.cons rfl (.cons rfl .nil))) fun a9 H9 => ?_
  clear H8
  refine h_op (m' := [(12, _), (9, _), (1, _)]) H9 rfl (H9.wt rfl rfl rfl) (R_bin H9 rfl rfl rfl (B_to (y := false) (B8_lt _ _) (decide_eq_false (by omega)))) rfl (.cons rfl (.cons rfl (.cons rfl .nil))) fun a10 H10 => ?_
  clear H9
  refine h_op (m' := [(13, _), (1, _)]) H10 rfl (wn rfl) (R_pick H10 rfl rfl rfl) rfl (.cons rfl (.cons rfl .nil)) fun a11 H11 => ?_
  clear H10
  refine h_op (m' := [(14, _), (1, _)]) H11 rfl (wn rfl) (R_mv H11 rfl rfl) rfl (.cons rfl (.cons rfl .nil)) fun a12 H12 => ?_
  clear H11
  refine h_op (m' := [(15, _), (14, _), (1, _)]) H12 rfl (H12.wt rfl rfl rfl) (R_fa H12 rfl rfl (fa29_0 _ _)) rfl (.cons rfl (.cons rfl (.cons rfl .nil))) fun a13 H13 => ?_
  clear H12
  refine h_op (m' := [(16, _), (14, _), (1, _)]) H13 rfl (H13.wt rfl rfl rfl) (R_ld H13 rfl rfl (ld_u8 (hL.cell 0))) rfl (.cons rfl (.cons rfl (.cons rfl .nil))) fun a14 H14 => ?_
  clear H13
  refine h_op (m' := [(17, _), (14, _), (1, _)]) H14 rfl (H14.wt rfl rfl rfl) (R_bin H14 rfl rfl rfl (B_to (y := false) (B8_gt _ _) (decide_eq_false (by omega)))) rfl (.cons rfl (.cons rfl (.cons rfl .nil))) fun a15 H15 => ?_
  clear H14
  refine h_op (m' := [(18, _), (1, _)]) H15 rfl (wn rfl) (R_pick H15 rfl rfl rfl) rfl (.cons rfl (.cons rfl .nil)) fun a16 H16 => ?_
  clear H15
  refine h_end ?_
  have fa := fits_g na ga
  have ka := na.kind
  have ia := na.ikind
  have lo : m.owner.length ≤ 1000000000000 := by have := great_no ga; omega
  have ls : m.set.length ≤ 1000000000000 := by have := great_no ga; omega
  have hon := only_len m
  have fo := only_fits fa
  have ko : (onlyM m).kind < 256 := by rw [only_kind]; exact ka
  have io := only_ikind ia
  repeat (go_not_at_region 5; go_step)
  refine wp_cond_false (H16.ev (x := .tmp 18) rfl) ?_
  repeat (go_not_at_region 5; go_step)
  refine wp_region_lit ?_
  refine h_op (m' := [(27, _), (1, _)]) H16 rfl (wn rfl) (R_ld H16 rfl rfl (ld_row hL.at_)) rfl (.cons rfl (.cons rfl .nil)) fun a17 H17 => ?_
  clear H16
  refine h_call H17 rfl (wn rfl) (R_call1 H17 rfl rfl (fun w => by simp [go_sem])) rfl ?_
  refine (Only_any (K1 hL.1) (K2 hL.1)).mono ?_
  rintro e w18 ⟨vo', vs', rfl, ho', hs', hb⟩
  replace hL := hL.call hb
  clear hb
  refine ⟨_, rfl, fun a18 HH => ?_⟩
  have H18 := HH [(28, _), (1, _)] (.cons rfl (.cons rfl .nil))
  clear HH H17
  refine h_opL [(w18.heap.size, zcells, 29), (W.heap.size, mcells m vo vs, 29)] (m' := [(3, _), (28, _), (1, _)]) H18 rfl (wn rfl) (R_alloc rfl al_row) (hL.alloc _ _) rfl (.cons rfl (.cons rfl (.cons rfl .nil))) fun a19 w19 H19 hL' => ?_
  replace hL := hL'
  clear H18 hL'
  refine h_stL [(w18.heap.size, mcells (onlyM m) vo' vs', 29), (W.heap.size, mcells m vo vs, 29)] H19 rfl (wn rfl) (R_st H19 rfl rfl rfl (st_row (m2 := .zero) (vo2 := .slice none 0 0) (vs2 := .slice none 0 0) hL.at_ (mcells_one (slot_one (.inl ⟨ho' _ (K1 hL.1), rfl⟩)) (slot_one (.inl ⟨hs' _ (K2 hL.1), rfl⟩))))) (hL.row _) fun a20 w20 H20 hL' => ?_
  replace hL := hL'
  clear H19 hL'
  refine h_end ?_
  repeat (go_not_at_region 6; go_step)
  refine wp_region_lit ?_
  refine h_op (m' := [(29, _), (3, _), (1, _)]) H20 rfl (wn rfl) (R_ld H20 rfl rfl (ld_row hL.at_)) rfl (.cons rfl (.cons rfl (.cons rfl .nil))) fun a21 H21 => ?_
  clear H20
  refine h_call H21 rfl (wn rfl) (R_call1 H21 rfl rfl (fun w => by simp [go_sem])) rfl ?_
  refine (Right_any fo ko io (ho' _ (K1 hL.1)) (hs' _ (K2 hL.1)) (by omega) (by omega)).mono ?_
  rintro e w22 ⟨rfl, hb⟩
  replace hL := hL.call hb
  clear hb
  refine ⟨_, rfl, fun a22 HH => ?_⟩
  have H22 := HH [(30, _), (3, _), (1, _)] (.cons rfl (.cons rfl (.cons rfl .nil)))
  clear HH H21
  refine h_op (m' := [(4, _), (3, _), (1, _)]) H22 rfl (wn rfl) (R_as H22 rfl rfl) rfl (.cons rfl (.cons rfl (.cons rfl .nil))) fun a23 H23 => ?_
  clear H22
  refine h_end ?_
  repeat (go_not_at_region 7; go_step)
  cases hsm : sameB m (onlyM m)
  · have hw := right_other fa ka ia ⟨by omega, by omega⟩ hsm
    refine wp_region_lit ?_
    refine h_op (m' := [(31, _), (4, _), (3, _), (1, _)]) H23 rfl (wn rfl) (R_ld H23 rfl rfl (ld_row hL.tail.at_)) rfl (.cons rfl (.cons rfl (.cons rfl (.cons rfl .nil)))) fun a24 H24 => ?_
    clear H23
    refine h_op (m' := [(32, _), (31, _), (4, _), (3, _), (1, _)]) H24 rfl (wn rfl) (R_ld H24 rfl rfl (ld_row hL.at_)) rfl (.cons rfl (.cons rfl (.cons rfl (.cons rfl (.cons rfl .nil))))) fun a25 H25 => ?_
    clear H24
    refine h_call H25 rfl (wn rfl) (R_call2 H25 rfl rfl rfl (fun w => by simp [go_sem])) rfl ?_
    refine (Same_any (K1 hL.1) (K2 hL.1) (ho' _ (K1 hL.1)) (hs' _ (K2 hL.1)) l1 l2 (by omega) (by omega)).mono ?_
    rintro e w26 ⟨rfl, hb⟩
    replace hL := hL.call hb
    clear hb
    rw [hsm]
    refine ⟨_, rfl, fun a26 HH => ?_⟩
    have H26 := HH [(33, _), (4, _), (3, _), (1, _)] (.cons rfl (.cons rfl (.cons rfl (.cons rfl .nil))))
    clear HH H25
    refine h_op (m' := [(34, _), (4, _), (3, _), (1, _)]) H26 rfl (wn rfl) (R_not H26 rfl rfl) rfl (.cons rfl (.cons rfl (.cons rfl (.cons rfl .nil)))) fun a27 H27 => ?_
    clear H26
    refine h_op (m' := [(35, _), (4, _), (3, _), (1, _)]) H27 rfl (wn rfl) (R_mv H27 rfl rfl) rfl (.cons rfl (.cons rfl (.cons rfl (.cons rfl .nil)))) fun a28 H28 => ?_
    clear H27
    refine h_op (m' := [(36, _), (35, _), (4, _), (3, _)]) H28 rfl (H28.wt rfl rfl rfl) (R_ld H28 rfl rfl (ld_row hL.tail.at_)) rfl (.cons rfl (.cons rfl (.cons rfl (.cons rfl .nil)))) fun a29 H29 => ?_
    clear H28
    refine h_call H29 rfl (H29.wt rfl rfl rfl) (R_call1 H29 rfl rfl (fun w => by simp [go_sem])) rfl ?_
    refine (Right_any fa ka ia (K1 hL.1) (K2 hL.1) lo ls).mono ?_
    rintro e w30 ⟨rfl, hb⟩
    replace hL := hL.call hb
    clear hb
    rw [hw]
    refine ⟨_, rfl, fun a30 HH => ?_⟩
    have H30 := HH [(37, _), (35, _), (4, _), (3, _)] (.cons rfl (.cons rfl (.cons rfl (.cons rfl .nil))))
    clear HH H29
    refine h_op (m' := [(38, _), (35, _), (4, _), (3, _)]) H30 rfl (H30.wt rfl rfl rfl) (R_bin H30 rfl rfl rfl (B_ne Try.underlying33 _ _)) rfl (.cons rfl (.cons rfl (.cons rfl (.cons rfl .nil)))) fun a31 H31 => ?_
    clear H30
    refine h_op (m' := [(39, _), (4, _), (3, _)]) H31 rfl (wn rfl) (R_pick H31 rfl rfl rfl) rfl (.cons rfl (.cons rfl (.cons rfl .nil))) fun a32 H32 => ?_
    clear H31
    refine h_end ?_
    repeat (go_not_at_region 9; go_step)
    refine wp_cond_false (H32.ev (x := .tmp 39) rfl) ?_
    repeat (go_not_at_region 9; go_step)
    refine wp_region_lit ?_
    refine h_op (m' := [(40, _), (3, _)]) H32 rfl (wn rfl) (R_mv H32 rfl rfl) rfl (.cons rfl (.cons rfl .nil)) fun a33 H33 => ?_
    clear H32
    refine h_op (m' := [(41, _), (40, _)]) H33 rfl (wn rfl) (R_ld H33 rfl rfl (ld_row hL.at_)) rfl (.cons rfl (.cons rfl .nil)) fun a34 H34 => ?_
    clear H33
    refine h_call H34 rfl (wn rfl) (R_call1 H34 rfl rfl (fun w => by simp [go_sem])) rfl ?_
    refine (refRight_any (ho' _ (K1 hL.1)) (hs' _ (K2 hL.1)) (by omega) (by omega)).mono ?_
    rintro e w35 ⟨rfl, hb⟩
    replace hL := hL.call hb
    clear hb
    refine ⟨_, rfl, fun a35 HH => ?_⟩
    have H35 := HH [(42, _), (40, _)] (.cons rfl (.cons rfl .nil))
    clear HH H34
    refine h_op (m' := [(43, _)]) H35 rfl (wn rfl) (R_bin H35 rfl rfl rfl (B_to (y := true) (B_eq Try.underlying3 _ _) (beq_iff_eq.2 (right_doc fo ko io)))) rfl (.cons rfl .nil) fun a36 H36 => ?_
    clear H35
    refine h_op (m' := [(2, _)]) H36 rfl (wn rfl) (R_as H36 rfl rfl) rfl (.cons rfl .nil) fun a37 H37 => ?_
    clear H36
    refine h_end ?_
    repeat (go_not_at_region 999; go_step)
    exact H37.ret1 (v := .bool true) rfl rfl ⟨rfl, hL.1⟩
  · refine wp_region_lit ?_
    refine h_op (m' := [(31, _), (4, _), (3, _), (1, _)]) H23 rfl (wn rfl) (R_ld H23 rfl rfl (ld_row hL.tail.at_)) rfl (.cons rfl (.cons rfl (.cons rfl (.cons rfl .nil)))) fun a24 H24 => ?_
    clear H23
    refine h_op (m' := [(32, _), (31, _), (4, _), (3, _), (1, _)]) H24 rfl (wn rfl) (R_ld H24 rfl rfl (ld_row hL.at_)) rfl (.cons rfl (.cons rfl (.cons rfl (.cons rfl (.cons rfl .nil))))) fun a25 H25 => ?_
    clear H24
    refine h_call H25 rfl (wn rfl) (R_call2 H25 rfl rfl rfl (fun w => by simp [go_sem])) rfl ?_
    refine (Same_any (K1 hL.1) (K2 hL.1) (ho' _ (K1 hL.1)) (hs' _ (K2 hL.1)) l1 l2 (by omega) (by omega)).mono ?_
    rintro e w26 ⟨rfl, hb⟩
    replace hL := hL.call hb
    clear hb
    rw [hsm]
    refine ⟨_, rfl, fun a26 HH => ?_⟩
    have H26 := HH [(33, _), (4, _), (3, _), (1, _)] (.cons rfl (.cons rfl (.cons rfl (.cons rfl .nil))))
    clear HH H25
    refine h_op (m' := [(34, _), (4, _), (3, _), (1, _)]) H26 rfl (wn rfl) (R_not H26 rfl rfl) rfl (.cons rfl (.cons rfl (.cons rfl (.cons rfl .nil)))) fun a27 H27 => ?_
    clear H26
    refine h_op (m' := [(35, _), (4, _), (3, _), (1, _)]) H27 rfl (wn rfl) (R_mv H27 rfl rfl) rfl (.cons rfl (.cons rfl (.cons rfl (.cons rfl .nil)))) fun a28 H28 => ?_
    clear H27
    refine h_skip (m' := [(35, _), (4, _), (3, _)]) H28 rfl (H28.wf rfl rfl rfl) rfl (.cons rfl (.cons rfl (.cons rfl .nil))) fun a29 H29 => ?_
    clear H28
    refine h_skip (m' := [(35, _), (4, _), (3, _)]) H29 rfl (H29.wf rfl rfl rfl) rfl (.cons rfl (.cons rfl (.cons rfl .nil))) fun a30 H30 => ?_
    clear H29
    refine h_skip (m' := [(35, _), (4, _), (3, _)]) H30 rfl (H30.wf rfl rfl rfl) rfl (.cons rfl (.cons rfl (.cons rfl .nil))) fun a31 H31 => ?_
    clear H30
    refine h_op (m' := [(39, _), (4, _), (3, _)]) H31 rfl (wn rfl) (R_pick H31 rfl rfl rfl) rfl (.cons rfl (.cons rfl (.cons rfl .nil))) fun a32 H32 => ?_
    clear H31
    refine h_end ?_
    repeat (go_not_at_region 9; go_step)
    refine wp_cond_false (H32.ev (x := .tmp 39) rfl) ?_
    repeat (go_not_at_region 9; go_step)
    refine wp_region_lit ?_
    refine h_op (m' := [(40, _), (3, _)]) H32 rfl (wn rfl) (R_mv H32 rfl rfl) rfl (.cons rfl (.cons rfl .nil)) fun a33 H33 => ?_
    clear H32
    refine h_op (m' := [(41, _), (40, _)]) H33 rfl (wn rfl) (R_ld H33 rfl rfl (ld_row hL.at_)) rfl (.cons rfl (.cons rfl .nil)) fun a34 H34 => ?_
    clear H33
    refine h_call H34 rfl (wn rfl) (R_call1 H34 rfl rfl (fun w => by simp [go_sem])) rfl ?_
    refine (refRight_any (ho' _ (K1 hL.1)) (hs' _ (K2 hL.1)) (by omega) (by omega)).mono ?_
    rintro e w35 ⟨rfl, hb⟩
    replace hL := hL.call hb
    clear hb
    refine ⟨_, rfl, fun a35 HH => ?_⟩
    have H35 := HH [(42, _), (40, _)] (.cons rfl (.cons rfl .nil))
    clear HH H34
    refine h_op (m' := [(43, _)]) H35 rfl (wn rfl) (R_bin H35 rfl rfl rfl (B_to (y := true) (B_eq Try.underlying3 _ _) (beq_iff_eq.2 (right_doc fo ko io)))) rfl (.cons rfl .nil) fun a36 H36 => ?_
    clear H35
    refine h_op (m' := [(2, _)]) H36 rfl (wn rfl) (R_as H36 rfl rfl) rfl (.cons rfl .nil) fun a37 H37 => ?_
    clear H36
    refine h_end ?_
    repeat (go_not_at_region 999; go_step)
    exact H37.ret1 (v := .bool true) rfl rfl ⟨rfl, hL.1⟩
end
end Go.Proofs.Ytmmhchpilcjflaa
