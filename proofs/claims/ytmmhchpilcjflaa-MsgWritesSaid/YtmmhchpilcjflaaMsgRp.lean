/-
  meterref04.Only: the other kinds; whatever kind.
-/
import Derived.Test.YtmmhchpilcjflaaMsgRo
set_option linter.unusedSimpArgs false
set_option linter.unusedVariables false
namespace Go.Proofs.Ytmmhchpilcjflaa
open Go.RowKit

section
variable {W : World} {m : PMsg} {vo vs : Value}
set_option maxRecDepth 100000 in
set_option maxHeartbeats 4000000 in
theorem only_7 (hc : m.kind = 7) (ho : Rd W vo m.owner) (hs : Rd W vs m.set) : Calls Try.prog 18 #[.agg (mcells m vo vs)] W fun e W' => ∃ vo' vs', e = .returned (.agg (mcells (onlyM m) vo' vs')) ∧ (∀ w, Rd w vo m.owner → Rd w vo' (onlyM m).owner) ∧ (∀ w, Rd w vs m.set → Rd w vs' (onlyM m).set) ∧ Below W.heap.size W W' := by
  have hL := Live.init W
  obtain ⟨A1, c1, rfl⟩ := ho.slc
  obtain ⟨A2, c2, rfl⟩ := hs.slc
  go_enter Try.func18, Try.ntmps18
  refine wp_fr (n := 110) (m := [(0, _)]) ⟨rfl, rfl, by intro p hp; simp only [List.mem_cons, List.not_mem_nil, or_false] at hp; rcases hp with rfl <;> rfl⟩ fun a0 H0 => ?_
  repeat (go_not_at_region 0; go_step)
  refine wp_region_lit ?_
  refine h_opL [(W.heap.size, mcells m (.slice A1 m.owner.length c1) (.slice A2 m.set.length c2), 29)] (m' := [(1, _)]) H0 rfl (wn rfl) (R_box H0 rfl rfl bx_row) (hL.alloc _ _) rfl (.cons rfl .nil) fun a1 w1 H1 hL' => ?_
  replace hL := hL'
  clear H0 hL'
  refine h_opL [(w1.heap.size, zcells, 29), (W.heap.size, mcells m (.slice A1 m.owner.length c1) (.slice A2 m.set.length c2), 29)] (m' := [(2, _), (1, _)]) H1 rfl (wn rfl) (R_alloc rfl al_row) (hL.alloc _ _) rfl (.cons rfl (.cons rfl .nil)) fun a2 w2 H2 hL' => ?_
  replace hL := hL'
  clear H1 hL'
  refine h_end ?_
  repeat (go_not_at_region 1; go_step)
  refine wp_region_lit ?_
  refine h_op (m' := [(5, _), (2, _), (1, _)]) H2 rfl (wn rfl) (R_fa H2 rfl rfl (fa29_0 _ _)) rfl (.cons rfl (.cons rfl (.cons rfl .nil))) fun a3 H3 => ?_
  clear H2
  refine h_op (m' := [(6, _), (2, _), (1, _)]) H3 rfl (wn rfl) (R_ld H3 rfl rfl (ld_u8k (hL.cl (g := W.heap.size) (A := mcells m (.slice A1 m.owner.length c1) (.slice A2 m.set.length c2)) (t := 29) (by simp) 0) hc)) rfl (.cons rfl (.cons rfl (.cons rfl .nil))) fun a4 H4 => ?_
  clear H3
  refine h_op (m' := [(7, _), (2, _), (1, _)]) H4 rfl (wn rfl) (R_bd1 H4 rfl rfl bd_kind) rfl (.cons rfl (.cons rfl (.cons rfl .nil))) fun a5 H5 => ?_
  clear H4
  refine h_opL [(w2.heap.size, zcells, 29), (w1.heap.size, zcells, 29), (W.heap.size, mcells m (.slice A1 m.owner.length c1) (.slice A2 m.set.length c2), 29)] (m' := [(3, _), (7, _), (2, _), (1, _)]) H5 rfl (wn rfl) (R_alloc rfl al_row) (hL.alloc _ _) rfl (.cons rfl (.cons rfl (.cons rfl (.cons rfl .nil)))) fun a6 w6 H6 hL' => ?_
  replace hL := hL'
  clear H5 hL'
  refine h_stL [(w2.heap.size, mcells { PMsg.zero with kind := 7 } (.slice none 0 0) (.slice none 0 0), 29), (w1.heap.size, zcells, 29), (W.heap.size, mcells m (.slice A1 m.owner.length c1) (.slice A2 m.set.length c2), 29)] H6 rfl (wn rfl) (R_st H6 rfl rfl rfl (st_row (m2 := .zero) (vo2 := .slice none 0 0) (vs2 := .slice none 0 0) hL.at_ (mcells_one rfl rfl))) (hL.row _) fun a7 w7 H7 hL' => ?_
  replace hL := hL'
  clear H6 hL'
  refine h_end ?_
  repeat (go_not_at_region 2; go_step)
  refine wp_region_lit ?_
  refine h_op (m' := [(8, _), (3, _), (2, _), (1, _)]) H7 rfl (wn rfl) (R_fa H7 rfl rfl (fa29_0 _ _)) rfl (.cons rfl (.cons rfl (.cons rfl (.cons rfl .nil)))) fun a8 H8 => ?_
  clear H7
  refine h_op (m' := [(9, _), (3, _), (2, _), (1, _)]) H8 rfl (wn rfl) (R_ld H8 rfl rfl (ld_u8k (hL.cl (g := W.heap.size) (A := mcells m (.slice A1 m.owner.length c1) (.slice A2 m.set.length c2)) (t := 29) (by simp) 0) hc)) rfl (.cons rfl (.cons rfl (.cons rfl (.cons rfl .nil)))) fun a9 H9 => ?_
  clear H8
  refine h_op (m' := [(10, _), (3, _), (2, _), (1, _)]) H9 rfl (wn rfl) (R_bin H9 rfl rfl rfl (B_to (y := true) (B8_ge _ _) (by decide))) rfl (.cons rfl (.cons rfl (.cons rfl (.cons rfl .nil)))) fun a10 H10 => ?_
  clear H9
  refine h_op (m' := [(11, _), (3, _), (2, _), (1, _)]) H10 rfl (wn rfl) (R_mv H10 rfl rfl) rfl (.cons rfl (.cons rfl (.cons rfl (.cons rfl .nil)))) fun a11 H11 => ?_
  clear H10
  refine h_op (m' := [(12, _), (11, _), (3, _), (2, _), (1, _)]) H11 rfl (H11.wt rfl rfl rfl) (R_fa H11 rfl rfl (fa29_0 _ _)) rfl (.cons rfl (.cons rfl (.cons rfl (.cons rfl (.cons rfl .nil))))) fun a12 H12 => ?_
  clear H11
  refine h_op (m' := [(13, _), (11, _), (3, _), (2, _), (1, _)]) H12 rfl (H12.wt rfl rfl rfl) (R_ld H12 rfl rfl (ld_u8k (hL.cl (g := W.heap.size) (A := mcells m (.slice A1 m.owner.length c1) (.slice A2 m.set.length c2)) (t := 29) (by simp) 0) hc)) rfl (.cons rfl (.cons rfl (.cons rfl (.cons rfl (.cons rfl .nil))))) fun a13 H13 => ?_
  clear H12
  refine h_op (m' := [(14, _), (11, _), (3, _), (2, _), (1, _)]) H13 rfl (H13.wt rfl rfl rfl) (R_bin H13 rfl rfl rfl (B_to (y := true) (B8_le _ _) (by decide))) rfl (.cons rfl (.cons rfl (.cons rfl (.cons rfl (.cons rfl .nil))))) fun a14 H14 => ?_
  clear H13
  refine h_op (m' := [(15, _), (3, _), (2, _), (1, _)]) H14 rfl (wn rfl) (R_pick H14 rfl rfl rfl) rfl (.cons rfl (.cons rfl (.cons rfl (.cons rfl .nil)))) fun a15 H15 => ?_
  clear H14
  refine h_end ?_
  repeat (go_not_at_region 3; go_step)
  refine wp_cond_true (H15.ev (x := .tmp 15) rfl) ?_
  repeat (go_not_at_region 3; go_step)
  refine wp_region_lit ?_
  refine h_op (m' := [(16, _), (3, _), (2, _), (1, _)]) H15 rfl (wn rfl) (R_fa H15 rfl rfl (fa29_1 _ _)) rfl (.cons rfl (.cons rfl (.cons rfl (.cons rfl .nil)))) fun a16 H16 => ?_
  clear H15
  refine h_op (m' := [(17, _), (3, _), (2, _), (1, _)]) H16 rfl (wn rfl) (R_ld H16 rfl rfl (ld_int (hL.cl (g := W.heap.size) (A := mcells m (.slice A1 m.owner.length c1) (.slice A2 m.set.length c2)) (t := 29) (by simp) 1))) rfl (.cons rfl (.cons rfl (.cons rfl (.cons rfl .nil)))) fun a17 H17 => ?_
  clear H16
  refine h_op (m' := [(18, _), (17, _), (3, _), (2, _), (1, _)]) H17 rfl (wn rfl) (R_fa H17 rfl rfl (fa29_1 _ _)) rfl (.cons rfl (.cons rfl (.cons rfl (.cons rfl (.cons rfl .nil))))) fun a18 H18 => ?_
  clear H17
  refine h_stL [(w2.heap.size, mcells { PMsg.zero with kind := 7, move := m.move } (.slice none 0 0) (.slice none 0 0), 29), (w1.heap.size, zcells, 29), (W.heap.size, mcells m (.slice A1 m.owner.length c1) (.slice A2 m.set.length c2), 29)] H18 rfl (wn rfl) (R_st H18 rfl rfl rfl (st_int hL rfl)) (hL.put 1 _) fun a19 w19 H19 hL' => ?_
  replace hL := hL'
  clear H18 hL'
  refine h_end ?_
  repeat (go_not_at_region 4; go_step)
  refine wp_region_lit ?_
  refine h_op (m' := [(19, _), (3, _), (2, _), (1, _)]) H19 rfl (wn rfl) (R_fa H19 rfl rfl (fa29_2 _ _)) rfl (.cons rfl (.cons rfl (.cons rfl (.cons rfl .nil)))) fun a20 H20 => ?_
  clear H19
  refine h_op (m' := [(20, _), (3, _), (2, _), (1, _)]) H20 rfl (wn rfl) (R_ld H20 rfl rfl (ld_int (hL.cl (g := W.heap.size) (A := mcells m (.slice A1 m.owner.length c1) (.slice A2 m.set.length c2)) (t := 29) (by simp) 2))) rfl (.cons rfl (.cons rfl (.cons rfl (.cons rfl .nil)))) fun a21 H21 => ?_
  clear H20
  refine h_op (m' := [(21, _), (20, _), (3, _), (2, _), (1, _)]) H21 rfl (wn rfl) (R_fa H21 rfl rfl (fa29_2 _ _)) rfl (.cons rfl (.cons rfl (.cons rfl (.cons rfl (.cons rfl .nil))))) fun a22 H22 => ?_
  clear H21
  refine h_stL [(w2.heap.size, mcells { PMsg.zero with kind := 7, move := m.move, part := m.part } (.slice none 0 0) (.slice none 0 0), 29), (w1.heap.size, zcells, 29), (W.heap.size, mcells m (.slice A1 m.owner.length c1) (.slice A2 m.set.length c2), 29)] H22 rfl (wn rfl) (R_st H22 rfl rfl rfl (st_int hL rfl)) (hL.put 2 _) fun a23 w23 H23 hL' => ?_
  replace hL := hL'
  clear H22 hL'
  refine h_end ?_
  repeat (go_not_at_region 5; go_step)
  refine wp_region_lit ?_
  refine h_op (m' := [(22, _), (3, _), (2, _), (1, _)]) H23 rfl (wn rfl) (R_fa H23 rfl rfl (fa29_9 _ _)) rfl (.cons rfl (.cons rfl (.cons rfl (.cons rfl .nil)))) fun a24 H24 => ?_
  clear H23
  refine h_op (m' := [(23, _), (3, _), (2, _), (1, _)]) H24 rfl (wn rfl) (R_fa H24 rfl rfl (fa24_0 _ _)) rfl (.cons rfl (.cons rfl (.cons rfl (.cons rfl .nil)))) fun a25 H25 => ?_
  clear H24
  refine h_op (m' := [(24, _), (3, _), (2, _), (1, _)]) H25 rfl (wn rfl) (R_ld H25 rfl rfl (ld_int (hL.cl (g := W.heap.size) (A := mcells m (.slice A1 m.owner.length c1) (.slice A2 m.set.length c2)) (t := 29) (by simp) 9))) rfl (.cons rfl (.cons rfl (.cons rfl (.cons rfl .nil)))) fun a26 H26 => ?_
  clear H25
  refine h_op (m' := [(25, _), (24, _), (3, _), (2, _), (1, _)]) H26 rfl (wn rfl) (R_fa H26 rfl rfl (fa29_9 _ _)) rfl (.cons rfl (.cons rfl (.cons rfl (.cons rfl (.cons rfl .nil))))) fun a27 H27 => ?_
  clear H26
  refine h_op (m' := [(26, _), (24, _), (3, _), (2, _), (1, _)]) H27 rfl (wn rfl) (R_fa H27 rfl rfl (fa24_1 _ _)) rfl (.cons rfl (.cons rfl (.cons rfl (.cons rfl (.cons rfl .nil))))) fun a28 H28 => ?_
  clear H27
  refine h_op (m' := [(27, _), (24, _), (3, _), (2, _), (1, _)]) H28 rfl (wn rfl) (R_ld H28 rfl rfl (ld_int (hL.cl (g := W.heap.size) (A := mcells m (.slice A1 m.owner.length c1) (.slice A2 m.set.length c2)) (t := 29) (by simp) 10))) rfl (.cons rfl (.cons rfl (.cons rfl (.cons rfl (.cons rfl .nil))))) fun a29 H29 => ?_
  clear H28
  refine h_op (m' := [(28, _), (3, _), (2, _), (1, _)]) H29 rfl (wn rfl) (R_bd2 H29 rfl rfl rfl bd_short) rfl (.cons rfl (.cons rfl (.cons rfl (.cons rfl .nil)))) fun a30 H30 => ?_
  clear H29
  refine h_opL ((w23.heap.size, #[.int .i64 0, .int .i64 0, .int .i64 0, .int .u8 0, .string .empty, .int .i64 0, .int .i64 0, .int .i64 0], 24) :: [(w2.heap.size, mcells { PMsg.zero with kind := 7, move := m.move, part := m.part } (.slice none 0 0) (.slice none 0 0), 29), (w1.heap.size, zcells, 29), (W.heap.size, mcells m (.slice A1 m.owner.length c1) (.slice A2 m.set.length c2), 29)]) (m' := [(4, _), (28, _), (3, _), (2, _), (1, _)]) H30 rfl (wn rfl) (R_alloc rfl al_item) (hL.alloc _ _) rfl (.cons rfl (.cons rfl (.cons rfl (.cons rfl (.cons rfl .nil))))) fun a31 w31 H31 hL' => ?_
  replace hL := hL'
  clear H30 hL'
  refine h_stL [(w2.heap.size, mcells { PMsg.zero with kind := 7, move := m.move, part := m.part } (.slice none 0 0) (.slice none 0 0), 29), (w23.heap.size, #[.int .i64 m.isrc, .int .i64 m.iseq, .int .i64 0, .int .u8 0, .string .empty, .int .i64 0, .int .i64 0, .int .i64 0], 24), (w1.heap.size, zcells, 29), (W.heap.size, mcells m (.slice A1 m.owner.length c1) (.slice A2 m.set.length c2), 29)] H31 rfl (wn rfl) (R_st H31 rfl rfl rfl (st_short hL)) ((hL.row #[.int .i64 m.isrc, .int .i64 m.iseq, .int .i64 0, .int .u8 0, .string .empty, .int .i64 0, .int .i64 0, .int .i64 0]).swap) fun a32 w32 H32 hL' => ?_
  replace hL := hL'
  clear H31 hL'
  refine h_end ?_
  repeat (go_not_at_region 6; go_step)
  refine wp_region_lit ?_
  refine h_op (m' := [(29, _), (4, _), (3, _), (2, _), (1, _)]) H32 rfl (wn rfl) (R_fa H32 rfl rfl (fa29_0 _ _)) rfl (.cons rfl (.cons rfl (.cons rfl (.cons rfl (.cons rfl .nil))))) fun a33 H33 => ?_
  clear H32
  refine h_op (m' := [(30, _), (4, _), (3, _), (2, _), (1, _)]) H33 rfl (wn rfl) (R_ld H33 rfl rfl (ld_u8k (hL.cl (g := W.heap.size) (A := mcells m (.slice A1 m.owner.length c1) (.slice A2 m.set.length c2)) (t := 29) (by simp) 0) hc)) rfl (.cons rfl (.cons rfl (.cons rfl (.cons rfl (.cons rfl .nil))))) fun a34 H34 => ?_
  clear H33
  refine h_end ?_
  repeat (go_not_at_region 7; go_step)
  refine wp_region_lit ?_
  refine h_op (m' := [(32, _), (30, _), (4, _), (3, _), (2, _), (1, _)]) H34 rfl (wn rfl) (R_bin H34 rfl rfl rfl (B_to (y := false) (B8_eq _ _) (by decide))) rfl (.cons rfl (.cons rfl (.cons rfl (.cons rfl (.cons rfl (.cons rfl .nil)))))) fun a35 H35 => ?_
  clear H34
  refine h_op (m' := [(31, _), (30, _), (4, _), (3, _), (2, _), (1, _)]) H35 rfl (wn rfl) (R_as H35 rfl rfl) rfl (.cons rfl (.cons rfl (.cons rfl (.cons rfl (.cons rfl (.cons rfl .nil)))))) fun a36 H36 => ?_
  clear H35
  refine h_end ?_
  repeat (go_not_at_region 9; go_step)
  refine wp_cond_false (H36.ev (x := .tmp 31) rfl) ?_
  repeat (go_not_at_region 9; go_step)
  repeat (go_not_at_region 9; go_step)
  refine wp_region_lit ?_
  refine h_op (m' := [(37, _), (30, _), (4, _), (3, _), (2, _), (1, _)]) H36 rfl (wn rfl) (R_bin H36 rfl rfl rfl (B_to (y := false) (B8_eq _ _) (by decide))) rfl (.cons rfl (.cons rfl (.cons rfl (.cons rfl (.cons rfl (.cons rfl .nil)))))) fun a37 H37 => ?_
  clear H36
  refine h_op (m' := [(36, _), (30, _), (4, _), (3, _), (2, _), (1, _)]) H37 rfl (wn rfl) (R_as H37 rfl rfl) rfl (.cons rfl (.cons rfl (.cons rfl (.cons rfl (.cons rfl (.cons rfl .nil)))))) fun a38 H38 => ?_
  clear H37
  refine h_end ?_
  repeat (go_not_at_region 12; go_step)
  refine wp_cond_false (H38.ev (x := .tmp 36) rfl) ?_
  repeat (go_not_at_region 12; go_step)
  repeat (go_not_at_region 12; go_step)
  refine wp_region_lit ?_
  refine h_op (m' := [(44, _), (30, _), (4, _), (3, _), (2, _), (1, _)]) H38 rfl (wn rfl) (R_bin H38 rfl rfl rfl (B_to (y := false) (B8_eq _ _) (by decide))) rfl (.cons rfl (.cons rfl (.cons rfl (.cons rfl (.cons rfl (.cons rfl .nil)))))) fun a39 H39 => ?_
  clear H38
  refine h_op (m' := [(43, _), (30, _), (4, _), (3, _), (2, _), (1, _)]) H39 rfl (wn rfl) (R_as H39 rfl rfl) rfl (.cons rfl (.cons rfl (.cons rfl (.cons rfl (.cons rfl (.cons rfl .nil)))))) fun a40 H40 => ?_
  clear H39
  refine h_end ?_
  repeat (go_not_at_region 15; go_step)
  refine wp_cond_false (H40.ev (x := .tmp 43) rfl) ?_
  repeat (go_not_at_region 15; go_step)
  repeat (go_not_at_region 15; go_step)
  refine wp_region_lit ?_
  refine h_op (m' := [(51, _), (30, _), (4, _), (3, _), (2, _), (1, _)]) H40 rfl (wn rfl) (R_bin H40 rfl rfl rfl (B_to (y := false) (B8_eq _ _) (by decide))) rfl (.cons rfl (.cons rfl (.cons rfl (.cons rfl (.cons rfl (.cons rfl .nil)))))) fun a41 H41 => ?_
  clear H40
  refine h_op (m' := [(50, _), (30, _), (4, _), (3, _), (2, _), (1, _)]) H41 rfl (wn rfl) (R_as H41 rfl rfl) rfl (.cons rfl (.cons rfl (.cons rfl (.cons rfl (.cons rfl (.cons rfl .nil)))))) fun a42 H42 => ?_
  clear H41
  refine h_end ?_
  repeat (go_not_at_region 17; go_step)
  refine wp_cond_false (H42.ev (x := .tmp 50) rfl) ?_
  repeat (go_not_at_region 17; go_step)
  repeat (go_not_at_region 17; go_step)
  refine wp_region_lit ?_
  refine h_op (m' := [(56, _), (30, _), (4, _), (3, _), (2, _), (1, _)]) H42 rfl (wn rfl) (R_bin H42 rfl rfl rfl (B_to (y := false) (B8_eq _ _) (by decide))) rfl (.cons rfl (.cons rfl (.cons rfl (.cons rfl (.cons rfl (.cons rfl .nil)))))) fun a43 H43 => ?_
  clear H42
  refine h_op (m' := [(55, _), (30, _), (4, _), (3, _), (2, _), (1, _)]) H43 rfl (wn rfl) (R_as H43 rfl rfl) rfl (.cons rfl (.cons rfl (.cons rfl (.cons rfl (.cons rfl (.cons rfl .nil)))))) fun a44 H44 => ?_
  clear H43
  refine h_end ?_
  repeat (go_not_at_region 21; go_step)
  refine wp_cond_false (H44.ev (x := .tmp 55) rfl) ?_
  repeat (go_not_at_region 21; go_step)
  repeat (go_not_at_region 21; go_step)
  refine wp_region_lit ?_
  refine h_op (m' := [(67, _), (30, _), (4, _), (3, _), (2, _), (1, _)]) H44 rfl (wn rfl) (R_bin H44 rfl rfl rfl (B_to (y := false) (B8_eq _ _) (by decide))) rfl (.cons rfl (.cons rfl (.cons rfl (.cons rfl (.cons rfl (.cons rfl .nil)))))) fun a45 H45 => ?_
  clear H44
  refine h_op (m' := [(66, _), (30, _), (4, _), (3, _), (2, _), (1, _)]) H45 rfl (wn rfl) (R_as H45 rfl rfl) rfl (.cons rfl (.cons rfl (.cons rfl (.cons rfl (.cons rfl (.cons rfl .nil)))))) fun a46 H46 => ?_
  clear H45
  refine h_end ?_
  repeat (go_not_at_region 24; go_step)
  refine wp_cond_false (H46.ev (x := .tmp 66) rfl) ?_
  repeat (go_not_at_region 24; go_step)
  repeat (go_not_at_region 24; go_step)
  refine wp_region_lit ?_
  refine h_op (m' := [(75, _), (30, _), (4, _), (3, _), (2, _), (1, _)]) H46 rfl (wn rfl) (R_bin H46 rfl rfl rfl (B_to (y := true) (B8_eq _ _) (by decide))) rfl (.cons rfl (.cons rfl (.cons rfl (.cons rfl (.cons rfl (.cons rfl .nil)))))) fun a47 H47 => ?_
  clear H46
  refine h_op (m' := [(74, _), (30, _), (4, _), (3, _), (2, _), (1, _)]) H47 rfl (wn rfl) (R_as H47 rfl rfl) rfl (.cons rfl (.cons rfl (.cons rfl (.cons rfl (.cons rfl (.cons rfl .nil)))))) fun a48 H48 => ?_
  clear H47
  refine h_end ?_
  repeat (go_not_at_region 25; go_step)
  refine wp_cond_true (H48.ev (x := .tmp 74) rfl) ?_
  repeat (go_not_at_region 25; go_step)
  refine wp_region_lit ?_
  refine h_op (m' := [(76, _), (30, _), (4, _), (3, _), (2, _), (1, _)]) H48 rfl (wn rfl) (R_fa H48 rfl rfl (fa29_4 _ _)) rfl (.cons rfl (.cons rfl (.cons rfl (.cons rfl (.cons rfl (.cons rfl .nil)))))) fun a49 H49 => ?_
  clear H48
  refine h_op (m' := [(77, _), (30, _), (4, _), (3, _), (2, _), (1, _)]) H49 rfl (wn rfl) (R_ld H49 rfl rfl (ld_int (hL.cl (g := W.heap.size) (A := mcells m (.slice A1 m.owner.length c1) (.slice A2 m.set.length c2)) (t := 29) (by simp) 4))) rfl (.cons rfl (.cons rfl (.cons rfl (.cons rfl (.cons rfl (.cons rfl .nil)))))) fun a50 H50 => ?_
  clear H49
  refine h_op (m' := [(78, _), (77, _), (30, _), (4, _), (3, _), (2, _), (1, _)]) H50 rfl (wn rfl) (R_fa H50 rfl rfl (fa29_4 _ _)) rfl (.cons rfl (.cons rfl (.cons rfl (.cons rfl (.cons rfl (.cons rfl (.cons rfl .nil))))))) fun a51 H51 => ?_
  clear H50
  refine h_stL [(w2.heap.size, mcells { PMsg.zero with kind := 7, move := m.move, part := m.part, n := m.n } (.slice none 0 0) (.slice none 0 0), 29), (w23.heap.size, #[.int .i64 m.isrc, .int .i64 m.iseq, .int .i64 0, .int .u8 0, .string .empty, .int .i64 0, .int .i64 0, .int .i64 0], 24), (w1.heap.size, zcells, 29), (W.heap.size, mcells m (.slice A1 m.owner.length c1) (.slice A2 m.set.length c2), 29)] H51 rfl (wn rfl) (R_st H51 rfl rfl rfl (st_int hL rfl)) (hL.put 4 _) fun a52 w52 H52 hL' => ?_
  replace hL := hL'
  clear H51 hL'
  refine h_end ?_
  repeat (go_not_at_region 26; go_step)
  refine wp_region_lit ?_
  refine h_op (m' := [(79, _), (30, _), (4, _), (3, _), (2, _), (1, _)]) H52 rfl (wn rfl) (R_fa H52 rfl rfl (fa29_9 _ _)) rfl (.cons rfl (.cons rfl (.cons rfl (.cons rfl (.cons rfl (.cons rfl .nil)))))) fun a53 H53 => ?_
  clear H52
  refine h_op (m' := [(80, _), (30, _), (4, _), (3, _), (2, _), (1, _)]) H53 rfl (wn rfl) (R_ld H53 rfl rfl (ld_item (hL.cl (g := W.heap.size) (A := mcells m (.slice A1 m.owner.length c1) (.slice A2 m.set.length c2)) (t := 29) (by simp) 9) (hL.cl (g := W.heap.size) (A := mcells m (.slice A1 m.owner.length c1) (.slice A2 m.set.length c2)) (t := 29) (by simp) 10) (hL.cl (g := W.heap.size) (A := mcells m (.slice A1 m.owner.length c1) (.slice A2 m.set.length c2)) (t := 29) (by simp) 11) (hL.cl (g := W.heap.size) (A := mcells m (.slice A1 m.owner.length c1) (.slice A2 m.set.length c2)) (t := 29) (by simp) 12) (hL.cl (g := W.heap.size) (A := mcells m (.slice A1 m.owner.length c1) (.slice A2 m.set.length c2)) (t := 29) (by simp) 13) (hL.cl (g := W.heap.size) (A := mcells m (.slice A1 m.owner.length c1) (.slice A2 m.set.length c2)) (t := 29) (by simp) 14) (hL.cl (g := W.heap.size) (A := mcells m (.slice A1 m.owner.length c1) (.slice A2 m.set.length c2)) (t := 29) (by simp) 15) (hL.cl (g := W.heap.size) (A := mcells m (.slice A1 m.owner.length c1) (.slice A2 m.set.length c2)) (t := 29) (by simp) 16))) rfl (.cons rfl (.cons rfl (.cons rfl (.cons rfl (.cons rfl (.cons rfl .nil)))))) fun a54 H54 => ?_
  clear H53
  refine h_op (m' := [(81, _), (80, _), (30, _), (4, _), (3, _), (2, _), (1, _)]) H54 rfl (wn rfl) (R_fa H54 rfl rfl (fa29_9 _ _)) rfl (.cons rfl (.cons rfl (.cons rfl (.cons rfl (.cons rfl (.cons rfl (.cons rfl .nil))))))) fun a55 H55 => ?_
  clear H54
  refine h_stL [(w2.heap.size, mcells { PMsg.zero with kind := 7, move := m.move, part := m.part, n := m.n, isrc := m.isrc, iseq := m.iseq, ilow := m.ilow, ikind := m.ikind, ikey := m.ikey, ipart := m.ipart, iat := m.iat, iN := m.iN } (.slice none 0 0) (.slice none 0 0), 29), (w23.heap.size, #[.int .i64 m.isrc, .int .i64 m.iseq, .int .i64 0, .int .u8 0, .string .empty, .int .i64 0, .int .i64 0, .int .i64 0], 24), (w1.heap.size, zcells, 29), (W.heap.size, mcells m (.slice A1 m.owner.length c1) (.slice A2 m.set.length c2), 29)] H55 rfl (wn rfl) (R_st H55 rfl rfl rfl (st_itemM hL)) (hL.itemM m.isrc m.iseq m.ilow m.ikind m.ikey m.ipart m.iat m.iN) fun a56 w56 H56 hL' => ?_
  replace hL := hL'
  clear H55 hL'
  refine h_end ?_
  repeat (go_not_at_region 38; go_step)
  refine wp_region_lit ?_
  refine h_op (m' := [(109, _), (2, _)]) H56 rfl (wn rfl) (R_ld H56 rfl rfl (ld_row hL.at_)) rfl (.cons rfl (.cons rfl .nil)) fun a57 H57 => ?_
  clear H56
  refine h_stL [(w1.heap.size, mcells { PMsg.zero with kind := 7, move := m.move, part := m.part, n := m.n, isrc := m.isrc, iseq := m.iseq, ilow := m.ilow, ikind := m.ikind, ikey := m.ikey, ipart := m.ipart, iat := m.iat, iN := m.iN } (.slice none 0 0) (.slice none 0 0), 29), (w2.heap.size, mcells { PMsg.zero with kind := 7, move := m.move, part := m.part, n := m.n, isrc := m.isrc, iseq := m.iseq, ilow := m.ilow, ikind := m.ikind, ikey := m.ikey, ipart := m.ipart, iat := m.iat, iN := m.iN } (.slice none 0 0) (.slice none 0 0), 29), (w23.heap.size, #[.int .i64 m.isrc, .int .i64 m.iseq, .int .i64 0, .int .u8 0, .string .empty, .int .i64 0, .int .i64 0, .int .i64 0], 24), (W.heap.size, mcells m (.slice A1 m.owner.length c1) (.slice A2 m.set.length c2), 29)] H57 rfl (wn rfl) (R_st H57 rfl rfl rfl (st_row (m2 := .zero) (vo2 := .slice none 0 0) (vs2 := .slice none 0 0) (hL.mem_at (by simp)) (mcells_one rfl rfl))) (hL.third.row _) fun a58 w58 H58 hL' => ?_
  replace hL := hL'
  clear H57 hL'
  refine h_end ?_
  repeat (go_not_at_region 999; go_step)
  have ho' : onlyM m = { PMsg.zero with kind := 7, move := m.move, part := m.part, n := m.n, isrc := m.isrc, iseq := m.iseq, ilow := m.ilow, ikind := m.ikind, ikey := m.ikey, ipart := m.ipart, iat := m.iat, iN := m.iN } := by
    unfold onlyM
    rw [hc]
    rfl
  refine bodyPost_ret (v := .agg (mcells { PMsg.zero with kind := 7, move := m.move, part := m.part, n := m.n, isrc := m.isrc, iseq := m.iseq, ilow := m.ilow, ikind := m.ikind, ikey := m.ikey, ipart := m.ipart, iat := m.iat, iN := m.iN } (.slice none 0 0) (.slice none 0 0))) (only_results (H58.getD rfl) hL.at_) H58.1 ⟨(.slice none 0 0), (.slice none 0 0), by rw [ho'], ?_, ?_, hL.1⟩
  · intro w h; rw [ho']; exact .inl ⟨rfl, rfl⟩
  · intro w h; rw [ho']; exact .inl ⟨rfl, rfl⟩
set_option maxRecDepth 100000 in
set_option maxHeartbeats 4000000 in
theorem only_8 (hc : m.kind = 8) (ho : Rd W vo m.owner) (hs : Rd W vs m.set) : Calls Try.prog 18 #[.agg (mcells m vo vs)] W fun e W' => ∃ vo' vs', e = .returned (.agg (mcells (onlyM m) vo' vs')) ∧ (∀ w, Rd w vo m.owner → Rd w vo' (onlyM m).owner) ∧ (∀ w, Rd w vs m.set → Rd w vs' (onlyM m).set) ∧ Below W.heap.size W W' := by
  have hL := Live.init W
  obtain ⟨A1, c1, rfl⟩ := ho.slc
  obtain ⟨A2, c2, rfl⟩ := hs.slc
  go_enter Try.func18, Try.ntmps18
  refine wp_fr (n := 110) (m := [(0, _)]) ⟨rfl, rfl, by intro p hp; simp only [List.mem_cons, List.not_mem_nil, or_false] at hp; rcases hp with rfl <;> rfl⟩ fun a0 H0 => ?_
  repeat (go_not_at_region 0; go_step)
  refine wp_region_lit ?_
  refine h_opL [(W.heap.size, mcells m (.slice A1 m.owner.length c1) (.slice A2 m.set.length c2), 29)] (m' := [(1, _)]) H0 rfl (wn rfl) (R_box H0 rfl rfl bx_row) (hL.alloc _ _) rfl (.cons rfl .nil) fun a1 w1 H1 hL' => ?_
  replace hL := hL'
  clear H0 hL'
  refine h_opL [(w1.heap.size, zcells, 29), (W.heap.size, mcells m (.slice A1 m.owner.length c1) (.slice A2 m.set.length c2), 29)] (m' := [(2, _), (1, _)]) H1 rfl (wn rfl) (R_alloc rfl al_row) (hL.alloc _ _) rfl (.cons rfl (.cons rfl .nil)) fun a2 w2 H2 hL' => ?_
  replace hL := hL'
  clear H1 hL'
  refine h_end ?_
  repeat (go_not_at_region 1; go_step)
  refine wp_region_lit ?_
  refine h_op (m' := [(5, _), (2, _), (1, _)]) H2 rfl (wn rfl) (R_fa H2 rfl rfl (fa29_0 _ _)) rfl (.cons rfl (.cons rfl (.cons rfl .nil))) fun a3 H3 => ?_
  clear H2
  refine h_op (m' := [(6, _), (2, _), (1, _)]) H3 rfl (wn rfl) (R_ld H3 rfl rfl (ld_u8k (hL.cl (g := W.heap.size) (A := mcells m (.slice A1 m.owner.length c1) (.slice A2 m.set.length c2)) (t := 29) (by simp) 0) hc)) rfl (.cons rfl (.cons rfl (.cons rfl .nil))) fun a4 H4 => ?_
  clear H3
  refine h_op (m' := [(7, _), (2, _), (1, _)]) H4 rfl (wn rfl) (R_bd1 H4 rfl rfl bd_kind) rfl (.cons rfl (.cons rfl (.cons rfl .nil))) fun a5 H5 => ?_
  clear H4
  refine h_opL [(w2.heap.size, zcells, 29), (w1.heap.size, zcells, 29), (W.heap.size, mcells m (.slice A1 m.owner.length c1) (.slice A2 m.set.length c2), 29)] (m' := [(3, _), (7, _), (2, _), (1, _)]) H5 rfl (wn rfl) (R_alloc rfl al_row) (hL.alloc _ _) rfl (.cons rfl (.cons rfl (.cons rfl (.cons rfl .nil)))) fun a6 w6 H6 hL' => ?_
  replace hL := hL'
  clear H5 hL'
  refine h_stL [(w2.heap.size, mcells { PMsg.zero with kind := 8 } (.slice none 0 0) (.slice none 0 0), 29), (w1.heap.size, zcells, 29), (W.heap.size, mcells m (.slice A1 m.owner.length c1) (.slice A2 m.set.length c2), 29)] H6 rfl (wn rfl) (R_st H6 rfl rfl rfl (st_row (m2 := .zero) (vo2 := .slice none 0 0) (vs2 := .slice none 0 0) hL.at_ (mcells_one rfl rfl))) (hL.row _) fun a7 w7 H7 hL' => ?_
  replace hL := hL'
  clear H6 hL'
  refine h_end ?_
  repeat (go_not_at_region 2; go_step)
  refine wp_region_lit ?_
  refine h_op (m' := [(8, _), (3, _), (2, _), (1, _)]) H7 rfl (wn rfl) (R_fa H7 rfl rfl (fa29_0 _ _)) rfl (.cons rfl (.cons rfl (.cons rfl (.cons rfl .nil)))) fun a8 H8 => ?_
  clear H7
  refine h_op (m' := [(9, _), (3, _), (2, _), (1, _)]) H8 rfl (wn rfl) (R_ld H8 rfl rfl (ld_u8k (hL.cl (g := W.heap.size) (A := mcells m (.slice A1 m.owner.length c1) (.slice A2 m.set.length c2)) (t := 29) (by simp) 0) hc)) rfl (.cons rfl (.cons rfl (.cons rfl (.cons rfl .nil)))) fun a9 H9 => ?_
  clear H8
  refine h_op (m' := [(10, _), (3, _), (2, _), (1, _)]) H9 rfl (wn rfl) (R_bin H9 rfl rfl rfl (B_to (y := true) (B8_ge _ _) (by decide))) rfl (.cons rfl (.cons rfl (.cons rfl (.cons rfl .nil)))) fun a10 H10 => ?_
  clear H9
  refine h_op (m' := [(11, _), (3, _), (2, _), (1, _)]) H10 rfl (wn rfl) (R_mv H10 rfl rfl) rfl (.cons rfl (.cons rfl (.cons rfl (.cons rfl .nil)))) fun a11 H11 => ?_
  clear H10
  refine h_op (m' := [(12, _), (11, _), (3, _), (2, _), (1, _)]) H11 rfl (H11.wt rfl rfl rfl) (R_fa H11 rfl rfl (fa29_0 _ _)) rfl (.cons rfl (.cons rfl (.cons rfl (.cons rfl (.cons rfl .nil))))) fun a12 H12 => ?_
  clear H11
  refine h_op (m' := [(13, _), (11, _), (3, _), (2, _), (1, _)]) H12 rfl (H12.wt rfl rfl rfl) (R_ld H12 rfl rfl (ld_u8k (hL.cl (g := W.heap.size) (A := mcells m (.slice A1 m.owner.length c1) (.slice A2 m.set.length c2)) (t := 29) (by simp) 0) hc)) rfl (.cons rfl (.cons rfl (.cons rfl (.cons rfl (.cons rfl .nil))))) fun a13 H13 => ?_
  clear H12
  refine h_op (m' := [(14, _), (11, _), (3, _), (2, _), (1, _)]) H13 rfl (H13.wt rfl rfl rfl) (R_bin H13 rfl rfl rfl (B_to (y := true) (B8_le _ _) (by decide))) rfl (.cons rfl (.cons rfl (.cons rfl (.cons rfl (.cons rfl .nil))))) fun a14 H14 => ?_
  clear H13
  refine h_op (m' := [(15, _), (3, _), (2, _), (1, _)]) H14 rfl (wn rfl) (R_pick H14 rfl rfl rfl) rfl (.cons rfl (.cons rfl (.cons rfl (.cons rfl .nil)))) fun a15 H15 => ?_
  clear H14
  refine h_end ?_
  repeat (go_not_at_region 3; go_step)
  refine wp_cond_true (H15.ev (x := .tmp 15) rfl) ?_
  repeat (go_not_at_region 3; go_step)
  refine wp_region_lit ?_
  refine h_op (m' := [(16, _), (3, _), (2, _), (1, _)]) H15 rfl (wn rfl) (R_fa H15 rfl rfl (fa29_1 _ _)) rfl (.cons rfl (.cons rfl (.cons rfl (.cons rfl .nil)))) fun a16 H16 => ?_
  clear H15
  refine h_op (m' := [(17, _), (3, _), (2, _), (1, _)]) H16 rfl (wn rfl) (R_ld H16 rfl rfl (ld_int (hL.cl (g := W.heap.size) (A := mcells m (.slice A1 m.owner.length c1) (.slice A2 m.set.length c2)) (t := 29) (by simp) 1))) rfl (.cons rfl (.cons rfl (.cons rfl (.cons rfl .nil)))) fun a17 H17 => ?_
  clear H16
  refine h_op (m' := [(18, _), (17, _), (3, _), (2, _), (1, _)]) H17 rfl (wn rfl) (R_fa H17 rfl rfl (fa29_1 _ _)) rfl (.cons rfl (.cons rfl (.cons rfl (.cons rfl (.cons rfl .nil))))) fun a18 H18 => ?_
  clear H17
  refine h_stL [(w2.heap.size, mcells { PMsg.zero with kind := 8, move := m.move } (.slice none 0 0) (.slice none 0 0), 29), (w1.heap.size, zcells, 29), (W.heap.size, mcells m (.slice A1 m.owner.length c1) (.slice A2 m.set.length c2), 29)] H18 rfl (wn rfl) (R_st H18 rfl rfl rfl (st_int hL rfl)) (hL.put 1 _) fun a19 w19 H19 hL' => ?_
  replace hL := hL'
  clear H18 hL'
  refine h_end ?_
  repeat (go_not_at_region 4; go_step)
  refine wp_region_lit ?_
  refine h_op (m' := [(19, _), (3, _), (2, _), (1, _)]) H19 rfl (wn rfl) (R_fa H19 rfl rfl (fa29_2 _ _)) rfl (.cons rfl (.cons rfl (.cons rfl (.cons rfl .nil)))) fun a20 H20 => ?_
  clear H19
  refine h_op (m' := [(20, _), (3, _), (2, _), (1, _)]) H20 rfl (wn rfl) (R_ld H20 rfl rfl (ld_int (hL.cl (g := W.heap.size) (A := mcells m (.slice A1 m.owner.length c1) (.slice A2 m.set.length c2)) (t := 29) (by simp) 2))) rfl (.cons rfl (.cons rfl (.cons rfl (.cons rfl .nil)))) fun a21 H21 => ?_
  clear H20
  refine h_op (m' := [(21, _), (20, _), (3, _), (2, _), (1, _)]) H21 rfl (wn rfl) (R_fa H21 rfl rfl (fa29_2 _ _)) rfl (.cons rfl (.cons rfl (.cons rfl (.cons rfl (.cons rfl .nil))))) fun a22 H22 => ?_
  clear H21
  refine h_stL [(w2.heap.size, mcells { PMsg.zero with kind := 8, move := m.move, part := m.part } (.slice none 0 0) (.slice none 0 0), 29), (w1.heap.size, zcells, 29), (W.heap.size, mcells m (.slice A1 m.owner.length c1) (.slice A2 m.set.length c2), 29)] H22 rfl (wn rfl) (R_st H22 rfl rfl rfl (st_int hL rfl)) (hL.put 2 _) fun a23 w23 H23 hL' => ?_
  replace hL := hL'
  clear H22 hL'
  refine h_end ?_
  repeat (go_not_at_region 5; go_step)
  refine wp_region_lit ?_
  refine h_op (m' := [(22, _), (3, _), (2, _), (1, _)]) H23 rfl (wn rfl) (R_fa H23 rfl rfl (fa29_9 _ _)) rfl (.cons rfl (.cons rfl (.cons rfl (.cons rfl .nil)))) fun a24 H24 => ?_
  clear H23
  refine h_op (m' := [(23, _), (3, _), (2, _), (1, _)]) H24 rfl (wn rfl) (R_fa H24 rfl rfl (fa24_0 _ _)) rfl (.cons rfl (.cons rfl (.cons rfl (.cons rfl .nil)))) fun a25 H25 => ?_
  clear H24
  refine h_op (m' := [(24, _), (3, _), (2, _), (1, _)]) H25 rfl (wn rfl) (R_ld H25 rfl rfl (ld_int (hL.cl (g := W.heap.size) (A := mcells m (.slice A1 m.owner.length c1) (.slice A2 m.set.length c2)) (t := 29) (by simp) 9))) rfl (.cons rfl (.cons rfl (.cons rfl (.cons rfl .nil)))) fun a26 H26 => ?_
  clear H25
  refine h_op (m' := [(25, _), (24, _), (3, _), (2, _), (1, _)]) H26 rfl (wn rfl) (R_fa H26 rfl rfl (fa29_9 _ _)) rfl (.cons rfl (.cons rfl (.cons rfl (.cons rfl (.cons rfl .nil))))) fun a27 H27 => ?_
  clear H26
  refine h_op (m' := [(26, _), (24, _), (3, _), (2, _), (1, _)]) H27 rfl (wn rfl) (R_fa H27 rfl rfl (fa24_1 _ _)) rfl (.cons rfl (.cons rfl (.cons rfl (.cons rfl (.cons rfl .nil))))) fun a28 H28 => ?_
  clear H27
  refine h_op (m' := [(27, _), (24, _), (3, _), (2, _), (1, _)]) H28 rfl (wn rfl) (R_ld H28 rfl rfl (ld_int (hL.cl (g := W.heap.size) (A := mcells m (.slice A1 m.owner.length c1) (.slice A2 m.set.length c2)) (t := 29) (by simp) 10))) rfl (.cons rfl (.cons rfl (.cons rfl (.cons rfl (.cons rfl .nil))))) fun a29 H29 => ?_
  clear H28
  refine h_op (m' := [(28, _), (3, _), (2, _), (1, _)]) H29 rfl (wn rfl) (R_bd2 H29 rfl rfl rfl bd_short) rfl (.cons rfl (.cons rfl (.cons rfl (.cons rfl .nil)))) fun a30 H30 => ?_
  clear H29
  refine h_opL ((w23.heap.size, #[.int .i64 0, .int .i64 0, .int .i64 0, .int .u8 0, .string .empty, .int .i64 0, .int .i64 0, .int .i64 0], 24) :: [(w2.heap.size, mcells { PMsg.zero with kind := 8, move := m.move, part := m.part } (.slice none 0 0) (.slice none 0 0), 29), (w1.heap.size, zcells, 29), (W.heap.size, mcells m (.slice A1 m.owner.length c1) (.slice A2 m.set.length c2), 29)]) (m' := [(4, _), (28, _), (3, _), (2, _), (1, _)]) H30 rfl (wn rfl) (R_alloc rfl al_item) (hL.alloc _ _) rfl (.cons rfl (.cons rfl (.cons rfl (.cons rfl (.cons rfl .nil))))) fun a31 w31 H31 hL' => ?_
  replace hL := hL'
  clear H30 hL'
  refine h_stL [(w2.heap.size, mcells { PMsg.zero with kind := 8, move := m.move, part := m.part } (.slice none 0 0) (.slice none 0 0), 29), (w23.heap.size, #[.int .i64 m.isrc, .int .i64 m.iseq, .int .i64 0, .int .u8 0, .string .empty, .int .i64 0, .int .i64 0, .int .i64 0], 24), (w1.heap.size, zcells, 29), (W.heap.size, mcells m (.slice A1 m.owner.length c1) (.slice A2 m.set.length c2), 29)] H31 rfl (wn rfl) (R_st H31 rfl rfl rfl (st_short hL)) ((hL.row #[.int .i64 m.isrc, .int .i64 m.iseq, .int .i64 0, .int .u8 0, .string .empty, .int .i64 0, .int .i64 0, .int .i64 0]).swap) fun a32 w32 H32 hL' => ?_
  replace hL := hL'
  clear H31 hL'
  refine h_end ?_
  repeat (go_not_at_region 6; go_step)
  refine wp_region_lit ?_
  refine h_op (m' := [(29, _), (4, _), (3, _), (2, _), (1, _)]) H32 rfl (wn rfl) (R_fa H32 rfl rfl (fa29_0 _ _)) rfl (.cons rfl (.cons rfl (.cons rfl (.cons rfl (.cons rfl .nil))))) fun a33 H33 => ?_
  clear H32
  refine h_op (m' := [(30, _), (4, _), (3, _), (2, _), (1, _)]) H33 rfl (wn rfl) (R_ld H33 rfl rfl (ld_u8k (hL.cl (g := W.heap.size) (A := mcells m (.slice A1 m.owner.length c1) (.slice A2 m.set.length c2)) (t := 29) (by simp) 0) hc)) rfl (.cons rfl (.cons rfl (.cons rfl (.cons rfl (.cons rfl .nil))))) fun a34 H34 => ?_
  clear H33
  refine h_end ?_
  repeat (go_not_at_region 7; go_step)
  refine wp_region_lit ?_
  refine h_op (m' := [(32, _), (30, _), (4, _), (3, _), (2, _), (1, _)]) H34 rfl (wn rfl) (R_bin H34 rfl rfl rfl (B_to (y := false) (B8_eq _ _) (by decide))) rfl (.cons rfl (.cons rfl (.cons rfl (.cons rfl (.cons rfl (.cons rfl .nil)))))) fun a35 H35 => ?_
  clear H34
  refine h_op (m' := [(31, _), (30, _), (4, _), (3, _), (2, _), (1, _)]) H35 rfl (wn rfl) (R_as H35 rfl rfl) rfl (.cons rfl (.cons rfl (.cons rfl (.cons rfl (.cons rfl (.cons rfl .nil)))))) fun a36 H36 => ?_
  clear H35
  refine h_end ?_
  repeat (go_not_at_region 9; go_step)
  refine wp_cond_false (H36.ev (x := .tmp 31) rfl) ?_
  repeat (go_not_at_region 9; go_step)
  repeat (go_not_at_region 9; go_step)
  refine wp_region_lit ?_
  refine h_op (m' := [(37, _), (30, _), (4, _), (3, _), (2, _), (1, _)]) H36 rfl (wn rfl) (R_bin H36 rfl rfl rfl (B_to (y := false) (B8_eq _ _) (by decide))) rfl (.cons rfl (.cons rfl (.cons rfl (.cons rfl (.cons rfl (.cons rfl .nil)))))) fun a37 H37 => ?_
  clear H36
  refine h_op (m' := [(36, _), (30, _), (4, _), (3, _), (2, _), (1, _)]) H37 rfl (wn rfl) (R_as H37 rfl rfl) rfl (.cons rfl (.cons rfl (.cons rfl (.cons rfl (.cons rfl (.cons rfl .nil)))))) fun a38 H38 => ?_
  clear H37
  refine h_end ?_
  repeat (go_not_at_region 12; go_step)
  refine wp_cond_false (H38.ev (x := .tmp 36) rfl) ?_
  repeat (go_not_at_region 12; go_step)
  repeat (go_not_at_region 12; go_step)
  refine wp_region_lit ?_
  refine h_op (m' := [(44, _), (30, _), (4, _), (3, _), (2, _), (1, _)]) H38 rfl (wn rfl) (R_bin H38 rfl rfl rfl (B_to (y := false) (B8_eq _ _) (by decide))) rfl (.cons rfl (.cons rfl (.cons rfl (.cons rfl (.cons rfl (.cons rfl .nil)))))) fun a39 H39 => ?_
  clear H38
  refine h_op (m' := [(43, _), (30, _), (4, _), (3, _), (2, _), (1, _)]) H39 rfl (wn rfl) (R_as H39 rfl rfl) rfl (.cons rfl (.cons rfl (.cons rfl (.cons rfl (.cons rfl (.cons rfl .nil)))))) fun a40 H40 => ?_
  clear H39
  refine h_end ?_
  repeat (go_not_at_region 15; go_step)
  refine wp_cond_false (H40.ev (x := .tmp 43) rfl) ?_
  repeat (go_not_at_region 15; go_step)
  repeat (go_not_at_region 15; go_step)
  refine wp_region_lit ?_
  refine h_op (m' := [(51, _), (30, _), (4, _), (3, _), (2, _), (1, _)]) H40 rfl (wn rfl) (R_bin H40 rfl rfl rfl (B_to (y := false) (B8_eq _ _) (by decide))) rfl (.cons rfl (.cons rfl (.cons rfl (.cons rfl (.cons rfl (.cons rfl .nil)))))) fun a41 H41 => ?_
  clear H40
  refine h_op (m' := [(50, _), (30, _), (4, _), (3, _), (2, _), (1, _)]) H41 rfl (wn rfl) (R_as H41 rfl rfl) rfl (.cons rfl (.cons rfl (.cons rfl (.cons rfl (.cons rfl (.cons rfl .nil)))))) fun a42 H42 => ?_
  clear H41
  refine h_end ?_
  repeat (go_not_at_region 17; go_step)
  refine wp_cond_false (H42.ev (x := .tmp 50) rfl) ?_
  repeat (go_not_at_region 17; go_step)
  repeat (go_not_at_region 17; go_step)
  refine wp_region_lit ?_
  refine h_op (m' := [(56, _), (30, _), (4, _), (3, _), (2, _), (1, _)]) H42 rfl (wn rfl) (R_bin H42 rfl rfl rfl (B_to (y := false) (B8_eq _ _) (by decide))) rfl (.cons rfl (.cons rfl (.cons rfl (.cons rfl (.cons rfl (.cons rfl .nil)))))) fun a43 H43 => ?_
  clear H42
  refine h_op (m' := [(55, _), (30, _), (4, _), (3, _), (2, _), (1, _)]) H43 rfl (wn rfl) (R_as H43 rfl rfl) rfl (.cons rfl (.cons rfl (.cons rfl (.cons rfl (.cons rfl (.cons rfl .nil)))))) fun a44 H44 => ?_
  clear H43
  refine h_end ?_
  repeat (go_not_at_region 21; go_step)
  refine wp_cond_false (H44.ev (x := .tmp 55) rfl) ?_
  repeat (go_not_at_region 21; go_step)
  repeat (go_not_at_region 21; go_step)
  refine wp_region_lit ?_
  refine h_op (m' := [(67, _), (30, _), (4, _), (3, _), (2, _), (1, _)]) H44 rfl (wn rfl) (R_bin H44 rfl rfl rfl (B_to (y := false) (B8_eq _ _) (by decide))) rfl (.cons rfl (.cons rfl (.cons rfl (.cons rfl (.cons rfl (.cons rfl .nil)))))) fun a45 H45 => ?_
  clear H44
  refine h_op (m' := [(66, _), (30, _), (4, _), (3, _), (2, _), (1, _)]) H45 rfl (wn rfl) (R_as H45 rfl rfl) rfl (.cons rfl (.cons rfl (.cons rfl (.cons rfl (.cons rfl (.cons rfl .nil)))))) fun a46 H46 => ?_
  clear H45
  refine h_end ?_
  repeat (go_not_at_region 24; go_step)
  refine wp_cond_false (H46.ev (x := .tmp 66) rfl) ?_
  repeat (go_not_at_region 24; go_step)
  repeat (go_not_at_region 24; go_step)
  refine wp_region_lit ?_
  refine h_op (m' := [(75, _), (30, _), (4, _), (3, _), (2, _), (1, _)]) H46 rfl (wn rfl) (R_bin H46 rfl rfl rfl (B_to (y := false) (B8_eq _ _) (by decide))) rfl (.cons rfl (.cons rfl (.cons rfl (.cons rfl (.cons rfl (.cons rfl .nil)))))) fun a47 H47 => ?_
  clear H46
  refine h_op (m' := [(74, _), (30, _), (4, _), (3, _), (2, _), (1, _)]) H47 rfl (wn rfl) (R_as H47 rfl rfl) rfl (.cons rfl (.cons rfl (.cons rfl (.cons rfl (.cons rfl (.cons rfl .nil)))))) fun a48 H48 => ?_
  clear H47
  refine h_end ?_
  repeat (go_not_at_region 27; go_step)
  refine wp_cond_false (H48.ev (x := .tmp 74) rfl) ?_
  repeat (go_not_at_region 27; go_step)
  repeat (go_not_at_region 27; go_step)
  refine wp_region_lit ?_
  refine h_op (m' := [(83, _), (30, _), (4, _), (3, _), (2, _), (1, _)]) H48 rfl (wn rfl) (R_bin H48 rfl rfl rfl (B_to (y := true) (B8_eq _ _) (by decide))) rfl (.cons rfl (.cons rfl (.cons rfl (.cons rfl (.cons rfl (.cons rfl .nil)))))) fun a49 H49 => ?_
  clear H48
  refine h_op (m' := [(82, _), (30, _), (4, _), (3, _), (2, _), (1, _)]) H49 rfl (wn rfl) (R_as H49 rfl rfl) rfl (.cons rfl (.cons rfl (.cons rfl (.cons rfl (.cons rfl (.cons rfl .nil)))))) fun a50 H50 => ?_
  clear H49
  refine h_end ?_
  repeat (go_not_at_region 28; go_step)
  refine wp_cond_true (H50.ev (x := .tmp 82) rfl) ?_
  repeat (go_not_at_region 28; go_step)
  refine wp_region_lit ?_
  refine h_op (m' := [(84, _), (30, _), (4, _), (3, _), (2, _), (1, _)]) H50 rfl (wn rfl) (R_fa H50 rfl rfl (fa29_4 _ _)) rfl (.cons rfl (.cons rfl (.cons rfl (.cons rfl (.cons rfl (.cons rfl .nil)))))) fun a51 H51 => ?_
  clear H50
  refine h_op (m' := [(85, _), (30, _), (4, _), (3, _), (2, _), (1, _)]) H51 rfl (wn rfl) (R_ld H51 rfl rfl (ld_int (hL.cl (g := W.heap.size) (A := mcells m (.slice A1 m.owner.length c1) (.slice A2 m.set.length c2)) (t := 29) (by simp) 4))) rfl (.cons rfl (.cons rfl (.cons rfl (.cons rfl (.cons rfl (.cons rfl .nil)))))) fun a52 H52 => ?_
  clear H51
  refine h_op (m' := [(86, _), (85, _), (30, _), (4, _), (3, _), (2, _), (1, _)]) H52 rfl (wn rfl) (R_fa H52 rfl rfl (fa29_4 _ _)) rfl (.cons rfl (.cons rfl (.cons rfl (.cons rfl (.cons rfl (.cons rfl (.cons rfl .nil))))))) fun a53 H53 => ?_
  clear H52
  refine h_stL [(w2.heap.size, mcells { PMsg.zero with kind := 8, move := m.move, part := m.part, n := m.n } (.slice none 0 0) (.slice none 0 0), 29), (w23.heap.size, #[.int .i64 m.isrc, .int .i64 m.iseq, .int .i64 0, .int .u8 0, .string .empty, .int .i64 0, .int .i64 0, .int .i64 0], 24), (w1.heap.size, zcells, 29), (W.heap.size, mcells m (.slice A1 m.owner.length c1) (.slice A2 m.set.length c2), 29)] H53 rfl (wn rfl) (R_st H53 rfl rfl rfl (st_int hL rfl)) (hL.put 4 _) fun a54 w54 H54 hL' => ?_
  replace hL := hL'
  clear H53 hL'
  refine h_end ?_
  repeat (go_not_at_region 38; go_step)
  refine wp_region_lit ?_
  refine h_op (m' := [(109, _), (2, _)]) H54 rfl (wn rfl) (R_ld H54 rfl rfl (ld_row hL.at_)) rfl (.cons rfl (.cons rfl .nil)) fun a55 H55 => ?_
  clear H54
  refine h_stL [(w1.heap.size, mcells { PMsg.zero with kind := 8, move := m.move, part := m.part, n := m.n } (.slice none 0 0) (.slice none 0 0), 29), (w2.heap.size, mcells { PMsg.zero with kind := 8, move := m.move, part := m.part, n := m.n } (.slice none 0 0) (.slice none 0 0), 29), (w23.heap.size, #[.int .i64 m.isrc, .int .i64 m.iseq, .int .i64 0, .int .u8 0, .string .empty, .int .i64 0, .int .i64 0, .int .i64 0], 24), (W.heap.size, mcells m (.slice A1 m.owner.length c1) (.slice A2 m.set.length c2), 29)] H55 rfl (wn rfl) (R_st H55 rfl rfl rfl (st_row (m2 := .zero) (vo2 := .slice none 0 0) (vs2 := .slice none 0 0) (hL.mem_at (by simp)) (mcells_one rfl rfl))) (hL.third.row _) fun a56 w56 H56 hL' => ?_
  replace hL := hL'
  clear H55 hL'
  refine h_end ?_
  repeat (go_not_at_region 999; go_step)
  have ho' : onlyM m = { PMsg.zero with kind := 8, move := m.move, part := m.part, n := m.n } := by
    unfold onlyM
    rw [hc]
    rfl
  refine bodyPost_ret (v := .agg (mcells { PMsg.zero with kind := 8, move := m.move, part := m.part, n := m.n } (.slice none 0 0) (.slice none 0 0))) (only_results (H56.getD rfl) hL.at_) H56.1 ⟨(.slice none 0 0), (.slice none 0 0), by rw [ho'], ?_, ?_, hL.1⟩
  · intro w h; rw [ho']; exact .inl ⟨rfl, rfl⟩
  · intro w h; rw [ho']; exact .inl ⟨rfl, rfl⟩
set_option maxRecDepth 100000 in
set_option maxHeartbeats 4000000 in
theorem only_9 (hc : m.kind = 9) (ho : Rd W vo m.owner) (hs : Rd W vs m.set) : Calls Try.prog 18 #[.agg (mcells m vo vs)] W fun e W' => ∃ vo' vs', e = .returned (.agg (mcells (onlyM m) vo' vs')) ∧ (∀ w, Rd w vo m.owner → Rd w vo' (onlyM m).owner) ∧ (∀ w, Rd w vs m.set → Rd w vs' (onlyM m).set) ∧ Below W.heap.size W W' := by
  have hL := Live.init W
  obtain ⟨A1, c1, rfl⟩ := ho.slc
  obtain ⟨A2, c2, rfl⟩ := hs.slc
  go_enter Try.func18, Try.ntmps18
  refine wp_fr (n := 110) (m := [(0, _)]) ⟨rfl, rfl, by intro p hp; simp only [List.mem_cons, List.not_mem_nil, or_false] at hp; rcases hp with rfl <;> rfl⟩ fun a0 H0 => ?_
  repeat (go_not_at_region 0; go_step)
  refine wp_region_lit ?_
  refine h_opL [(W.heap.size, mcells m (.slice A1 m.owner.length c1) (.slice A2 m.set.length c2), 29)] (m' := [(1, _)]) H0 rfl (wn rfl) (R_box H0 rfl rfl bx_row) (hL.alloc _ _) rfl (.cons rfl .nil) fun a1 w1 H1 hL' => ?_
  replace hL := hL'
  clear H0 hL'
  refine h_opL [(w1.heap.size, zcells, 29), (W.heap.size, mcells m (.slice A1 m.owner.length c1) (.slice A2 m.set.length c2), 29)] (m' := [(2, _), (1, _)]) H1 rfl (wn rfl) (R_alloc rfl al_row) (hL.alloc _ _) rfl (.cons rfl (.cons rfl .nil)) fun a2 w2 H2 hL' => ?_
  replace hL := hL'
  clear H1 hL'
  refine h_end ?_
  repeat (go_not_at_region 1; go_step)
  refine wp_region_lit ?_
  refine h_op (m' := [(5, _), (2, _), (1, _)]) H2 rfl (wn rfl) (R_fa H2 rfl rfl (fa29_0 _ _)) rfl (.cons rfl (.cons rfl (.cons rfl .nil))) fun a3 H3 => ?_
  clear H2
  refine h_op (m' := [(6, _), (2, _), (1, _)]) H3 rfl (wn rfl) (R_ld H3 rfl rfl (ld_u8k (hL.cl (g := W.heap.size) (A := mcells m (.slice A1 m.owner.length c1) (.slice A2 m.set.length c2)) (t := 29) (by simp) 0) hc)) rfl (.cons rfl (.cons rfl (.cons rfl .nil))) fun a4 H4 => ?_
  clear H3
  refine h_op (m' := [(7, _), (2, _), (1, _)]) H4 rfl (wn rfl) (R_bd1 H4 rfl rfl bd_kind) rfl (.cons rfl (.cons rfl (.cons rfl .nil))) fun a5 H5 => ?_
  clear H4
  refine h_opL [(w2.heap.size, zcells, 29), (w1.heap.size, zcells, 29), (W.heap.size, mcells m (.slice A1 m.owner.length c1) (.slice A2 m.set.length c2), 29)] (m' := [(3, _), (7, _), (2, _), (1, _)]) H5 rfl (wn rfl) (R_alloc rfl al_row) (hL.alloc _ _) rfl (.cons rfl (.cons rfl (.cons rfl (.cons rfl .nil)))) fun a6 w6 H6 hL' => ?_
  replace hL := hL'
  clear H5 hL'
  refine h_stL [(w2.heap.size, mcells { PMsg.zero with kind := 9 } (.slice none 0 0) (.slice none 0 0), 29), (w1.heap.size, zcells, 29), (W.heap.size, mcells m (.slice A1 m.owner.length c1) (.slice A2 m.set.length c2), 29)] H6 rfl (wn rfl) (R_st H6 rfl rfl rfl (st_row (m2 := .zero) (vo2 := .slice none 0 0) (vs2 := .slice none 0 0) hL.at_ (mcells_one rfl rfl))) (hL.row _) fun a7 w7 H7 hL' => ?_
  replace hL := hL'
  clear H6 hL'
  refine h_end ?_
  repeat (go_not_at_region 2; go_step)
  refine wp_region_lit ?_
  refine h_op (m' := [(8, _), (3, _), (2, _), (1, _)]) H7 rfl (wn rfl) (R_fa H7 rfl rfl (fa29_0 _ _)) rfl (.cons rfl (.cons rfl (.cons rfl (.cons rfl .nil)))) fun a8 H8 => ?_
  clear H7
  refine h_op (m' := [(9, _), (3, _), (2, _), (1, _)]) H8 rfl (wn rfl) (R_ld H8 rfl rfl (ld_u8k (hL.cl (g := W.heap.size) (A := mcells m (.slice A1 m.owner.length c1) (.slice A2 m.set.length c2)) (t := 29) (by simp) 0) hc)) rfl (.cons rfl (.cons rfl (.cons rfl (.cons rfl .nil)))) fun a9 H9 => ?_
  clear H8
  refine h_op (m' := [(10, _), (3, _), (2, _), (1, _)]) H9 rfl (wn rfl) (R_bin H9 rfl rfl rfl (B_to (y := true) (B8_ge _ _) (by decide))) rfl (.cons rfl (.cons rfl (.cons rfl (.cons rfl .nil)))) fun a10 H10 => ?_
  clear H9
  refine h_op (m' := [(11, _), (3, _), (2, _), (1, _)]) H10 rfl (wn rfl) (R_mv H10 rfl rfl) rfl (.cons rfl (.cons rfl (.cons rfl (.cons rfl .nil)))) fun a11 H11 => ?_
  clear H10
  refine h_op (m' := [(12, _), (11, _), (3, _), (2, _), (1, _)]) H11 rfl (H11.wt rfl rfl rfl) (R_fa H11 rfl rfl (fa29_0 _ _)) rfl (.cons rfl (.cons rfl (.cons rfl (.cons rfl (.cons rfl .nil))))) fun a12 H12 => ?_
  clear H11
  refine h_op (m' := [(13, _), (11, _), (3, _), (2, _), (1, _)]) H12 rfl (H12.wt rfl rfl rfl) (R_ld H12 rfl rfl (ld_u8k (hL.cl (g := W.heap.size) (A := mcells m (.slice A1 m.owner.length c1) (.slice A2 m.set.length c2)) (t := 29) (by simp) 0) hc)) rfl (.cons rfl (.cons rfl (.cons rfl (.cons rfl (.cons rfl .nil))))) fun a13 H13 => ?_
  clear H12
  refine h_op (m' := [(14, _), (11, _), (3, _), (2, _), (1, _)]) H13 rfl (H13.wt rfl rfl rfl) (R_bin H13 rfl rfl rfl (B_to (y := true) (B8_le _ _) (by decide))) rfl (.cons rfl (.cons rfl (.cons rfl (.cons rfl (.cons rfl .nil))))) fun a14 H14 => ?_
  clear H13
  refine h_op (m' := [(15, _), (3, _), (2, _), (1, _)]) H14 rfl (wn rfl) (R_pick H14 rfl rfl rfl) rfl (.cons rfl (.cons rfl (.cons rfl (.cons rfl .nil)))) fun a15 H15 => ?_
  clear H14
  refine h_end ?_
  repeat (go_not_at_region 3; go_step)
  refine wp_cond_true (H15.ev (x := .tmp 15) rfl) ?_
  repeat (go_not_at_region 3; go_step)
  refine wp_region_lit ?_
  refine h_op (m' := [(16, _), (3, _), (2, _), (1, _)]) H15 rfl (wn rfl) (R_fa H15 rfl rfl (fa29_1 _ _)) rfl (.cons rfl (.cons rfl (.cons rfl (.cons rfl .nil)))) fun a16 H16 => ?_
  clear H15
  refine h_op (m' := [(17, _), (3, _), (2, _), (1, _)]) H16 rfl (wn rfl) (R_ld H16 rfl rfl (ld_int (hL.cl (g := W.heap.size) (A := mcells m (.slice A1 m.owner.length c1) (.slice A2 m.set.length c2)) (t := 29) (by simp) 1))) rfl (.cons rfl (.cons rfl (.cons rfl (.cons rfl .nil)))) fun a17 H17 => ?_
  clear H16
  refine h_op (m' := [(18, _), (17, _), (3, _), (2, _), (1, _)]) H17 rfl (wn rfl) (R_fa H17 rfl rfl (fa29_1 _ _)) rfl (.cons rfl (.cons rfl (.cons rfl (.cons rfl (.cons rfl .nil))))) fun a18 H18 => ?_
  clear H17
  refine h_stL [(w2.heap.size, mcells { PMsg.zero with kind := 9, move := m.move } (.slice none 0 0) (.slice none 0 0), 29), (w1.heap.size, zcells, 29), (W.heap.size, mcells m (.slice A1 m.owner.length c1) (.slice A2 m.set.length c2), 29)] H18 rfl (wn rfl) (R_st H18 rfl rfl rfl (st_int hL rfl)) (hL.put 1 _) fun a19 w19 H19 hL' => ?_
  replace hL := hL'
  clear H18 hL'
  refine h_end ?_
  repeat (go_not_at_region 4; go_step)
  refine wp_region_lit ?_
  refine h_op (m' := [(19, _), (3, _), (2, _), (1, _)]) H19 rfl (wn rfl) (R_fa H19 rfl rfl (fa29_2 _ _)) rfl (.cons rfl (.cons rfl (.cons rfl (.cons rfl .nil)))) fun a20 H20 => ?_
  clear H19
  refine h_op (m' := [(20, _), (3, _), (2, _), (1, _)]) H20 rfl (wn rfl) (R_ld H20 rfl rfl (ld_int (hL.cl (g := W.heap.size) (A := mcells m (.slice A1 m.owner.length c1) (.slice A2 m.set.length c2)) (t := 29) (by simp) 2))) rfl (.cons rfl (.cons rfl (.cons rfl (.cons rfl .nil)))) fun a21 H21 => ?_
  clear H20
  refine h_op (m' := [(21, _), (20, _), (3, _), (2, _), (1, _)]) H21 rfl (wn rfl) (R_fa H21 rfl rfl (fa29_2 _ _)) rfl (.cons rfl (.cons rfl (.cons rfl (.cons rfl (.cons rfl .nil))))) fun a22 H22 => ?_
  clear H21
  refine h_stL [(w2.heap.size, mcells { PMsg.zero with kind := 9, move := m.move, part := m.part } (.slice none 0 0) (.slice none 0 0), 29), (w1.heap.size, zcells, 29), (W.heap.size, mcells m (.slice A1 m.owner.length c1) (.slice A2 m.set.length c2), 29)] H22 rfl (wn rfl) (R_st H22 rfl rfl rfl (st_int hL rfl)) (hL.put 2 _) fun a23 w23 H23 hL' => ?_
  replace hL := hL'
  clear H22 hL'
  refine h_end ?_
  repeat (go_not_at_region 5; go_step)
  refine wp_region_lit ?_
  refine h_op (m' := [(22, _), (3, _), (2, _), (1, _)]) H23 rfl (wn rfl) (R_fa H23 rfl rfl (fa29_9 _ _)) rfl (.cons rfl (.cons rfl (.cons rfl (.cons rfl .nil)))) fun a24 H24 => ?_
  clear H23
  refine h_op (m' := [(23, _), (3, _), (2, _), (1, _)]) H24 rfl (wn rfl) (R_fa H24 rfl rfl (fa24_0 _ _)) rfl (.cons rfl (.cons rfl (.cons rfl (.cons rfl .nil)))) fun a25 H25 => ?_
  clear H24
  refine h_op (m' := [(24, _), (3, _), (2, _), (1, _)]) H25 rfl (wn rfl) (R_ld H25 rfl rfl (ld_int (hL.cl (g := W.heap.size) (A := mcells m (.slice A1 m.owner.length c1) (.slice A2 m.set.length c2)) (t := 29) (by simp) 9))) rfl (.cons rfl (.cons rfl (.cons rfl (.cons rfl .nil)))) fun a26 H26 => ?_
  clear H25
  refine h_op (m' := [(25, _), (24, _), (3, _), (2, _), (1, _)]) H26 rfl (wn rfl) (R_fa H26 rfl rfl (fa29_9 _ _)) rfl (.cons rfl (.cons rfl (.cons rfl (.cons rfl (.cons rfl .nil))))) fun a27 H27 => ?_
  clear H26
  refine h_op (m' := [(26, _), (24, _), (3, _), (2, _), (1, _)]) H27 rfl (wn rfl) (R_fa H27 rfl rfl (fa24_1 _ _)) rfl (.cons rfl (.cons rfl (.cons rfl (.cons rfl (.cons rfl .nil))))) fun a28 H28 => ?_
  clear H27
  refine h_op (m' := [(27, _), (24, _), (3, _), (2, _), (1, _)]) H28 rfl (wn rfl) (R_ld H28 rfl rfl (ld_int (hL.cl (g := W.heap.size) (A := mcells m (.slice A1 m.owner.length c1) (.slice A2 m.set.length c2)) (t := 29) (by simp) 10))) rfl (.cons rfl (.cons rfl (.cons rfl (.cons rfl (.cons rfl .nil))))) fun a29 H29 => ?_
  clear H28
  refine h_op (m' := [(28, _), (3, _), (2, _), (1, _)]) H29 rfl (wn rfl) (R_bd2 H29 rfl rfl rfl bd_short) rfl (.cons rfl (.cons rfl (.cons rfl (.cons rfl .nil)))) fun a30 H30 => ?_
  clear H29
  refine h_opL ((w23.heap.size, #[.int .i64 0, .int .i64 0, .int .i64 0, .int .u8 0, .string .empty, .int .i64 0, .int .i64 0, .int .i64 0], 24) :: [(w2.heap.size, mcells { PMsg.zero with kind := 9, move := m.move, part := m.part } (.slice none 0 0) (.slice none 0 0), 29), (w1.heap.size, zcells, 29), (W.heap.size, mcells m (.slice A1 m.owner.length c1) (.slice A2 m.set.length c2), 29)]) (m' := [(4, _), (28, _), (3, _), (2, _), (1, _)]) H30 rfl (wn rfl) (R_alloc rfl al_item) (hL.alloc _ _) rfl (.cons rfl (.cons rfl (.cons rfl (.cons rfl (.cons rfl .nil))))) fun a31 w31 H31 hL' => ?_
  replace hL := hL'
  clear H30 hL'
  refine h_stL [(w2.heap.size, mcells { PMsg.zero with kind := 9, move := m.move, part := m.part } (.slice none 0 0) (.slice none 0 0), 29), (w23.heap.size, #[.int .i64 m.isrc, .int .i64 m.iseq, .int .i64 0, .int .u8 0, .string .empty, .int .i64 0, .int .i64 0, .int .i64 0], 24), (w1.heap.size, zcells, 29), (W.heap.size, mcells m (.slice A1 m.owner.length c1) (.slice A2 m.set.length c2), 29)] H31 rfl (wn rfl) (R_st H31 rfl rfl rfl (st_short hL)) ((hL.row #[.int .i64 m.isrc, .int .i64 m.iseq, .int .i64 0, .int .u8 0, .string .empty, .int .i64 0, .int .i64 0, .int .i64 0]).swap) fun a32 w32 H32 hL' => ?_
  replace hL := hL'
  clear H31 hL'
  refine h_end ?_
  repeat (go_not_at_region 6; go_step)
  refine wp_region_lit ?_
  refine h_op (m' := [(29, _), (4, _), (3, _), (2, _), (1, _)]) H32 rfl (wn rfl) (R_fa H32 rfl rfl (fa29_0 _ _)) rfl (.cons rfl (.cons rfl (.cons rfl (.cons rfl (.cons rfl .nil))))) fun a33 H33 => ?_
  clear H32
  refine h_op (m' := [(30, _), (4, _), (3, _), (2, _), (1, _)]) H33 rfl (wn rfl) (R_ld H33 rfl rfl (ld_u8k (hL.cl (g := W.heap.size) (A := mcells m (.slice A1 m.owner.length c1) (.slice A2 m.set.length c2)) (t := 29) (by simp) 0) hc)) rfl (.cons rfl (.cons rfl (.cons rfl (.cons rfl (.cons rfl .nil))))) fun a34 H34 => ?_
  clear H33
  refine h_end ?_
  repeat (go_not_at_region 7; go_step)
  refine wp_region_lit ?_
  refine h_op (m' := [(32, _), (30, _), (4, _), (3, _), (2, _), (1, _)]) H34 rfl (wn rfl) (R_bin H34 rfl rfl rfl (B_to (y := false) (B8_eq _ _) (by decide))) rfl (.cons rfl (.cons rfl (.cons rfl (.cons rfl (.cons rfl (.cons rfl .nil)))))) fun a35 H35 => ?_
  clear H34
  refine h_op (m' := [(31, _), (30, _), (4, _), (3, _), (2, _), (1, _)]) H35 rfl (wn rfl) (R_as H35 rfl rfl) rfl (.cons rfl (.cons rfl (.cons rfl (.cons rfl (.cons rfl (.cons rfl .nil)))))) fun a36 H36 => ?_
  clear H35
  refine h_end ?_
  repeat (go_not_at_region 9; go_step)
  refine wp_cond_false (H36.ev (x := .tmp 31) rfl) ?_
  repeat (go_not_at_region 9; go_step)
  repeat (go_not_at_region 9; go_step)
  refine wp_region_lit ?_
  refine h_op (m' := [(37, _), (30, _), (4, _), (3, _), (2, _), (1, _)]) H36 rfl (wn rfl) (R_bin H36 rfl rfl rfl (B_to (y := false) (B8_eq _ _) (by decide))) rfl (.cons rfl (.cons rfl (.cons rfl (.cons rfl (.cons rfl (.cons rfl .nil)))))) fun a37 H37 => ?_
  clear H36
  refine h_op (m' := [(36, _), (30, _), (4, _), (3, _), (2, _), (1, _)]) H37 rfl (wn rfl) (R_as H37 rfl rfl) rfl (.cons rfl (.cons rfl (.cons rfl (.cons rfl (.cons rfl (.cons rfl .nil)))))) fun a38 H38 => ?_
  clear H37
  refine h_end ?_
  repeat (go_not_at_region 12; go_step)
  refine wp_cond_false (H38.ev (x := .tmp 36) rfl) ?_
  repeat (go_not_at_region 12; go_step)
  repeat (go_not_at_region 12; go_step)
  refine wp_region_lit ?_
  refine h_op (m' := [(44, _), (30, _), (4, _), (3, _), (2, _), (1, _)]) H38 rfl (wn rfl) (R_bin H38 rfl rfl rfl (B_to (y := false) (B8_eq _ _) (by decide))) rfl (.cons rfl (.cons rfl (.cons rfl (.cons rfl (.cons rfl (.cons rfl .nil)))))) fun a39 H39 => ?_
  clear H38
  refine h_op (m' := [(43, _), (30, _), (4, _), (3, _), (2, _), (1, _)]) H39 rfl (wn rfl) (R_as H39 rfl rfl) rfl (.cons rfl (.cons rfl (.cons rfl (.cons rfl (.cons rfl (.cons rfl .nil)))))) fun a40 H40 => ?_
  clear H39
  refine h_end ?_
  repeat (go_not_at_region 15; go_step)
  refine wp_cond_false (H40.ev (x := .tmp 43) rfl) ?_
  repeat (go_not_at_region 15; go_step)
  repeat (go_not_at_region 15; go_step)
  refine wp_region_lit ?_
  refine h_op (m' := [(51, _), (30, _), (4, _), (3, _), (2, _), (1, _)]) H40 rfl (wn rfl) (R_bin H40 rfl rfl rfl (B_to (y := false) (B8_eq _ _) (by decide))) rfl (.cons rfl (.cons rfl (.cons rfl (.cons rfl (.cons rfl (.cons rfl .nil)))))) fun a41 H41 => ?_
  clear H40
  refine h_op (m' := [(50, _), (30, _), (4, _), (3, _), (2, _), (1, _)]) H41 rfl (wn rfl) (R_as H41 rfl rfl) rfl (.cons rfl (.cons rfl (.cons rfl (.cons rfl (.cons rfl (.cons rfl .nil)))))) fun a42 H42 => ?_
  clear H41
  refine h_end ?_
  repeat (go_not_at_region 17; go_step)
  refine wp_cond_false (H42.ev (x := .tmp 50) rfl) ?_
  repeat (go_not_at_region 17; go_step)
  repeat (go_not_at_region 17; go_step)
  refine wp_region_lit ?_
  refine h_op (m' := [(56, _), (30, _), (4, _), (3, _), (2, _), (1, _)]) H42 rfl (wn rfl) (R_bin H42 rfl rfl rfl (B_to (y := false) (B8_eq _ _) (by decide))) rfl (.cons rfl (.cons rfl (.cons rfl (.cons rfl (.cons rfl (.cons rfl .nil)))))) fun a43 H43 => ?_
  clear H42
  refine h_op (m' := [(55, _), (30, _), (4, _), (3, _), (2, _), (1, _)]) H43 rfl (wn rfl) (R_as H43 rfl rfl) rfl (.cons rfl (.cons rfl (.cons rfl (.cons rfl (.cons rfl (.cons rfl .nil)))))) fun a44 H44 => ?_
  clear H43
  refine h_end ?_
  repeat (go_not_at_region 21; go_step)
  refine wp_cond_false (H44.ev (x := .tmp 55) rfl) ?_
  repeat (go_not_at_region 21; go_step)
  repeat (go_not_at_region 21; go_step)
  refine wp_region_lit ?_
  refine h_op (m' := [(67, _), (30, _), (4, _), (3, _), (2, _), (1, _)]) H44 rfl (wn rfl) (R_bin H44 rfl rfl rfl (B_to (y := false) (B8_eq _ _) (by decide))) rfl (.cons rfl (.cons rfl (.cons rfl (.cons rfl (.cons rfl (.cons rfl .nil)))))) fun a45 H45 => ?_
  clear H44
  refine h_op (m' := [(66, _), (30, _), (4, _), (3, _), (2, _), (1, _)]) H45 rfl (wn rfl) (R_as H45 rfl rfl) rfl (.cons rfl (.cons rfl (.cons rfl (.cons rfl (.cons rfl (.cons rfl .nil)))))) fun a46 H46 => ?_
  clear H45
  refine h_end ?_
  repeat (go_not_at_region 24; go_step)
  refine wp_cond_false (H46.ev (x := .tmp 66) rfl) ?_
  repeat (go_not_at_region 24; go_step)
  repeat (go_not_at_region 24; go_step)
  refine wp_region_lit ?_
  refine h_op (m' := [(75, _), (30, _), (4, _), (3, _), (2, _), (1, _)]) H46 rfl (wn rfl) (R_bin H46 rfl rfl rfl (B_to (y := false) (B8_eq _ _) (by decide))) rfl (.cons rfl (.cons rfl (.cons rfl (.cons rfl (.cons rfl (.cons rfl .nil)))))) fun a47 H47 => ?_
  clear H46
  refine h_op (m' := [(74, _), (30, _), (4, _), (3, _), (2, _), (1, _)]) H47 rfl (wn rfl) (R_as H47 rfl rfl) rfl (.cons rfl (.cons rfl (.cons rfl (.cons rfl (.cons rfl (.cons rfl .nil)))))) fun a48 H48 => ?_
  clear H47
  refine h_end ?_
  repeat (go_not_at_region 27; go_step)
  refine wp_cond_false (H48.ev (x := .tmp 74) rfl) ?_
  repeat (go_not_at_region 27; go_step)
  repeat (go_not_at_region 27; go_step)
  refine wp_region_lit ?_
  refine h_op (m' := [(83, _), (30, _), (4, _), (3, _), (2, _), (1, _)]) H48 rfl (wn rfl) (R_bin H48 rfl rfl rfl (B_to (y := false) (B8_eq _ _) (by decide))) rfl (.cons rfl (.cons rfl (.cons rfl (.cons rfl (.cons rfl (.cons rfl .nil)))))) fun a49 H49 => ?_
  clear H48
  refine h_op (m' := [(82, _), (30, _), (4, _), (3, _), (2, _), (1, _)]) H49 rfl (wn rfl) (R_as H49 rfl rfl) rfl (.cons rfl (.cons rfl (.cons rfl (.cons rfl (.cons rfl (.cons rfl .nil)))))) fun a50 H50 => ?_
  clear H49
  refine h_end ?_
  repeat (go_not_at_region 29; go_step)
  refine wp_cond_false (H50.ev (x := .tmp 82) rfl) ?_
  repeat (go_not_at_region 29; go_step)
  repeat (go_not_at_region 29; go_step)
  refine wp_region_lit ?_
  refine h_op (m' := [(88, _), (30, _), (4, _), (3, _), (2, _), (1, _)]) H50 rfl (wn rfl) (R_bin H50 rfl rfl rfl (B_to (y := true) (B8_eq _ _) (by decide))) rfl (.cons rfl (.cons rfl (.cons rfl (.cons rfl (.cons rfl (.cons rfl .nil)))))) fun a51 H51 => ?_
  clear H50
  refine h_op (m' := [(87, _), (30, _), (4, _), (3, _), (2, _), (1, _)]) H51 rfl (wn rfl) (R_as H51 rfl rfl) rfl (.cons rfl (.cons rfl (.cons rfl (.cons rfl (.cons rfl (.cons rfl .nil)))))) fun a52 H52 => ?_
  clear H51
  refine h_end ?_
  repeat (go_not_at_region 30; go_step)
  refine wp_cond_true (H52.ev (x := .tmp 87) rfl) ?_
  repeat (go_not_at_region 30; go_step)
  refine wp_region_lit ?_
  refine h_op (m' := [(89, _), (30, _), (4, _), (3, _), (2, _), (1, _)]) H52 rfl (wn rfl) (R_fa H52 rfl rfl (fa29_4 _ _)) rfl (.cons rfl (.cons rfl (.cons rfl (.cons rfl (.cons rfl (.cons rfl .nil)))))) fun a53 H53 => ?_
  clear H52
  refine h_op (m' := [(90, _), (30, _), (4, _), (3, _), (2, _), (1, _)]) H53 rfl (wn rfl) (R_ld H53 rfl rfl (ld_int (hL.cl (g := W.heap.size) (A := mcells m (.slice A1 m.owner.length c1) (.slice A2 m.set.length c2)) (t := 29) (by simp) 4))) rfl (.cons rfl (.cons rfl (.cons rfl (.cons rfl (.cons rfl (.cons rfl .nil)))))) fun a54 H54 => ?_
  clear H53
  refine h_op (m' := [(91, _), (90, _), (30, _), (4, _), (3, _), (2, _), (1, _)]) H54 rfl (wn rfl) (R_fa H54 rfl rfl (fa29_4 _ _)) rfl (.cons rfl (.cons rfl (.cons rfl (.cons rfl (.cons rfl (.cons rfl (.cons rfl .nil))))))) fun a55 H55 => ?_
  clear H54
  refine h_stL [(w2.heap.size, mcells { PMsg.zero with kind := 9, move := m.move, part := m.part, n := m.n } (.slice none 0 0) (.slice none 0 0), 29), (w23.heap.size, #[.int .i64 m.isrc, .int .i64 m.iseq, .int .i64 0, .int .u8 0, .string .empty, .int .i64 0, .int .i64 0, .int .i64 0], 24), (w1.heap.size, zcells, 29), (W.heap.size, mcells m (.slice A1 m.owner.length c1) (.slice A2 m.set.length c2), 29)] H55 rfl (wn rfl) (R_st H55 rfl rfl rfl (st_int hL rfl)) (hL.put 4 _) fun a56 w56 H56 hL' => ?_
  replace hL := hL'
  clear H55 hL'
  refine h_end ?_
  repeat (go_not_at_region 31; go_step)
  refine wp_region_lit ?_
  refine h_op (m' := [(92, _), (30, _), (4, _), (3, _), (2, _), (1, _)]) H56 rfl (wn rfl) (R_fa H56 rfl rfl (fa29_8 _ _)) rfl (.cons rfl (.cons rfl (.cons rfl (.cons rfl (.cons rfl (.cons rfl .nil)))))) fun a57 H57 => ?_
  clear H56
  refine h_op (m' := [(93, _), (30, _), (4, _), (3, _), (2, _), (1, _)]) H57 rfl (wn rfl) (R_ld H57 rfl rfl (ld_i64 (hL.cl (g := W.heap.size) (A := mcells m (.slice A1 m.owner.length c1) (.slice A2 m.set.length c2)) (t := 29) (by simp) 8))) rfl (.cons rfl (.cons rfl (.cons rfl (.cons rfl (.cons rfl (.cons rfl .nil)))))) fun a58 H58 => ?_
  clear H57
  refine h_op (m' := [(94, _), (93, _), (30, _), (4, _), (3, _), (2, _), (1, _)]) H58 rfl (wn rfl) (R_fa H58 rfl rfl (fa29_8 _ _)) rfl (.cons rfl (.cons rfl (.cons rfl (.cons rfl (.cons rfl (.cons rfl (.cons rfl .nil))))))) fun a59 H59 => ?_
  clear H58
  refine h_stL [(w2.heap.size, mcells { PMsg.zero with kind := 9, move := m.move, part := m.part, n := m.n, at_ := m.at_ } (.slice none 0 0) (.slice none 0 0), 29), (w23.heap.size, #[.int .i64 m.isrc, .int .i64 m.iseq, .int .i64 0, .int .u8 0, .string .empty, .int .i64 0, .int .i64 0, .int .i64 0], 24), (w1.heap.size, zcells, 29), (W.heap.size, mcells m (.slice A1 m.owner.length c1) (.slice A2 m.set.length c2), 29)] H59 rfl (wn rfl) (R_st H59 rfl rfl rfl (st_i64c hL rfl)) (hL.put 8 _) fun a60 w60 H60 hL' => ?_
  replace hL := hL'
  clear H59 hL'
  refine h_end ?_
  repeat (go_not_at_region 32; go_step)
  refine wp_region_lit ?_
  refine h_op (m' := [(95, _), (30, _), (4, _), (3, _), (2, _), (1, _)]) H60 rfl (wn rfl) (R_fa H60 rfl rfl (fa29_7 _ _)) rfl (.cons rfl (.cons rfl (.cons rfl (.cons rfl (.cons rfl (.cons rfl .nil)))))) fun a61 H61 => ?_
  clear H60
  refine h_op (m' := [(96, _), (30, _), (4, _), (3, _), (2, _), (1, _)]) H61 rfl (wn rfl) (R_ld H61 rfl rfl (ld_u64 (hL.cl (g := W.heap.size) (A := mcells m (.slice A1 m.owner.length c1) (.slice A2 m.set.length c2)) (t := 29) (by simp) 7))) rfl (.cons rfl (.cons rfl (.cons rfl (.cons rfl (.cons rfl (.cons rfl .nil)))))) fun a62 H62 => ?_
  clear H61
  refine h_op (m' := [(97, _), (96, _), (30, _), (4, _), (3, _), (2, _), (1, _)]) H62 rfl (wn rfl) (R_fa H62 rfl rfl (fa29_7 _ _)) rfl (.cons rfl (.cons rfl (.cons rfl (.cons rfl (.cons rfl (.cons rfl (.cons rfl .nil))))))) fun a63 H63 => ?_
  clear H62
  refine h_stL [(w2.heap.size, mcells { PMsg.zero with kind := 9, move := m.move, part := m.part, n := m.n, at_ := m.at_, digest := m.digest } (.slice none 0 0) (.slice none 0 0), 29), (w23.heap.size, #[.int .i64 m.isrc, .int .i64 m.iseq, .int .i64 0, .int .u8 0, .string .empty, .int .i64 0, .int .i64 0, .int .i64 0], 24), (w1.heap.size, zcells, 29), (W.heap.size, mcells m (.slice A1 m.owner.length c1) (.slice A2 m.set.length c2), 29)] H63 rfl (wn rfl) (R_st H63 rfl rfl rfl (st_u64c hL rfl)) (hL.put 7 _) fun a64 w64 H64 hL' => ?_
  replace hL := hL'
  clear H63 hL'
  refine h_end ?_
  repeat (go_not_at_region 38; go_step)
  refine wp_region_lit ?_
  refine h_op (m' := [(109, _), (2, _)]) H64 rfl (wn rfl) (R_ld H64 rfl rfl (ld_row hL.at_)) rfl (.cons rfl (.cons rfl .nil)) fun a65 H65 => ?_
  clear H64
  refine h_stL [(w1.heap.size, mcells { PMsg.zero with kind := 9, move := m.move, part := m.part, n := m.n, at_ := m.at_, digest := m.digest } (.slice none 0 0) (.slice none 0 0), 29), (w2.heap.size, mcells { PMsg.zero with kind := 9, move := m.move, part := m.part, n := m.n, at_ := m.at_, digest := m.digest } (.slice none 0 0) (.slice none 0 0), 29), (w23.heap.size, #[.int .i64 m.isrc, .int .i64 m.iseq, .int .i64 0, .int .u8 0, .string .empty, .int .i64 0, .int .i64 0, .int .i64 0], 24), (W.heap.size, mcells m (.slice A1 m.owner.length c1) (.slice A2 m.set.length c2), 29)] H65 rfl (wn rfl) (R_st H65 rfl rfl rfl (st_row (m2 := .zero) (vo2 := .slice none 0 0) (vs2 := .slice none 0 0) (hL.mem_at (by simp)) (mcells_one rfl rfl))) (hL.third.row _) fun a66 w66 H66 hL' => ?_
  replace hL := hL'
  clear H65 hL'
  refine h_end ?_
  repeat (go_not_at_region 999; go_step)
  have ho' : onlyM m = { PMsg.zero with kind := 9, move := m.move, part := m.part, n := m.n, at_ := m.at_, digest := m.digest } := by
    unfold onlyM
    rw [hc]
    rfl
  refine bodyPost_ret (v := .agg (mcells { PMsg.zero with kind := 9, move := m.move, part := m.part, n := m.n, at_ := m.at_, digest := m.digest } (.slice none 0 0) (.slice none 0 0))) (only_results (H66.getD rfl) hL.at_) H66.1 ⟨(.slice none 0 0), (.slice none 0 0), by rw [ho'], ?_, ?_, hL.1⟩
  · intro w h; rw [ho']; exact .inl ⟨rfl, rfl⟩
  · intro w h; rw [ho']; exact .inl ⟨rfl, rfl⟩
set_option maxRecDepth 100000 in
set_option maxHeartbeats 4000000 in
theorem only_10 (hc : m.kind = 10) (ho : Rd W vo m.owner) (hs : Rd W vs m.set) : Calls Try.prog 18 #[.agg (mcells m vo vs)] W fun e W' => ∃ vo' vs', e = .returned (.agg (mcells (onlyM m) vo' vs')) ∧ (∀ w, Rd w vo m.owner → Rd w vo' (onlyM m).owner) ∧ (∀ w, Rd w vs m.set → Rd w vs' (onlyM m).set) ∧ Below W.heap.size W W' := by
  have hL := Live.init W
  obtain ⟨A1, c1, rfl⟩ := ho.slc
  obtain ⟨A2, c2, rfl⟩ := hs.slc
  go_enter Try.func18, Try.ntmps18
  refine wp_fr (n := 110) (m := [(0, _)]) ⟨rfl, rfl, by intro p hp; simp only [List.mem_cons, List.not_mem_nil, or_false] at hp; rcases hp with rfl <;> rfl⟩ fun a0 H0 => ?_
  repeat (go_not_at_region 0; go_step)
  refine wp_region_lit ?_
  refine h_opL [(W.heap.size, mcells m (.slice A1 m.owner.length c1) (.slice A2 m.set.length c2), 29)] (m' := [(1, _)]) H0 rfl (wn rfl) (R_box H0 rfl rfl bx_row) (hL.alloc _ _) rfl (.cons rfl .nil) fun a1 w1 H1 hL' => ?_
  replace hL := hL'
  clear H0 hL'
  refine h_opL [(w1.heap.size, zcells, 29), (W.heap.size, mcells m (.slice A1 m.owner.length c1) (.slice A2 m.set.length c2), 29)] (m' := [(2, _), (1, _)]) H1 rfl (wn rfl) (R_alloc rfl al_row) (hL.alloc _ _) rfl (.cons rfl (.cons rfl .nil)) fun a2 w2 H2 hL' => ?_
  replace hL := hL'
  clear H1 hL'
  refine h_end ?_
  repeat (go_not_at_region 1; go_step)
  refine wp_region_lit ?_
  refine h_op (m' := [(5, _), (2, _), (1, _)]) H2 rfl (wn rfl) (R_fa H2 rfl rfl (fa29_0 _ _)) rfl (.cons rfl (.cons rfl (.cons rfl .nil))) fun a3 H3 => ?_
  clear H2
  refine h_op (m' := [(6, _), (2, _), (1, _)]) H3 rfl (wn rfl) (R_ld H3 rfl rfl (ld_u8k (hL.cl (g := W.heap.size) (A := mcells m (.slice A1 m.owner.length c1) (.slice A2 m.set.length c2)) (t := 29) (by simp) 0) hc)) rfl (.cons rfl (.cons rfl (.cons rfl .nil))) fun a4 H4 => ?_
  clear H3
  refine h_op (m' := [(7, _), (2, _), (1, _)]) H4 rfl (wn rfl) (R_bd1 H4 rfl rfl bd_kind) rfl (.cons rfl (.cons rfl (.cons rfl .nil))) fun a5 H5 => ?_
  clear H4
  refine h_opL [(w2.heap.size, zcells, 29), (w1.heap.size, zcells, 29), (W.heap.size, mcells m (.slice A1 m.owner.length c1) (.slice A2 m.set.length c2), 29)] (m' := [(3, _), (7, _), (2, _), (1, _)]) H5 rfl (wn rfl) (R_alloc rfl al_row) (hL.alloc _ _) rfl (.cons rfl (.cons rfl (.cons rfl (.cons rfl .nil)))) fun a6 w6 H6 hL' => ?_
  replace hL := hL'
  clear H5 hL'
  refine h_stL [(w2.heap.size, mcells { PMsg.zero with kind := 10 } (.slice none 0 0) (.slice none 0 0), 29), (w1.heap.size, zcells, 29), (W.heap.size, mcells m (.slice A1 m.owner.length c1) (.slice A2 m.set.length c2), 29)] H6 rfl (wn rfl) (R_st H6 rfl rfl rfl (st_row (m2 := .zero) (vo2 := .slice none 0 0) (vs2 := .slice none 0 0) hL.at_ (mcells_one rfl rfl))) (hL.row _) fun a7 w7 H7 hL' => ?_
  replace hL := hL'
  clear H6 hL'
  refine h_end ?_
  repeat (go_not_at_region 2; go_step)
  refine wp_region_lit ?_
  refine h_op (m' := [(8, _), (3, _), (2, _), (1, _)]) H7 rfl (wn rfl) (R_fa H7 rfl rfl (fa29_0 _ _)) rfl (.cons rfl (.cons rfl (.cons rfl (.cons rfl .nil)))) fun a8 H8 => ?_
  clear H7
  refine h_op (m' := [(9, _), (3, _), (2, _), (1, _)]) H8 rfl (wn rfl) (R_ld H8 rfl rfl (ld_u8k (hL.cl (g := W.heap.size) (A := mcells m (.slice A1 m.owner.length c1) (.slice A2 m.set.length c2)) (t := 29) (by simp) 0) hc)) rfl (.cons rfl (.cons rfl (.cons rfl (.cons rfl .nil)))) fun a9 H9 => ?_
  clear H8
  refine h_op (m' := [(10, _), (3, _), (2, _), (1, _)]) H9 rfl (wn rfl) (R_bin H9 rfl rfl rfl (B_to (y := true) (B8_ge _ _) (by decide))) rfl (.cons rfl (.cons rfl (.cons rfl (.cons rfl .nil)))) fun a10 H10 => ?_
  clear H9
  refine h_op (m' := [(11, _), (3, _), (2, _), (1, _)]) H10 rfl (wn rfl) (R_mv H10 rfl rfl) rfl (.cons rfl (.cons rfl (.cons rfl (.cons rfl .nil)))) fun a11 H11 => ?_
  clear H10
  refine h_op (m' := [(12, _), (11, _), (3, _), (2, _), (1, _)]) H11 rfl (H11.wt rfl rfl rfl) (R_fa H11 rfl rfl (fa29_0 _ _)) rfl (.cons rfl (.cons rfl (.cons rfl (.cons rfl (.cons rfl .nil))))) fun a12 H12 => ?_
  clear H11
  refine h_op (m' := [(13, _), (11, _), (3, _), (2, _), (1, _)]) H12 rfl (H12.wt rfl rfl rfl) (R_ld H12 rfl rfl (ld_u8k (hL.cl (g := W.heap.size) (A := mcells m (.slice A1 m.owner.length c1) (.slice A2 m.set.length c2)) (t := 29) (by simp) 0) hc)) rfl (.cons rfl (.cons rfl (.cons rfl (.cons rfl (.cons rfl .nil))))) fun a13 H13 => ?_
  clear H12
  refine h_op (m' := [(14, _), (11, _), (3, _), (2, _), (1, _)]) H13 rfl (H13.wt rfl rfl rfl) (R_bin H13 rfl rfl rfl (B_to (y := true) (B8_le _ _) (by decide))) rfl (.cons rfl (.cons rfl (.cons rfl (.cons rfl (.cons rfl .nil))))) fun a14 H14 => ?_
  clear H13
  refine h_op (m' := [(15, _), (3, _), (2, _), (1, _)]) H14 rfl (wn rfl) (R_pick H14 rfl rfl rfl) rfl (.cons rfl (.cons rfl (.cons rfl (.cons rfl .nil)))) fun a15 H15 => ?_
  clear H14
  refine h_end ?_
  repeat (go_not_at_region 3; go_step)
  refine wp_cond_true (H15.ev (x := .tmp 15) rfl) ?_
  repeat (go_not_at_region 3; go_step)
  refine wp_region_lit ?_
  refine h_op (m' := [(16, _), (3, _), (2, _), (1, _)]) H15 rfl (wn rfl) (R_fa H15 rfl rfl (fa29_1 _ _)) rfl (.cons rfl (.cons rfl (.cons rfl (.cons rfl .nil)))) fun a16 H16 => ?_
  clear H15
  refine h_op (m' := [(17, _), (3, _), (2, _), (1, _)]) H16 rfl (wn rfl) (R_ld H16 rfl rfl (ld_int (hL.cl (g := W.heap.size) (A := mcells m (.slice A1 m.owner.length c1) (.slice A2 m.set.length c2)) (t := 29) (by simp) 1))) rfl (.cons rfl (.cons rfl (.cons rfl (.cons rfl .nil)))) fun a17 H17 => ?_
  clear H16
  refine h_op (m' := [(18, _), (17, _), (3, _), (2, _), (1, _)]) H17 rfl (wn rfl) (R_fa H17 rfl rfl (fa29_1 _ _)) rfl (.cons rfl (.cons rfl (.cons rfl (.cons rfl (.cons rfl .nil))))) fun a18 H18 => ?_
  clear H17
  refine h_stL [(w2.heap.size, mcells { PMsg.zero with kind := 10, move := m.move } (.slice none 0 0) (.slice none 0 0), 29), (w1.heap.size, zcells, 29), (W.heap.size, mcells m (.slice A1 m.owner.length c1) (.slice A2 m.set.length c2), 29)] H18 rfl (wn rfl) (R_st H18 rfl rfl rfl (st_int hL rfl)) (hL.put 1 _) fun a19 w19 H19 hL' => ?_
  replace hL := hL'
  clear H18 hL'
  refine h_end ?_
  repeat (go_not_at_region 4; go_step)
  refine wp_region_lit ?_
  refine h_op (m' := [(19, _), (3, _), (2, _), (1, _)]) H19 rfl (wn rfl) (R_fa H19 rfl rfl (fa29_2 _ _)) rfl (.cons rfl (.cons rfl (.cons rfl (.cons rfl .nil)))) fun a20 H20 => ?_
  clear H19
  refine h_op (m' := [(20, _), (3, _), (2, _), (1, _)]) H20 rfl (wn rfl) (R_ld H20 rfl rfl (ld_int (hL.cl (g := W.heap.size) (A := mcells m (.slice A1 m.owner.length c1) (.slice A2 m.set.length c2)) (t := 29) (by simp) 2))) rfl (.cons rfl (.cons rfl (.cons rfl (.cons rfl .nil)))) fun a21 H21 => ?_
  clear H20
  refine h_op (m' := [(21, _), (20, _), (3, _), (2, _), (1, _)]) H21 rfl (wn rfl) (R_fa H21 rfl rfl (fa29_2 _ _)) rfl (.cons rfl (.cons rfl (.cons rfl (.cons rfl (.cons rfl .nil))))) fun a22 H22 => ?_
  clear H21
  refine h_stL [(w2.heap.size, mcells { PMsg.zero with kind := 10, move := m.move, part := m.part } (.slice none 0 0) (.slice none 0 0), 29), (w1.heap.size, zcells, 29), (W.heap.size, mcells m (.slice A1 m.owner.length c1) (.slice A2 m.set.length c2), 29)] H22 rfl (wn rfl) (R_st H22 rfl rfl rfl (st_int hL rfl)) (hL.put 2 _) fun a23 w23 H23 hL' => ?_
  replace hL := hL'
  clear H22 hL'
  refine h_end ?_
  repeat (go_not_at_region 5; go_step)
  refine wp_region_lit ?_
  refine h_op (m' := [(22, _), (3, _), (2, _), (1, _)]) H23 rfl (wn rfl) (R_fa H23 rfl rfl (fa29_9 _ _)) rfl (.cons rfl (.cons rfl (.cons rfl (.cons rfl .nil)))) fun a24 H24 => ?_
  clear H23
  refine h_op (m' := [(23, _), (3, _), (2, _), (1, _)]) H24 rfl (wn rfl) (R_fa H24 rfl rfl (fa24_0 _ _)) rfl (.cons rfl (.cons rfl (.cons rfl (.cons rfl .nil)))) fun a25 H25 => ?_
  clear H24
  refine h_op (m' := [(24, _), (3, _), (2, _), (1, _)]) H25 rfl (wn rfl) (R_ld H25 rfl rfl (ld_int (hL.cl (g := W.heap.size) (A := mcells m (.slice A1 m.owner.length c1) (.slice A2 m.set.length c2)) (t := 29) (by simp) 9))) rfl (.cons rfl (.cons rfl (.cons rfl (.cons rfl .nil)))) fun a26 H26 => ?_
  clear H25
  refine h_op (m' := [(25, _), (24, _), (3, _), (2, _), (1, _)]) H26 rfl (wn rfl) (R_fa H26 rfl rfl (fa29_9 _ _)) rfl (.cons rfl (.cons rfl (.cons rfl (.cons rfl (.cons rfl .nil))))) fun a27 H27 => ?_
  clear H26
  refine h_op (m' := [(26, _), (24, _), (3, _), (2, _), (1, _)]) H27 rfl (wn rfl) (R_fa H27 rfl rfl (fa24_1 _ _)) rfl (.cons rfl (.cons rfl (.cons rfl (.cons rfl (.cons rfl .nil))))) fun a28 H28 => ?_
  clear H27
  refine h_op (m' := [(27, _), (24, _), (3, _), (2, _), (1, _)]) H28 rfl (wn rfl) (R_ld H28 rfl rfl (ld_int (hL.cl (g := W.heap.size) (A := mcells m (.slice A1 m.owner.length c1) (.slice A2 m.set.length c2)) (t := 29) (by simp) 10))) rfl (.cons rfl (.cons rfl (.cons rfl (.cons rfl (.cons rfl .nil))))) fun a29 H29 => ?_
  clear H28
  refine h_op (m' := [(28, _), (3, _), (2, _), (1, _)]) H29 rfl (wn rfl) (R_bd2 H29 rfl rfl rfl bd_short) rfl (.cons rfl (.cons rfl (.cons rfl (.cons rfl .nil)))) fun a30 H30 => ?_
  clear H29
  refine h_opL ((w23.heap.size, #[.int .i64 0, .int .i64 0, .int .i64 0, .int .u8 0, .string .empty, .int .i64 0, .int .i64 0, .int .i64 0], 24) :: [(w2.heap.size, mcells { PMsg.zero with kind := 10, move := m.move, part := m.part } (.slice none 0 0) (.slice none 0 0), 29), (w1.heap.size, zcells, 29), (W.heap.size, mcells m (.slice A1 m.owner.length c1) (.slice A2 m.set.length c2), 29)]) (m' := [(4, _), (28, _), (3, _), (2, _), (1, _)]) H30 rfl (wn rfl) (R_alloc rfl al_item) (hL.alloc _ _) rfl (.cons rfl (.cons rfl (.cons rfl (.cons rfl (.cons rfl .nil))))) fun a31 w31 H31 hL' => ?_
  replace hL := hL'
  clear H30 hL'
  refine h_stL [(w2.heap.size, mcells { PMsg.zero with kind := 10, move := m.move, part := m.part } (.slice none 0 0) (.slice none 0 0), 29), (w23.heap.size, #[.int .i64 m.isrc, .int .i64 m.iseq, .int .i64 0, .int .u8 0, .string .empty, .int .i64 0, .int .i64 0, .int .i64 0], 24), (w1.heap.size, zcells, 29), (W.heap.size, mcells m (.slice A1 m.owner.length c1) (.slice A2 m.set.length c2), 29)] H31 rfl (wn rfl) (R_st H31 rfl rfl rfl (st_short hL)) ((hL.row #[.int .i64 m.isrc, .int .i64 m.iseq, .int .i64 0, .int .u8 0, .string .empty, .int .i64 0, .int .i64 0, .int .i64 0]).swap) fun a32 w32 H32 hL' => ?_
  replace hL := hL'
  clear H31 hL'
  refine h_end ?_
  repeat (go_not_at_region 6; go_step)
  refine wp_region_lit ?_
  refine h_op (m' := [(29, _), (4, _), (3, _), (2, _), (1, _)]) H32 rfl (wn rfl) (R_fa H32 rfl rfl (fa29_0 _ _)) rfl (.cons rfl (.cons rfl (.cons rfl (.cons rfl (.cons rfl .nil))))) fun a33 H33 => ?_
  clear H32
  refine h_op (m' := [(30, _), (4, _), (3, _), (2, _), (1, _)]) H33 rfl (wn rfl) (R_ld H33 rfl rfl (ld_u8k (hL.cl (g := W.heap.size) (A := mcells m (.slice A1 m.owner.length c1) (.slice A2 m.set.length c2)) (t := 29) (by simp) 0) hc)) rfl (.cons rfl (.cons rfl (.cons rfl (.cons rfl (.cons rfl .nil))))) fun a34 H34 => ?_
  clear H33
  refine h_end ?_
  repeat (go_not_at_region 7; go_step)
  refine wp_region_lit ?_
  refine h_op (m' := [(32, _), (30, _), (4, _), (3, _), (2, _), (1, _)]) H34 rfl (wn rfl) (R_bin H34 rfl rfl rfl (B_to (y := false) (B8_eq _ _) (by decide))) rfl (.cons rfl (.cons rfl (.cons rfl (.cons rfl (.cons rfl (.cons rfl .nil)))))) fun a35 H35 => ?_
  clear H34
  refine h_op (m' := [(31, _), (30, _), (4, _), (3, _), (2, _), (1, _)]) H35 rfl (wn rfl) (R_as H35 rfl rfl) rfl (.cons rfl (.cons rfl (.cons rfl (.cons rfl (.cons rfl (.cons rfl .nil)))))) fun a36 H36 => ?_
  clear H35
  refine h_end ?_
  repeat (go_not_at_region 9; go_step)
  refine wp_cond_false (H36.ev (x := .tmp 31) rfl) ?_
  repeat (go_not_at_region 9; go_step)
  repeat (go_not_at_region 9; go_step)
  refine wp_region_lit ?_
  refine h_op (m' := [(37, _), (30, _), (4, _), (3, _), (2, _), (1, _)]) H36 rfl (wn rfl) (R_bin H36 rfl rfl rfl (B_to (y := false) (B8_eq _ _) (by decide))) rfl (.cons rfl (.cons rfl (.cons rfl (.cons rfl (.cons rfl (.cons rfl .nil)))))) fun a37 H37 => ?_
  clear H36
  refine h_op (m' := [(36, _), (30, _), (4, _), (3, _), (2, _), (1, _)]) H37 rfl (wn rfl) (R_as H37 rfl rfl) rfl (.cons rfl (.cons rfl (.cons rfl (.cons rfl (.cons rfl (.cons rfl .nil)))))) fun a38 H38 => ?_
  clear H37
  refine h_end ?_
  repeat (go_not_at_region 12; go_step)
  refine wp_cond_false (H38.ev (x := .tmp 36) rfl) ?_
  repeat (go_not_at_region 12; go_step)
  repeat (go_not_at_region 12; go_step)
  refine wp_region_lit ?_
  refine h_op (m' := [(44, _), (30, _), (4, _), (3, _), (2, _), (1, _)]) H38 rfl (wn rfl) (R_bin H38 rfl rfl rfl (B_to (y := false) (B8_eq _ _) (by decide))) rfl (.cons rfl (.cons rfl (.cons rfl (.cons rfl (.cons rfl (.cons rfl .nil)))))) fun a39 H39 => ?_
  clear H38
  refine h_op (m' := [(43, _), (30, _), (4, _), (3, _), (2, _), (1, _)]) H39 rfl (wn rfl) (R_as H39 rfl rfl) rfl (.cons rfl (.cons rfl (.cons rfl (.cons rfl (.cons rfl (.cons rfl .nil)))))) fun a40 H40 => ?_
  clear H39
  refine h_end ?_
  repeat (go_not_at_region 15; go_step)
  refine wp_cond_false (H40.ev (x := .tmp 43) rfl) ?_
  repeat (go_not_at_region 15; go_step)
  repeat (go_not_at_region 15; go_step)
  refine wp_region_lit ?_
  refine h_op (m' := [(51, _), (30, _), (4, _), (3, _), (2, _), (1, _)]) H40 rfl (wn rfl) (R_bin H40 rfl rfl rfl (B_to (y := false) (B8_eq _ _) (by decide))) rfl (.cons rfl (.cons rfl (.cons rfl (.cons rfl (.cons rfl (.cons rfl .nil)))))) fun a41 H41 => ?_
  clear H40
  refine h_op (m' := [(50, _), (30, _), (4, _), (3, _), (2, _), (1, _)]) H41 rfl (wn rfl) (R_as H41 rfl rfl) rfl (.cons rfl (.cons rfl (.cons rfl (.cons rfl (.cons rfl (.cons rfl .nil)))))) fun a42 H42 => ?_
  clear H41
  refine h_end ?_
  repeat (go_not_at_region 17; go_step)
  refine wp_cond_false (H42.ev (x := .tmp 50) rfl) ?_
  repeat (go_not_at_region 17; go_step)
  repeat (go_not_at_region 17; go_step)
  refine wp_region_lit ?_
  refine h_op (m' := [(56, _), (30, _), (4, _), (3, _), (2, _), (1, _)]) H42 rfl (wn rfl) (R_bin H42 rfl rfl rfl (B_to (y := false) (B8_eq _ _) (by decide))) rfl (.cons rfl (.cons rfl (.cons rfl (.cons rfl (.cons rfl (.cons rfl .nil)))))) fun a43 H43 => ?_
  clear H42
  refine h_op (m' := [(55, _), (30, _), (4, _), (3, _), (2, _), (1, _)]) H43 rfl (wn rfl) (R_as H43 rfl rfl) rfl (.cons rfl (.cons rfl (.cons rfl (.cons rfl (.cons rfl (.cons rfl .nil)))))) fun a44 H44 => ?_
  clear H43
  refine h_end ?_
  repeat (go_not_at_region 21; go_step)
  refine wp_cond_false (H44.ev (x := .tmp 55) rfl) ?_
  repeat (go_not_at_region 21; go_step)
  repeat (go_not_at_region 21; go_step)
  refine wp_region_lit ?_
  refine h_op (m' := [(67, _), (30, _), (4, _), (3, _), (2, _), (1, _)]) H44 rfl (wn rfl) (R_bin H44 rfl rfl rfl (B_to (y := false) (B8_eq _ _) (by decide))) rfl (.cons rfl (.cons rfl (.cons rfl (.cons rfl (.cons rfl (.cons rfl .nil)))))) fun a45 H45 => ?_
  clear H44
  refine h_op (m' := [(66, _), (30, _), (4, _), (3, _), (2, _), (1, _)]) H45 rfl (wn rfl) (R_as H45 rfl rfl) rfl (.cons rfl (.cons rfl (.cons rfl (.cons rfl (.cons rfl (.cons rfl .nil)))))) fun a46 H46 => ?_
  clear H45
  refine h_end ?_
  repeat (go_not_at_region 24; go_step)
  refine wp_cond_false (H46.ev (x := .tmp 66) rfl) ?_
  repeat (go_not_at_region 24; go_step)
  repeat (go_not_at_region 24; go_step)
  refine wp_region_lit ?_
  refine h_op (m' := [(75, _), (30, _), (4, _), (3, _), (2, _), (1, _)]) H46 rfl (wn rfl) (R_bin H46 rfl rfl rfl (B_to (y := false) (B8_eq _ _) (by decide))) rfl (.cons rfl (.cons rfl (.cons rfl (.cons rfl (.cons rfl (.cons rfl .nil)))))) fun a47 H47 => ?_
  clear H46
  refine h_op (m' := [(74, _), (30, _), (4, _), (3, _), (2, _), (1, _)]) H47 rfl (wn rfl) (R_as H47 rfl rfl) rfl (.cons rfl (.cons rfl (.cons rfl (.cons rfl (.cons rfl (.cons rfl .nil)))))) fun a48 H48 => ?_
  clear H47
  refine h_end ?_
  repeat (go_not_at_region 27; go_step)
  refine wp_cond_false (H48.ev (x := .tmp 74) rfl) ?_
  repeat (go_not_at_region 27; go_step)
  repeat (go_not_at_region 27; go_step)
  refine wp_region_lit ?_
  refine h_op (m' := [(83, _), (30, _), (4, _), (3, _), (2, _), (1, _)]) H48 rfl (wn rfl) (R_bin H48 rfl rfl rfl (B_to (y := false) (B8_eq _ _) (by decide))) rfl (.cons rfl (.cons rfl (.cons rfl (.cons rfl (.cons rfl (.cons rfl .nil)))))) fun a49 H49 => ?_
  clear H48
  refine h_op (m' := [(82, _), (30, _), (4, _), (3, _), (2, _), (1, _)]) H49 rfl (wn rfl) (R_as H49 rfl rfl) rfl (.cons rfl (.cons rfl (.cons rfl (.cons rfl (.cons rfl (.cons rfl .nil)))))) fun a50 H50 => ?_
  clear H49
  refine h_end ?_
  repeat (go_not_at_region 29; go_step)
  refine wp_cond_false (H50.ev (x := .tmp 82) rfl) ?_
  repeat (go_not_at_region 29; go_step)
  repeat (go_not_at_region 29; go_step)
  refine wp_region_lit ?_
  refine h_op (m' := [(88, _), (30, _), (4, _), (3, _), (2, _), (1, _)]) H50 rfl (wn rfl) (R_bin H50 rfl rfl rfl (B_to (y := false) (B8_eq _ _) (by decide))) rfl (.cons rfl (.cons rfl (.cons rfl (.cons rfl (.cons rfl (.cons rfl .nil)))))) fun a51 H51 => ?_
  clear H50
  refine h_op (m' := [(87, _), (30, _), (4, _), (3, _), (2, _), (1, _)]) H51 rfl (wn rfl) (R_as H51 rfl rfl) rfl (.cons rfl (.cons rfl (.cons rfl (.cons rfl (.cons rfl (.cons rfl .nil)))))) fun a52 H52 => ?_
  clear H51
  refine h_end ?_
  repeat (go_not_at_region 33; go_step)
  refine wp_cond_false (H52.ev (x := .tmp 87) rfl) ?_
  repeat (go_not_at_region 33; go_step)
  repeat (go_not_at_region 33; go_step)
  refine wp_region_lit ?_
  refine h_op (m' := [(99, _), (30, _), (4, _), (3, _), (2, _), (1, _)]) H52 rfl (wn rfl) (R_bin H52 rfl rfl rfl (B_to (y := true) (B8_eq _ _) (by decide))) rfl (.cons rfl (.cons rfl (.cons rfl (.cons rfl (.cons rfl (.cons rfl .nil)))))) fun a53 H53 => ?_
  clear H52
  refine h_op (m' := [(98, _), (30, _), (4, _), (3, _), (2, _), (1, _)]) H53 rfl (wn rfl) (R_as H53 rfl rfl) rfl (.cons rfl (.cons rfl (.cons rfl (.cons rfl (.cons rfl (.cons rfl .nil)))))) fun a54 H54 => ?_
  clear H53
  refine h_end ?_
  repeat (go_not_at_region 34; go_step)
  refine wp_cond_true (H54.ev (x := .tmp 98) rfl) ?_
  repeat (go_not_at_region 34; go_step)
  refine wp_region_lit ?_
  refine h_op (m' := [(100, _), (30, _), (4, _), (3, _), (2, _), (1, _)]) H54 rfl (wn rfl) (R_fa H54 rfl rfl (fa29_6 _ _)) rfl (.cons rfl (.cons rfl (.cons rfl (.cons rfl (.cons rfl (.cons rfl .nil)))))) fun a55 H55 => ?_
  clear H54
  refine h_op (m' := [(101, _), (30, _), (4, _), (3, _), (2, _), (1, _)]) H55 rfl (wn rfl) (R_ld H55 rfl rfl (ld_int (hL.cl (g := W.heap.size) (A := mcells m (.slice A1 m.owner.length c1) (.slice A2 m.set.length c2)) (t := 29) (by simp) 6))) rfl (.cons rfl (.cons rfl (.cons rfl (.cons rfl (.cons rfl (.cons rfl .nil)))))) fun a56 H56 => ?_
  clear H55
  refine h_op (m' := [(102, _), (101, _), (30, _), (4, _), (3, _), (2, _), (1, _)]) H56 rfl (wn rfl) (R_fa H56 rfl rfl (fa29_6 _ _)) rfl (.cons rfl (.cons rfl (.cons rfl (.cons rfl (.cons rfl (.cons rfl (.cons rfl .nil))))))) fun a57 H57 => ?_
  clear H56
  refine h_stL [(w2.heap.size, mcells { PMsg.zero with kind := 10, move := m.move, part := m.part, code := m.code } (.slice none 0 0) (.slice none 0 0), 29), (w23.heap.size, #[.int .i64 m.isrc, .int .i64 m.iseq, .int .i64 0, .int .u8 0, .string .empty, .int .i64 0, .int .i64 0, .int .i64 0], 24), (w1.heap.size, zcells, 29), (W.heap.size, mcells m (.slice A1 m.owner.length c1) (.slice A2 m.set.length c2), 29)] H57 rfl (wn rfl) (R_st H57 rfl rfl rfl (st_int hL rfl)) (hL.put 6 _) fun a58 w58 H58 hL' => ?_
  replace hL := hL'
  clear H57 hL'
  refine h_end ?_
  repeat (go_not_at_region 38; go_step)
  refine wp_region_lit ?_
  refine h_op (m' := [(109, _), (2, _)]) H58 rfl (wn rfl) (R_ld H58 rfl rfl (ld_row hL.at_)) rfl (.cons rfl (.cons rfl .nil)) fun a59 H59 => ?_
  clear H58
  refine h_stL [(w1.heap.size, mcells { PMsg.zero with kind := 10, move := m.move, part := m.part, code := m.code } (.slice none 0 0) (.slice none 0 0), 29), (w2.heap.size, mcells { PMsg.zero with kind := 10, move := m.move, part := m.part, code := m.code } (.slice none 0 0) (.slice none 0 0), 29), (w23.heap.size, #[.int .i64 m.isrc, .int .i64 m.iseq, .int .i64 0, .int .u8 0, .string .empty, .int .i64 0, .int .i64 0, .int .i64 0], 24), (W.heap.size, mcells m (.slice A1 m.owner.length c1) (.slice A2 m.set.length c2), 29)] H59 rfl (wn rfl) (R_st H59 rfl rfl rfl (st_row (m2 := .zero) (vo2 := .slice none 0 0) (vs2 := .slice none 0 0) (hL.mem_at (by simp)) (mcells_one rfl rfl))) (hL.third.row _) fun a60 w60 H60 hL' => ?_
  replace hL := hL'
  clear H59 hL'
  refine h_end ?_
  repeat (go_not_at_region 999; go_step)
  have ho' : onlyM m = { PMsg.zero with kind := 10, move := m.move, part := m.part, code := m.code } := by
    unfold onlyM
    rw [hc]
    rfl
  refine bodyPost_ret (v := .agg (mcells { PMsg.zero with kind := 10, move := m.move, part := m.part, code := m.code } (.slice none 0 0) (.slice none 0 0))) (only_results (H60.getD rfl) hL.at_) H60.1 ⟨(.slice none 0 0), (.slice none 0 0), by rw [ho'], ?_, ?_, hL.1⟩
  · intro w h; rw [ho']; exact .inl ⟨rfl, rfl⟩
  · intro w h; rw [ho']; exact .inl ⟨rfl, rfl⟩
set_option maxRecDepth 100000 in
set_option maxHeartbeats 4000000 in
theorem only_11 (hc : m.kind = 11) (ho : Rd W vo m.owner) (hs : Rd W vs m.set) : Calls Try.prog 18 #[.agg (mcells m vo vs)] W fun e W' => ∃ vo' vs', e = .returned (.agg (mcells (onlyM m) vo' vs')) ∧ (∀ w, Rd w vo m.owner → Rd w vo' (onlyM m).owner) ∧ (∀ w, Rd w vs m.set → Rd w vs' (onlyM m).set) ∧ Below W.heap.size W W' := by
  have hL := Live.init W
  obtain ⟨A1, c1, rfl⟩ := ho.slc
  obtain ⟨A2, c2, rfl⟩ := hs.slc
  go_enter Try.func18, Try.ntmps18
  refine wp_fr (n := 110) (m := [(0, _)]) ⟨rfl, rfl, by intro p hp; simp only [List.mem_cons, List.not_mem_nil, or_false] at hp; rcases hp with rfl <;> rfl⟩ fun a0 H0 => ?_
  repeat (go_not_at_region 0; go_step)
  refine wp_region_lit ?_
  refine h_opL [(W.heap.size, mcells m (.slice A1 m.owner.length c1) (.slice A2 m.set.length c2), 29)] (m' := [(1, _)]) H0 rfl (wn rfl) (R_box H0 rfl rfl bx_row) (hL.alloc _ _) rfl (.cons rfl .nil) fun a1 w1 H1 hL' => ?_
  replace hL := hL'
  clear H0 hL'
  refine h_opL [(w1.heap.size, zcells, 29), (W.heap.size, mcells m (.slice A1 m.owner.length c1) (.slice A2 m.set.length c2), 29)] (m' := [(2, _), (1, _)]) H1 rfl (wn rfl) (R_alloc rfl al_row) (hL.alloc _ _) rfl (.cons rfl (.cons rfl .nil)) fun a2 w2 H2 hL' => ?_
  replace hL := hL'
  clear H1 hL'
  refine h_end ?_
  repeat (go_not_at_region 1; go_step)
  refine wp_region_lit ?_
  refine h_op (m' := [(5, _), (2, _), (1, _)]) H2 rfl (wn rfl) (R_fa H2 rfl rfl (fa29_0 _ _)) rfl (.cons rfl (.cons rfl (.cons rfl .nil))) fun a3 H3 => ?_
  clear H2
  refine h_op (m' := [(6, _), (2, _), (1, _)]) H3 rfl (wn rfl) (R_ld H3 rfl rfl (ld_u8k (hL.cl (g := W.heap.size) (A := mcells m (.slice A1 m.owner.length c1) (.slice A2 m.set.length c2)) (t := 29) (by simp) 0) hc)) rfl (.cons rfl (.cons rfl (.cons rfl .nil))) fun a4 H4 => ?_
  clear H3
  refine h_op (m' := [(7, _), (2, _), (1, _)]) H4 rfl (wn rfl) (R_bd1 H4 rfl rfl bd_kind) rfl (.cons rfl (.cons rfl (.cons rfl .nil))) fun a5 H5 => ?_
  clear H4
  refine h_opL [(w2.heap.size, zcells, 29), (w1.heap.size, zcells, 29), (W.heap.size, mcells m (.slice A1 m.owner.length c1) (.slice A2 m.set.length c2), 29)] (m' := [(3, _), (7, _), (2, _), (1, _)]) H5 rfl (wn rfl) (R_alloc rfl al_row) (hL.alloc _ _) rfl (.cons rfl (.cons rfl (.cons rfl (.cons rfl .nil)))) fun a6 w6 H6 hL' => ?_
  replace hL := hL'
  clear H5 hL'
  refine h_stL [(w2.heap.size, mcells { PMsg.zero with kind := 11 } (.slice none 0 0) (.slice none 0 0), 29), (w1.heap.size, zcells, 29), (W.heap.size, mcells m (.slice A1 m.owner.length c1) (.slice A2 m.set.length c2), 29)] H6 rfl (wn rfl) (R_st H6 rfl rfl rfl (st_row (m2 := .zero) (vo2 := .slice none 0 0) (vs2 := .slice none 0 0) hL.at_ (mcells_one rfl rfl))) (hL.row _) fun a7 w7 H7 hL' => ?_
  replace hL := hL'
  clear H6 hL'
  refine h_end ?_
  repeat (go_not_at_region 2; go_step)
  refine wp_region_lit ?_
  refine h_op (m' := [(8, _), (3, _), (2, _), (1, _)]) H7 rfl (wn rfl) (R_fa H7 rfl rfl (fa29_0 _ _)) rfl (.cons rfl (.cons rfl (.cons rfl (.cons rfl .nil)))) fun a8 H8 => ?_
  clear H7
  refine h_op (m' := [(9, _), (3, _), (2, _), (1, _)]) H8 rfl (wn rfl) (R_ld H8 rfl rfl (ld_u8k (hL.cl (g := W.heap.size) (A := mcells m (.slice A1 m.owner.length c1) (.slice A2 m.set.length c2)) (t := 29) (by simp) 0) hc)) rfl (.cons rfl (.cons rfl (.cons rfl (.cons rfl .nil)))) fun a9 H9 => ?_
  clear H8
  refine h_op (m' := [(10, _), (3, _), (2, _), (1, _)]) H9 rfl (wn rfl) (R_bin H9 rfl rfl rfl (B_to (y := true) (B8_ge _ _) (by decide))) rfl (.cons rfl (.cons rfl (.cons rfl (.cons rfl .nil)))) fun a10 H10 => ?_
  clear H9
  refine h_op (m' := [(11, _), (3, _), (2, _), (1, _)]) H10 rfl (wn rfl) (R_mv H10 rfl rfl) rfl (.cons rfl (.cons rfl (.cons rfl (.cons rfl .nil)))) fun a11 H11 => ?_
  clear H10
  refine h_op (m' := [(12, _), (11, _), (3, _), (2, _), (1, _)]) H11 rfl (H11.wt rfl rfl rfl) (R_fa H11 rfl rfl (fa29_0 _ _)) rfl (.cons rfl (.cons rfl (.cons rfl (.cons rfl (.cons rfl .nil))))) fun a12 H12 => ?_
  clear H11
  refine h_op (m' := [(13, _), (11, _), (3, _), (2, _), (1, _)]) H12 rfl (H12.wt rfl rfl rfl) (R_ld H12 rfl rfl (ld_u8k (hL.cl (g := W.heap.size) (A := mcells m (.slice A1 m.owner.length c1) (.slice A2 m.set.length c2)) (t := 29) (by simp) 0) hc)) rfl (.cons rfl (.cons rfl (.cons rfl (.cons rfl (.cons rfl .nil))))) fun a13 H13 => ?_
  clear H12
  refine h_op (m' := [(14, _), (11, _), (3, _), (2, _), (1, _)]) H13 rfl (H13.wt rfl rfl rfl) (R_bin H13 rfl rfl rfl (B_to (y := true) (B8_le _ _) (by decide))) rfl (.cons rfl (.cons rfl (.cons rfl (.cons rfl (.cons rfl .nil))))) fun a14 H14 => ?_
  clear H13
  refine h_op (m' := [(15, _), (3, _), (2, _), (1, _)]) H14 rfl (wn rfl) (R_pick H14 rfl rfl rfl) rfl (.cons rfl (.cons rfl (.cons rfl (.cons rfl .nil)))) fun a15 H15 => ?_
  clear H14
  refine h_end ?_
  repeat (go_not_at_region 3; go_step)
  refine wp_cond_true (H15.ev (x := .tmp 15) rfl) ?_
  repeat (go_not_at_region 3; go_step)
  refine wp_region_lit ?_
  refine h_op (m' := [(16, _), (3, _), (2, _), (1, _)]) H15 rfl (wn rfl) (R_fa H15 rfl rfl (fa29_1 _ _)) rfl (.cons rfl (.cons rfl (.cons rfl (.cons rfl .nil)))) fun a16 H16 => ?_
  clear H15
  refine h_op (m' := [(17, _), (3, _), (2, _), (1, _)]) H16 rfl (wn rfl) (R_ld H16 rfl rfl (ld_int (hL.cl (g := W.heap.size) (A := mcells m (.slice A1 m.owner.length c1) (.slice A2 m.set.length c2)) (t := 29) (by simp) 1))) rfl (.cons rfl (.cons rfl (.cons rfl (.cons rfl .nil)))) fun a17 H17 => ?_
  clear H16
  refine h_op (m' := [(18, _), (17, _), (3, _), (2, _), (1, _)]) H17 rfl (wn rfl) (R_fa H17 rfl rfl (fa29_1 _ _)) rfl (.cons rfl (.cons rfl (.cons rfl (.cons rfl (.cons rfl .nil))))) fun a18 H18 => ?_
  clear H17
  refine h_stL [(w2.heap.size, mcells { PMsg.zero with kind := 11, move := m.move } (.slice none 0 0) (.slice none 0 0), 29), (w1.heap.size, zcells, 29), (W.heap.size, mcells m (.slice A1 m.owner.length c1) (.slice A2 m.set.length c2), 29)] H18 rfl (wn rfl) (R_st H18 rfl rfl rfl (st_int hL rfl)) (hL.put 1 _) fun a19 w19 H19 hL' => ?_
  replace hL := hL'
  clear H18 hL'
  refine h_end ?_
  repeat (go_not_at_region 4; go_step)
  refine wp_region_lit ?_
  refine h_op (m' := [(19, _), (3, _), (2, _), (1, _)]) H19 rfl (wn rfl) (R_fa H19 rfl rfl (fa29_2 _ _)) rfl (.cons rfl (.cons rfl (.cons rfl (.cons rfl .nil)))) fun a20 H20 => ?_
  clear H19
  refine h_op (m' := [(20, _), (3, _), (2, _), (1, _)]) H20 rfl (wn rfl) (R_ld H20 rfl rfl (ld_int (hL.cl (g := W.heap.size) (A := mcells m (.slice A1 m.owner.length c1) (.slice A2 m.set.length c2)) (t := 29) (by simp) 2))) rfl (.cons rfl (.cons rfl (.cons rfl (.cons rfl .nil)))) fun a21 H21 => ?_
  clear H20
  refine h_op (m' := [(21, _), (20, _), (3, _), (2, _), (1, _)]) H21 rfl (wn rfl) (R_fa H21 rfl rfl (fa29_2 _ _)) rfl (.cons rfl (.cons rfl (.cons rfl (.cons rfl (.cons rfl .nil))))) fun a22 H22 => ?_
  clear H21
  refine h_stL [(w2.heap.size, mcells { PMsg.zero with kind := 11, move := m.move, part := m.part } (.slice none 0 0) (.slice none 0 0), 29), (w1.heap.size, zcells, 29), (W.heap.size, mcells m (.slice A1 m.owner.length c1) (.slice A2 m.set.length c2), 29)] H22 rfl (wn rfl) (R_st H22 rfl rfl rfl (st_int hL rfl)) (hL.put 2 _) fun a23 w23 H23 hL' => ?_
  replace hL := hL'
  clear H22 hL'
  refine h_end ?_
  repeat (go_not_at_region 5; go_step)
  refine wp_region_lit ?_
  refine h_op (m' := [(22, _), (3, _), (2, _), (1, _)]) H23 rfl (wn rfl) (R_fa H23 rfl rfl (fa29_9 _ _)) rfl (.cons rfl (.cons rfl (.cons rfl (.cons rfl .nil)))) fun a24 H24 => ?_
  clear H23
  refine h_op (m' := [(23, _), (3, _), (2, _), (1, _)]) H24 rfl (wn rfl) (R_fa H24 rfl rfl (fa24_0 _ _)) rfl (.cons rfl (.cons rfl (.cons rfl (.cons rfl .nil)))) fun a25 H25 => ?_
  clear H24
  refine h_op (m' := [(24, _), (3, _), (2, _), (1, _)]) H25 rfl (wn rfl) (R_ld H25 rfl rfl (ld_int (hL.cl (g := W.heap.size) (A := mcells m (.slice A1 m.owner.length c1) (.slice A2 m.set.length c2)) (t := 29) (by simp) 9))) rfl (.cons rfl (.cons rfl (.cons rfl (.cons rfl .nil)))) fun a26 H26 => ?_
  clear H25
  refine h_op (m' := [(25, _), (24, _), (3, _), (2, _), (1, _)]) H26 rfl (wn rfl) (R_fa H26 rfl rfl (fa29_9 _ _)) rfl (.cons rfl (.cons rfl (.cons rfl (.cons rfl (.cons rfl .nil))))) fun a27 H27 => ?_
  clear H26
  refine h_op (m' := [(26, _), (24, _), (3, _), (2, _), (1, _)]) H27 rfl (wn rfl) (R_fa H27 rfl rfl (fa24_1 _ _)) rfl (.cons rfl (.cons rfl (.cons rfl (.cons rfl (.cons rfl .nil))))) fun a28 H28 => ?_
  clear H27
  refine h_op (m' := [(27, _), (24, _), (3, _), (2, _), (1, _)]) H28 rfl (wn rfl) (R_ld H28 rfl rfl (ld_int (hL.cl (g := W.heap.size) (A := mcells m (.slice A1 m.owner.length c1) (.slice A2 m.set.length c2)) (t := 29) (by simp) 10))) rfl (.cons rfl (.cons rfl (.cons rfl (.cons rfl (.cons rfl .nil))))) fun a29 H29 => ?_
  clear H28
  refine h_op (m' := [(28, _), (3, _), (2, _), (1, _)]) H29 rfl (wn rfl) (R_bd2 H29 rfl rfl rfl bd_short) rfl (.cons rfl (.cons rfl (.cons rfl (.cons rfl .nil)))) fun a30 H30 => ?_
  clear H29
  refine h_opL ((w23.heap.size, #[.int .i64 0, .int .i64 0, .int .i64 0, .int .u8 0, .string .empty, .int .i64 0, .int .i64 0, .int .i64 0], 24) :: [(w2.heap.size, mcells { PMsg.zero with kind := 11, move := m.move, part := m.part } (.slice none 0 0) (.slice none 0 0), 29), (w1.heap.size, zcells, 29), (W.heap.size, mcells m (.slice A1 m.owner.length c1) (.slice A2 m.set.length c2), 29)]) (m' := [(4, _), (28, _), (3, _), (2, _), (1, _)]) H30 rfl (wn rfl) (R_alloc rfl al_item) (hL.alloc _ _) rfl (.cons rfl (.cons rfl (.cons rfl (.cons rfl (.cons rfl .nil))))) fun a31 w31 H31 hL' => ?_
  replace hL := hL'
  clear H30 hL'
  refine h_stL [(w2.heap.size, mcells { PMsg.zero with kind := 11, move := m.move, part := m.part } (.slice none 0 0) (.slice none 0 0), 29), (w23.heap.size, #[.int .i64 m.isrc, .int .i64 m.iseq, .int .i64 0, .int .u8 0, .string .empty, .int .i64 0, .int .i64 0, .int .i64 0], 24), (w1.heap.size, zcells, 29), (W.heap.size, mcells m (.slice A1 m.owner.length c1) (.slice A2 m.set.length c2), 29)] H31 rfl (wn rfl) (R_st H31 rfl rfl rfl (st_short hL)) ((hL.row #[.int .i64 m.isrc, .int .i64 m.iseq, .int .i64 0, .int .u8 0, .string .empty, .int .i64 0, .int .i64 0, .int .i64 0]).swap) fun a32 w32 H32 hL' => ?_
  replace hL := hL'
  clear H31 hL'
  refine h_end ?_
  repeat (go_not_at_region 6; go_step)
  refine wp_region_lit ?_
  refine h_op (m' := [(29, _), (4, _), (3, _), (2, _), (1, _)]) H32 rfl (wn rfl) (R_fa H32 rfl rfl (fa29_0 _ _)) rfl (.cons rfl (.cons rfl (.cons rfl (.cons rfl (.cons rfl .nil))))) fun a33 H33 => ?_
  clear H32
  refine h_op (m' := [(30, _), (4, _), (3, _), (2, _), (1, _)]) H33 rfl (wn rfl) (R_ld H33 rfl rfl (ld_u8k (hL.cl (g := W.heap.size) (A := mcells m (.slice A1 m.owner.length c1) (.slice A2 m.set.length c2)) (t := 29) (by simp) 0) hc)) rfl (.cons rfl (.cons rfl (.cons rfl (.cons rfl (.cons rfl .nil))))) fun a34 H34 => ?_
  clear H33
  refine h_end ?_
  repeat (go_not_at_region 7; go_step)
  refine wp_region_lit ?_
  refine h_op (m' := [(32, _), (30, _), (4, _), (3, _), (2, _), (1, _)]) H34 rfl (wn rfl) (R_bin H34 rfl rfl rfl (B_to (y := false) (B8_eq _ _) (by decide))) rfl (.cons rfl (.cons rfl (.cons rfl (.cons rfl (.cons rfl (.cons rfl .nil)))))) fun a35 H35 => ?_
  clear H34
  refine h_op (m' := [(31, _), (30, _), (4, _), (3, _), (2, _), (1, _)]) H35 rfl (wn rfl) (R_as H35 rfl rfl) rfl (.cons rfl (.cons rfl (.cons rfl (.cons rfl (.cons rfl (.cons rfl .nil)))))) fun a36 H36 => ?_
  clear H35
  refine h_end ?_
  repeat (go_not_at_region 9; go_step)
  refine wp_cond_false (H36.ev (x := .tmp 31) rfl) ?_
  repeat (go_not_at_region 9; go_step)
  repeat (go_not_at_region 9; go_step)
  refine wp_region_lit ?_
  refine h_op (m' := [(37, _), (30, _), (4, _), (3, _), (2, _), (1, _)]) H36 rfl (wn rfl) (R_bin H36 rfl rfl rfl (B_to (y := false) (B8_eq _ _) (by decide))) rfl (.cons rfl (.cons rfl (.cons rfl (.cons rfl (.cons rfl (.cons rfl .nil)))))) fun a37 H37 => ?_
  clear H36
  refine h_op (m' := [(36, _), (30, _), (4, _), (3, _), (2, _), (1, _)]) H37 rfl (wn rfl) (R_as H37 rfl rfl) rfl (.cons rfl (.cons rfl (.cons rfl (.cons rfl (.cons rfl (.cons rfl .nil)))))) fun a38 H38 => ?_
  clear H37
  refine h_end ?_
  repeat (go_not_at_region 12; go_step)
  refine wp_cond_false (H38.ev (x := .tmp 36) rfl) ?_
  repeat (go_not_at_region 12; go_step)
  repeat (go_not_at_region 12; go_step)
  refine wp_region_lit ?_
  refine h_op (m' := [(44, _), (30, _), (4, _), (3, _), (2, _), (1, _)]) H38 rfl (wn rfl) (R_bin H38 rfl rfl rfl (B_to (y := false) (B8_eq _ _) (by decide))) rfl (.cons rfl (.cons rfl (.cons rfl (.cons rfl (.cons rfl (.cons rfl .nil)))))) fun a39 H39 => ?_
  clear H38
  refine h_op (m' := [(43, _), (30, _), (4, _), (3, _), (2, _), (1, _)]) H39 rfl (wn rfl) (R_as H39 rfl rfl) rfl (.cons rfl (.cons rfl (.cons rfl (.cons rfl (.cons rfl (.cons rfl .nil)))))) fun a40 H40 => ?_
  clear H39
  refine h_end ?_
  repeat (go_not_at_region 15; go_step)
  refine wp_cond_false (H40.ev (x := .tmp 43) rfl) ?_
  repeat (go_not_at_region 15; go_step)
  repeat (go_not_at_region 15; go_step)
  refine wp_region_lit ?_
  refine h_op (m' := [(51, _), (30, _), (4, _), (3, _), (2, _), (1, _)]) H40 rfl (wn rfl) (R_bin H40 rfl rfl rfl (B_to (y := false) (B8_eq _ _) (by decide))) rfl (.cons rfl (.cons rfl (.cons rfl (.cons rfl (.cons rfl (.cons rfl .nil)))))) fun a41 H41 => ?_
  clear H40
  refine h_op (m' := [(50, _), (30, _), (4, _), (3, _), (2, _), (1, _)]) H41 rfl (wn rfl) (R_as H41 rfl rfl) rfl (.cons rfl (.cons rfl (.cons rfl (.cons rfl (.cons rfl (.cons rfl .nil)))))) fun a42 H42 => ?_
  clear H41
  refine h_end ?_
  repeat (go_not_at_region 17; go_step)
  refine wp_cond_false (H42.ev (x := .tmp 50) rfl) ?_
  repeat (go_not_at_region 17; go_step)
  repeat (go_not_at_region 17; go_step)
  refine wp_region_lit ?_
  refine h_op (m' := [(56, _), (30, _), (4, _), (3, _), (2, _), (1, _)]) H42 rfl (wn rfl) (R_bin H42 rfl rfl rfl (B_to (y := false) (B8_eq _ _) (by decide))) rfl (.cons rfl (.cons rfl (.cons rfl (.cons rfl (.cons rfl (.cons rfl .nil)))))) fun a43 H43 => ?_
  clear H42
  refine h_op (m' := [(55, _), (30, _), (4, _), (3, _), (2, _), (1, _)]) H43 rfl (wn rfl) (R_as H43 rfl rfl) rfl (.cons rfl (.cons rfl (.cons rfl (.cons rfl (.cons rfl (.cons rfl .nil)))))) fun a44 H44 => ?_
  clear H43
  refine h_end ?_
  repeat (go_not_at_region 21; go_step)
  refine wp_cond_false (H44.ev (x := .tmp 55) rfl) ?_
  repeat (go_not_at_region 21; go_step)
  repeat (go_not_at_region 21; go_step)
  refine wp_region_lit ?_
  refine h_op (m' := [(67, _), (30, _), (4, _), (3, _), (2, _), (1, _)]) H44 rfl (wn rfl) (R_bin H44 rfl rfl rfl (B_to (y := false) (B8_eq _ _) (by decide))) rfl (.cons rfl (.cons rfl (.cons rfl (.cons rfl (.cons rfl (.cons rfl .nil)))))) fun a45 H45 => ?_
  clear H44
  refine h_op (m' := [(66, _), (30, _), (4, _), (3, _), (2, _), (1, _)]) H45 rfl (wn rfl) (R_as H45 rfl rfl) rfl (.cons rfl (.cons rfl (.cons rfl (.cons rfl (.cons rfl (.cons rfl .nil)))))) fun a46 H46 => ?_
  clear H45
  refine h_end ?_
  repeat (go_not_at_region 24; go_step)
  refine wp_cond_false (H46.ev (x := .tmp 66) rfl) ?_
  repeat (go_not_at_region 24; go_step)
  repeat (go_not_at_region 24; go_step)
  refine wp_region_lit ?_
  refine h_op (m' := [(75, _), (30, _), (4, _), (3, _), (2, _), (1, _)]) H46 rfl (wn rfl) (R_bin H46 rfl rfl rfl (B_to (y := false) (B8_eq _ _) (by decide))) rfl (.cons rfl (.cons rfl (.cons rfl (.cons rfl (.cons rfl (.cons rfl .nil)))))) fun a47 H47 => ?_
  clear H46
  refine h_op (m' := [(74, _), (30, _), (4, _), (3, _), (2, _), (1, _)]) H47 rfl (wn rfl) (R_as H47 rfl rfl) rfl (.cons rfl (.cons rfl (.cons rfl (.cons rfl (.cons rfl (.cons rfl .nil)))))) fun a48 H48 => ?_
  clear H47
  refine h_end ?_
  repeat (go_not_at_region 27; go_step)
  refine wp_cond_false (H48.ev (x := .tmp 74) rfl) ?_
  repeat (go_not_at_region 27; go_step)
  repeat (go_not_at_region 27; go_step)
  refine wp_region_lit ?_
  refine h_op (m' := [(83, _), (30, _), (4, _), (3, _), (2, _), (1, _)]) H48 rfl (wn rfl) (R_bin H48 rfl rfl rfl (B_to (y := false) (B8_eq _ _) (by decide))) rfl (.cons rfl (.cons rfl (.cons rfl (.cons rfl (.cons rfl (.cons rfl .nil)))))) fun a49 H49 => ?_
  clear H48
  refine h_op (m' := [(82, _), (30, _), (4, _), (3, _), (2, _), (1, _)]) H49 rfl (wn rfl) (R_as H49 rfl rfl) rfl (.cons rfl (.cons rfl (.cons rfl (.cons rfl (.cons rfl (.cons rfl .nil)))))) fun a50 H50 => ?_
  clear H49
  refine h_end ?_
  repeat (go_not_at_region 29; go_step)
  refine wp_cond_false (H50.ev (x := .tmp 82) rfl) ?_
  repeat (go_not_at_region 29; go_step)
  repeat (go_not_at_region 29; go_step)
  refine wp_region_lit ?_
  refine h_op (m' := [(88, _), (30, _), (4, _), (3, _), (2, _), (1, _)]) H50 rfl (wn rfl) (R_bin H50 rfl rfl rfl (B_to (y := false) (B8_eq _ _) (by decide))) rfl (.cons rfl (.cons rfl (.cons rfl (.cons rfl (.cons rfl (.cons rfl .nil)))))) fun a51 H51 => ?_
  clear H50
  refine h_op (m' := [(87, _), (30, _), (4, _), (3, _), (2, _), (1, _)]) H51 rfl (wn rfl) (R_as H51 rfl rfl) rfl (.cons rfl (.cons rfl (.cons rfl (.cons rfl (.cons rfl (.cons rfl .nil)))))) fun a52 H52 => ?_
  clear H51
  refine h_end ?_
  repeat (go_not_at_region 33; go_step)
  refine wp_cond_false (H52.ev (x := .tmp 87) rfl) ?_
  repeat (go_not_at_region 33; go_step)
  repeat (go_not_at_region 33; go_step)
  refine wp_region_lit ?_
  refine h_op (m' := [(99, _), (30, _), (4, _), (3, _), (2, _), (1, _)]) H52 rfl (wn rfl) (R_bin H52 rfl rfl rfl (B_to (y := false) (B8_eq _ _) (by decide))) rfl (.cons rfl (.cons rfl (.cons rfl (.cons rfl (.cons rfl (.cons rfl .nil)))))) fun a53 H53 => ?_
  clear H52
  refine h_op (m' := [(98, _), (30, _), (4, _), (3, _), (2, _), (1, _)]) H53 rfl (wn rfl) (R_as H53 rfl rfl) rfl (.cons rfl (.cons rfl (.cons rfl (.cons rfl (.cons rfl (.cons rfl .nil)))))) fun a54 H54 => ?_
  clear H53
  refine h_end ?_
  repeat (go_not_at_region 35; go_step)
  refine wp_cond_false (H54.ev (x := .tmp 98) rfl) ?_
  repeat (go_not_at_region 35; go_step)
  repeat (go_not_at_region 35; go_step)
  refine wp_region_lit ?_
  refine h_op (m' := [(104, _), (30, _), (4, _), (3, _), (2, _), (1, _)]) H54 rfl (wn rfl) (R_bin H54 rfl rfl rfl (B_to (y := true) (B8_eq _ _) (by decide))) rfl (.cons rfl (.cons rfl (.cons rfl (.cons rfl (.cons rfl (.cons rfl .nil)))))) fun a55 H55 => ?_
  clear H54
  refine h_op (m' := [(103, _), (30, _), (4, _), (3, _), (2, _), (1, _)]) H55 rfl (wn rfl) (R_as H55 rfl rfl) rfl (.cons rfl (.cons rfl (.cons rfl (.cons rfl (.cons rfl (.cons rfl .nil)))))) fun a56 H56 => ?_
  clear H55
  refine h_end ?_
  repeat (go_not_at_region 37; go_step)
  refine wp_cond_true (H56.ev (x := .tmp 103) rfl) ?_
  repeat (go_not_at_region 37; go_step)
  refine wp_cond_true (H56.ev (x := .tmp 103) rfl) ?_
  repeat (go_not_at_region 37; go_step)
  refine wp_region_lit ?_
  refine h_op (m' := [(106, _), (30, _), (4, _), (3, _), (2, _), (1, _)]) H56 rfl (wn rfl) (R_fa H56 rfl rfl (fa29_10 _ _)) rfl (.cons rfl (.cons rfl (.cons rfl (.cons rfl (.cons rfl (.cons rfl .nil)))))) fun a57 H57 => ?_
  clear H56
  refine h_op (m' := [(107, _), (30, _), (4, _), (3, _), (2, _), (1, _)]) H57 rfl (wn rfl) (R_ld H57 rfl rfl (ld_tab (hL.cl (g := W.heap.size) (A := mcells m (.slice A1 m.owner.length c1) (.slice A2 m.set.length c2)) (t := 29) (by simp) 17) (hL.cl (g := W.heap.size) (A := mcells m (.slice A1 m.owner.length c1) (.slice A2 m.set.length c2)) (t := 29) (by simp) 18) (hL.cl (g := W.heap.size) (A := mcells m (.slice A1 m.owner.length c1) (.slice A2 m.set.length c2)) (t := 29) (by simp) 19))) rfl (.cons rfl (.cons rfl (.cons rfl (.cons rfl (.cons rfl (.cons rfl .nil)))))) fun a58 H58 => ?_
  clear H57
  refine h_op (m' := [(108, _), (107, _), (30, _), (4, _), (3, _), (2, _), (1, _)]) H58 rfl (wn rfl) (R_fa H58 rfl rfl (fa29_10 _ _)) rfl (.cons rfl (.cons rfl (.cons rfl (.cons rfl (.cons rfl (.cons rfl (.cons rfl .nil))))))) fun a59 H59 => ?_
  clear H58
  refine h_stL [(w2.heap.size, mcells { PMsg.zero with kind := 11, move := m.move, part := m.part, epoch := m.epoch, nodes := m.nodes, owner := m.owner } (.slice A1 m.owner.length c1) (.slice none 0 0), 29), (w23.heap.size, #[.int .i64 m.isrc, .int .i64 m.iseq, .int .i64 0, .int .u8 0, .string .empty, .int .i64 0, .int .i64 0, .int .i64 0], 24), (w1.heap.size, zcells, 29), (W.heap.size, mcells m (.slice A1 m.owner.length c1) (.slice A2 m.set.length c2), 29)] H59 rfl (wn rfl) (R_st H59 rfl rfl rfl (st_tabM hL)) (hL.tabM m.epoch m.nodes (.slice A1 m.owner.length c1) m.owner) fun a60 w60 H60 hL' => ?_
  replace hL := hL'
  clear H59 hL'
  refine h_end ?_
  repeat (go_not_at_region 38; go_step)
  refine wp_region_lit ?_
  refine h_op (m' := [(109, _), (2, _)]) H60 rfl (wn rfl) (R_ld H60 rfl rfl (ld_row hL.at_)) rfl (.cons rfl (.cons rfl .nil)) fun a61 H61 => ?_
  clear H60
  refine h_stL [(w1.heap.size, mcells { PMsg.zero with kind := 11, move := m.move, part := m.part, epoch := m.epoch, nodes := m.nodes, owner := m.owner } (.slice A1 m.owner.length c1) (.slice none 0 0), 29), (w2.heap.size, mcells { PMsg.zero with kind := 11, move := m.move, part := m.part, epoch := m.epoch, nodes := m.nodes, owner := m.owner } (.slice A1 m.owner.length c1) (.slice none 0 0), 29), (w23.heap.size, #[.int .i64 m.isrc, .int .i64 m.iseq, .int .i64 0, .int .u8 0, .string .empty, .int .i64 0, .int .i64 0, .int .i64 0], 24), (W.heap.size, mcells m (.slice A1 m.owner.length c1) (.slice A2 m.set.length c2), 29)] H61 rfl (wn rfl) (R_st H61 rfl rfl rfl (st_row (m2 := .zero) (vo2 := .slice none 0 0) (vs2 := .slice none 0 0) (hL.mem_at (by simp)) (mcells_one rfl rfl))) (hL.third.row _) fun a62 w62 H62 hL' => ?_
  replace hL := hL'
  clear H61 hL'
  refine h_end ?_
  repeat (go_not_at_region 999; go_step)
  have ho' : onlyM m = { PMsg.zero with kind := 11, move := m.move, part := m.part, epoch := m.epoch, nodes := m.nodes, owner := m.owner } := by
    unfold onlyM
    rw [hc]
    rfl
  refine bodyPost_ret (v := .agg (mcells { PMsg.zero with kind := 11, move := m.move, part := m.part, epoch := m.epoch, nodes := m.nodes, owner := m.owner } (.slice A1 m.owner.length c1) (.slice none 0 0))) (only_results (H62.getD rfl) hL.at_) H62.1 ⟨(.slice A1 m.owner.length c1), (.slice none 0 0), by rw [ho'], ?_, ?_, hL.1⟩
  · intro w h; rw [ho']; exact h
  · intro w h; rw [ho']; exact .inl ⟨rfl, rfl⟩
set_option maxRecDepth 100000 in
set_option maxHeartbeats 4000000 in
theorem only_12 (hc : m.kind = 12) (ho : Rd W vo m.owner) (hs : Rd W vs m.set) : Calls Try.prog 18 #[.agg (mcells m vo vs)] W fun e W' => ∃ vo' vs', e = .returned (.agg (mcells (onlyM m) vo' vs')) ∧ (∀ w, Rd w vo m.owner → Rd w vo' (onlyM m).owner) ∧ (∀ w, Rd w vs m.set → Rd w vs' (onlyM m).set) ∧ Below W.heap.size W W' := by
  have hL := Live.init W
  obtain ⟨A1, c1, rfl⟩ := ho.slc
  obtain ⟨A2, c2, rfl⟩ := hs.slc
  go_enter Try.func18, Try.ntmps18
  refine wp_fr (n := 110) (m := [(0, _)]) ⟨rfl, rfl, by intro p hp; simp only [List.mem_cons, List.not_mem_nil, or_false] at hp; rcases hp with rfl <;> rfl⟩ fun a0 H0 => ?_
  repeat (go_not_at_region 0; go_step)
  refine wp_region_lit ?_
  refine h_opL [(W.heap.size, mcells m (.slice A1 m.owner.length c1) (.slice A2 m.set.length c2), 29)] (m' := [(1, _)]) H0 rfl (wn rfl) (R_box H0 rfl rfl bx_row) (hL.alloc _ _) rfl (.cons rfl .nil) fun a1 w1 H1 hL' => ?_
  replace hL := hL'
  clear H0 hL'
  refine h_opL [(w1.heap.size, zcells, 29), (W.heap.size, mcells m (.slice A1 m.owner.length c1) (.slice A2 m.set.length c2), 29)] (m' := [(2, _), (1, _)]) H1 rfl (wn rfl) (R_alloc rfl al_row) (hL.alloc _ _) rfl (.cons rfl (.cons rfl .nil)) fun a2 w2 H2 hL' => ?_
  replace hL := hL'
  clear H1 hL'
  refine h_end ?_
  repeat (go_not_at_region 1; go_step)
  refine wp_region_lit ?_
  refine h_op (m' := [(5, _), (2, _), (1, _)]) H2 rfl (wn rfl) (R_fa H2 rfl rfl (fa29_0 _ _)) rfl (.cons rfl (.cons rfl (.cons rfl .nil))) fun a3 H3 => ?_
  clear H2
  refine h_op (m' := [(6, _), (2, _), (1, _)]) H3 rfl (wn rfl) (R_ld H3 rfl rfl (ld_u8k (hL.cl (g := W.heap.size) (A := mcells m (.slice A1 m.owner.length c1) (.slice A2 m.set.length c2)) (t := 29) (by simp) 0) hc)) rfl (.cons rfl (.cons rfl (.cons rfl .nil))) fun a4 H4 => ?_
  clear H3
  refine h_op (m' := [(7, _), (2, _), (1, _)]) H4 rfl (wn rfl) (R_bd1 H4 rfl rfl bd_kind) rfl (.cons rfl (.cons rfl (.cons rfl .nil))) fun a5 H5 => ?_
  clear H4
  refine h_opL [(w2.heap.size, zcells, 29), (w1.heap.size, zcells, 29), (W.heap.size, mcells m (.slice A1 m.owner.length c1) (.slice A2 m.set.length c2), 29)] (m' := [(3, _), (7, _), (2, _), (1, _)]) H5 rfl (wn rfl) (R_alloc rfl al_row) (hL.alloc _ _) rfl (.cons rfl (.cons rfl (.cons rfl (.cons rfl .nil)))) fun a6 w6 H6 hL' => ?_
  replace hL := hL'
  clear H5 hL'
  refine h_stL [(w2.heap.size, mcells { PMsg.zero with kind := 12 } (.slice none 0 0) (.slice none 0 0), 29), (w1.heap.size, zcells, 29), (W.heap.size, mcells m (.slice A1 m.owner.length c1) (.slice A2 m.set.length c2), 29)] H6 rfl (wn rfl) (R_st H6 rfl rfl rfl (st_row (m2 := .zero) (vo2 := .slice none 0 0) (vs2 := .slice none 0 0) hL.at_ (mcells_one rfl rfl))) (hL.row _) fun a7 w7 H7 hL' => ?_
  replace hL := hL'
  clear H6 hL'
  refine h_end ?_
  repeat (go_not_at_region 2; go_step)
  refine wp_region_lit ?_
  refine h_op (m' := [(8, _), (3, _), (2, _), (1, _)]) H7 rfl (wn rfl) (R_fa H7 rfl rfl (fa29_0 _ _)) rfl (.cons rfl (.cons rfl (.cons rfl (.cons rfl .nil)))) fun a8 H8 => ?_
  clear H7
  refine h_op (m' := [(9, _), (3, _), (2, _), (1, _)]) H8 rfl (wn rfl) (R_ld H8 rfl rfl (ld_u8k (hL.cl (g := W.heap.size) (A := mcells m (.slice A1 m.owner.length c1) (.slice A2 m.set.length c2)) (t := 29) (by simp) 0) hc)) rfl (.cons rfl (.cons rfl (.cons rfl (.cons rfl .nil)))) fun a9 H9 => ?_
  clear H8
  refine h_op (m' := [(10, _), (3, _), (2, _), (1, _)]) H9 rfl (wn rfl) (R_bin H9 rfl rfl rfl (B_to (y := true) (B8_ge _ _) (by decide))) rfl (.cons rfl (.cons rfl (.cons rfl (.cons rfl .nil)))) fun a10 H10 => ?_
  clear H9
  refine h_op (m' := [(11, _), (3, _), (2, _), (1, _)]) H10 rfl (wn rfl) (R_mv H10 rfl rfl) rfl (.cons rfl (.cons rfl (.cons rfl (.cons rfl .nil)))) fun a11 H11 => ?_
  clear H10
  refine h_op (m' := [(12, _), (11, _), (3, _), (2, _), (1, _)]) H11 rfl (H11.wt rfl rfl rfl) (R_fa H11 rfl rfl (fa29_0 _ _)) rfl (.cons rfl (.cons rfl (.cons rfl (.cons rfl (.cons rfl .nil))))) fun a12 H12 => ?_
  clear H11
  refine h_op (m' := [(13, _), (11, _), (3, _), (2, _), (1, _)]) H12 rfl (H12.wt rfl rfl rfl) (R_ld H12 rfl rfl (ld_u8k (hL.cl (g := W.heap.size) (A := mcells m (.slice A1 m.owner.length c1) (.slice A2 m.set.length c2)) (t := 29) (by simp) 0) hc)) rfl (.cons rfl (.cons rfl (.cons rfl (.cons rfl (.cons rfl .nil))))) fun a13 H13 => ?_
  clear H12
  refine h_op (m' := [(14, _), (11, _), (3, _), (2, _), (1, _)]) H13 rfl (H13.wt rfl rfl rfl) (R_bin H13 rfl rfl rfl (B_to (y := true) (B8_le _ _) (by decide))) rfl (.cons rfl (.cons rfl (.cons rfl (.cons rfl (.cons rfl .nil))))) fun a14 H14 => ?_
  clear H13
  refine h_op (m' := [(15, _), (3, _), (2, _), (1, _)]) H14 rfl (wn rfl) (R_pick H14 rfl rfl rfl) rfl (.cons rfl (.cons rfl (.cons rfl (.cons rfl .nil)))) fun a15 H15 => ?_
  clear H14
  refine h_end ?_
  repeat (go_not_at_region 3; go_step)
  refine wp_cond_true (H15.ev (x := .tmp 15) rfl) ?_
  repeat (go_not_at_region 3; go_step)
  refine wp_region_lit ?_
  refine h_op (m' := [(16, _), (3, _), (2, _), (1, _)]) H15 rfl (wn rfl) (R_fa H15 rfl rfl (fa29_1 _ _)) rfl (.cons rfl (.cons rfl (.cons rfl (.cons rfl .nil)))) fun a16 H16 => ?_
  clear H15
  refine h_op (m' := [(17, _), (3, _), (2, _), (1, _)]) H16 rfl (wn rfl) (R_ld H16 rfl rfl (ld_int (hL.cl (g := W.heap.size) (A := mcells m (.slice A1 m.owner.length c1) (.slice A2 m.set.length c2)) (t := 29) (by simp) 1))) rfl (.cons rfl (.cons rfl (.cons rfl (.cons rfl .nil)))) fun a17 H17 => ?_
  clear H16
  refine h_op (m' := [(18, _), (17, _), (3, _), (2, _), (1, _)]) H17 rfl (wn rfl) (R_fa H17 rfl rfl (fa29_1 _ _)) rfl (.cons rfl (.cons rfl (.cons rfl (.cons rfl (.cons rfl .nil))))) fun a18 H18 => ?_
  clear H17
  refine h_stL [(w2.heap.size, mcells { PMsg.zero with kind := 12, move := m.move } (.slice none 0 0) (.slice none 0 0), 29), (w1.heap.size, zcells, 29), (W.heap.size, mcells m (.slice A1 m.owner.length c1) (.slice A2 m.set.length c2), 29)] H18 rfl (wn rfl) (R_st H18 rfl rfl rfl (st_int hL rfl)) (hL.put 1 _) fun a19 w19 H19 hL' => ?_
  replace hL := hL'
  clear H18 hL'
  refine h_end ?_
  repeat (go_not_at_region 4; go_step)
  refine wp_region_lit ?_
  refine h_op (m' := [(19, _), (3, _), (2, _), (1, _)]) H19 rfl (wn rfl) (R_fa H19 rfl rfl (fa29_2 _ _)) rfl (.cons rfl (.cons rfl (.cons rfl (.cons rfl .nil)))) fun a20 H20 => ?_
  clear H19
  refine h_op (m' := [(20, _), (3, _), (2, _), (1, _)]) H20 rfl (wn rfl) (R_ld H20 rfl rfl (ld_int (hL.cl (g := W.heap.size) (A := mcells m (.slice A1 m.owner.length c1) (.slice A2 m.set.length c2)) (t := 29) (by simp) 2))) rfl (.cons rfl (.cons rfl (.cons rfl (.cons rfl .nil)))) fun a21 H21 => ?_
  clear H20
  refine h_op (m' := [(21, _), (20, _), (3, _), (2, _), (1, _)]) H21 rfl (wn rfl) (R_fa H21 rfl rfl (fa29_2 _ _)) rfl (.cons rfl (.cons rfl (.cons rfl (.cons rfl (.cons rfl .nil))))) fun a22 H22 => ?_
  clear H21
  refine h_stL [(w2.heap.size, mcells { PMsg.zero with kind := 12, move := m.move, part := m.part } (.slice none 0 0) (.slice none 0 0), 29), (w1.heap.size, zcells, 29), (W.heap.size, mcells m (.slice A1 m.owner.length c1) (.slice A2 m.set.length c2), 29)] H22 rfl (wn rfl) (R_st H22 rfl rfl rfl (st_int hL rfl)) (hL.put 2 _) fun a23 w23 H23 hL' => ?_
  replace hL := hL'
  clear H22 hL'
  refine h_end ?_
  repeat (go_not_at_region 5; go_step)
  refine wp_region_lit ?_
  refine h_op (m' := [(22, _), (3, _), (2, _), (1, _)]) H23 rfl (wn rfl) (R_fa H23 rfl rfl (fa29_9 _ _)) rfl (.cons rfl (.cons rfl (.cons rfl (.cons rfl .nil)))) fun a24 H24 => ?_
  clear H23
  refine h_op (m' := [(23, _), (3, _), (2, _), (1, _)]) H24 rfl (wn rfl) (R_fa H24 rfl rfl (fa24_0 _ _)) rfl (.cons rfl (.cons rfl (.cons rfl (.cons rfl .nil)))) fun a25 H25 => ?_
  clear H24
  refine h_op (m' := [(24, _), (3, _), (2, _), (1, _)]) H25 rfl (wn rfl) (R_ld H25 rfl rfl (ld_int (hL.cl (g := W.heap.size) (A := mcells m (.slice A1 m.owner.length c1) (.slice A2 m.set.length c2)) (t := 29) (by simp) 9))) rfl (.cons rfl (.cons rfl (.cons rfl (.cons rfl .nil)))) fun a26 H26 => ?_
  clear H25
  refine h_op (m' := [(25, _), (24, _), (3, _), (2, _), (1, _)]) H26 rfl (wn rfl) (R_fa H26 rfl rfl (fa29_9 _ _)) rfl (.cons rfl (.cons rfl (.cons rfl (.cons rfl (.cons rfl .nil))))) fun a27 H27 => ?_
  clear H26
  refine h_op (m' := [(26, _), (24, _), (3, _), (2, _), (1, _)]) H27 rfl (wn rfl) (R_fa H27 rfl rfl (fa24_1 _ _)) rfl (.cons rfl (.cons rfl (.cons rfl (.cons rfl (.cons rfl .nil))))) fun a28 H28 => ?_
  clear H27
  refine h_op (m' := [(27, _), (24, _), (3, _), (2, _), (1, _)]) H28 rfl (wn rfl) (R_ld H28 rfl rfl (ld_int (hL.cl (g := W.heap.size) (A := mcells m (.slice A1 m.owner.length c1) (.slice A2 m.set.length c2)) (t := 29) (by simp) 10))) rfl (.cons rfl (.cons rfl (.cons rfl (.cons rfl (.cons rfl .nil))))) fun a29 H29 => ?_
  clear H28
  refine h_op (m' := [(28, _), (3, _), (2, _), (1, _)]) H29 rfl (wn rfl) (R_bd2 H29 rfl rfl rfl bd_short) rfl (.cons rfl (.cons rfl (.cons rfl (.cons rfl .nil)))) fun a30 H30 => ?_
  clear H29
  refine h_opL ((w23.heap.size, #[.int .i64 0, .int .i64 0, .int .i64 0, .int .u8 0, .string .empty, .int .i64 0, .int .i64 0, .int .i64 0], 24) :: [(w2.heap.size, mcells { PMsg.zero with kind := 12, move := m.move, part := m.part } (.slice none 0 0) (.slice none 0 0), 29), (w1.heap.size, zcells, 29), (W.heap.size, mcells m (.slice A1 m.owner.length c1) (.slice A2 m.set.length c2), 29)]) (m' := [(4, _), (28, _), (3, _), (2, _), (1, _)]) H30 rfl (wn rfl) (R_alloc rfl al_item) (hL.alloc _ _) rfl (.cons rfl (.cons rfl (.cons rfl (.cons rfl (.cons rfl .nil))))) fun a31 w31 H31 hL' => ?_
  replace hL := hL'
  clear H30 hL'
  refine h_stL [(w2.heap.size, mcells { PMsg.zero with kind := 12, move := m.move, part := m.part } (.slice none 0 0) (.slice none 0 0), 29), (w23.heap.size, #[.int .i64 m.isrc, .int .i64 m.iseq, .int .i64 0, .int .u8 0, .string .empty, .int .i64 0, .int .i64 0, .int .i64 0], 24), (w1.heap.size, zcells, 29), (W.heap.size, mcells m (.slice A1 m.owner.length c1) (.slice A2 m.set.length c2), 29)] H31 rfl (wn rfl) (R_st H31 rfl rfl rfl (st_short hL)) ((hL.row #[.int .i64 m.isrc, .int .i64 m.iseq, .int .i64 0, .int .u8 0, .string .empty, .int .i64 0, .int .i64 0, .int .i64 0]).swap) fun a32 w32 H32 hL' => ?_
  replace hL := hL'
  clear H31 hL'
  refine h_end ?_
  repeat (go_not_at_region 6; go_step)
  refine wp_region_lit ?_
  refine h_op (m' := [(29, _), (4, _), (3, _), (2, _), (1, _)]) H32 rfl (wn rfl) (R_fa H32 rfl rfl (fa29_0 _ _)) rfl (.cons rfl (.cons rfl (.cons rfl (.cons rfl (.cons rfl .nil))))) fun a33 H33 => ?_
  clear H32
  refine h_op (m' := [(30, _), (4, _), (3, _), (2, _), (1, _)]) H33 rfl (wn rfl) (R_ld H33 rfl rfl (ld_u8k (hL.cl (g := W.heap.size) (A := mcells m (.slice A1 m.owner.length c1) (.slice A2 m.set.length c2)) (t := 29) (by simp) 0) hc)) rfl (.cons rfl (.cons rfl (.cons rfl (.cons rfl (.cons rfl .nil))))) fun a34 H34 => ?_
  clear H33
  refine h_end ?_
  repeat (go_not_at_region 7; go_step)
  refine wp_region_lit ?_
  refine h_op (m' := [(32, _), (30, _), (4, _), (3, _), (2, _), (1, _)]) H34 rfl (wn rfl) (R_bin H34 rfl rfl rfl (B_to (y := false) (B8_eq _ _) (by decide))) rfl (.cons rfl (.cons rfl (.cons rfl (.cons rfl (.cons rfl (.cons rfl .nil)))))) fun a35 H35 => ?_
  clear H34
  refine h_op (m' := [(31, _), (30, _), (4, _), (3, _), (2, _), (1, _)]) H35 rfl (wn rfl) (R_as H35 rfl rfl) rfl (.cons rfl (.cons rfl (.cons rfl (.cons rfl (.cons rfl (.cons rfl .nil)))))) fun a36 H36 => ?_
  clear H35
  refine h_end ?_
  repeat (go_not_at_region 9; go_step)
  refine wp_cond_false (H36.ev (x := .tmp 31) rfl) ?_
  repeat (go_not_at_region 9; go_step)
  repeat (go_not_at_region 9; go_step)
  refine wp_region_lit ?_
  refine h_op (m' := [(37, _), (30, _), (4, _), (3, _), (2, _), (1, _)]) H36 rfl (wn rfl) (R_bin H36 rfl rfl rfl (B_to (y := false) (B8_eq _ _) (by decide))) rfl (.cons rfl (.cons rfl (.cons rfl (.cons rfl (.cons rfl (.cons rfl .nil)))))) fun a37 H37 => ?_
  clear H36
  refine h_op (m' := [(36, _), (30, _), (4, _), (3, _), (2, _), (1, _)]) H37 rfl (wn rfl) (R_as H37 rfl rfl) rfl (.cons rfl (.cons rfl (.cons rfl (.cons rfl (.cons rfl (.cons rfl .nil)))))) fun a38 H38 => ?_
  clear H37
  refine h_end ?_
  repeat (go_not_at_region 12; go_step)
  refine wp_cond_false (H38.ev (x := .tmp 36) rfl) ?_
  repeat (go_not_at_region 12; go_step)
  repeat (go_not_at_region 12; go_step)
  refine wp_region_lit ?_
  refine h_op (m' := [(44, _), (30, _), (4, _), (3, _), (2, _), (1, _)]) H38 rfl (wn rfl) (R_bin H38 rfl rfl rfl (B_to (y := false) (B8_eq _ _) (by decide))) rfl (.cons rfl (.cons rfl (.cons rfl (.cons rfl (.cons rfl (.cons rfl .nil)))))) fun a39 H39 => ?_
  clear H38
  refine h_op (m' := [(43, _), (30, _), (4, _), (3, _), (2, _), (1, _)]) H39 rfl (wn rfl) (R_as H39 rfl rfl) rfl (.cons rfl (.cons rfl (.cons rfl (.cons rfl (.cons rfl (.cons rfl .nil)))))) fun a40 H40 => ?_
  clear H39
  refine h_end ?_
  repeat (go_not_at_region 15; go_step)
  refine wp_cond_false (H40.ev (x := .tmp 43) rfl) ?_
  repeat (go_not_at_region 15; go_step)
  repeat (go_not_at_region 15; go_step)
  refine wp_region_lit ?_
  refine h_op (m' := [(51, _), (30, _), (4, _), (3, _), (2, _), (1, _)]) H40 rfl (wn rfl) (R_bin H40 rfl rfl rfl (B_to (y := false) (B8_eq _ _) (by decide))) rfl (.cons rfl (.cons rfl (.cons rfl (.cons rfl (.cons rfl (.cons rfl .nil)))))) fun a41 H41 => ?_
  clear H40
  refine h_op (m' := [(50, _), (30, _), (4, _), (3, _), (2, _), (1, _)]) H41 rfl (wn rfl) (R_as H41 rfl rfl) rfl (.cons rfl (.cons rfl (.cons rfl (.cons rfl (.cons rfl (.cons rfl .nil)))))) fun a42 H42 => ?_
  clear H41
  refine h_end ?_
  repeat (go_not_at_region 17; go_step)
  refine wp_cond_false (H42.ev (x := .tmp 50) rfl) ?_
  repeat (go_not_at_region 17; go_step)
  repeat (go_not_at_region 17; go_step)
  refine wp_region_lit ?_
  refine h_op (m' := [(56, _), (30, _), (4, _), (3, _), (2, _), (1, _)]) H42 rfl (wn rfl) (R_bin H42 rfl rfl rfl (B_to (y := false) (B8_eq _ _) (by decide))) rfl (.cons rfl (.cons rfl (.cons rfl (.cons rfl (.cons rfl (.cons rfl .nil)))))) fun a43 H43 => ?_
  clear H42
  refine h_op (m' := [(55, _), (30, _), (4, _), (3, _), (2, _), (1, _)]) H43 rfl (wn rfl) (R_as H43 rfl rfl) rfl (.cons rfl (.cons rfl (.cons rfl (.cons rfl (.cons rfl (.cons rfl .nil)))))) fun a44 H44 => ?_
  clear H43
  refine h_end ?_
  repeat (go_not_at_region 21; go_step)
  refine wp_cond_false (H44.ev (x := .tmp 55) rfl) ?_
  repeat (go_not_at_region 21; go_step)
  repeat (go_not_at_region 21; go_step)
  refine wp_region_lit ?_
  refine h_op (m' := [(67, _), (30, _), (4, _), (3, _), (2, _), (1, _)]) H44 rfl (wn rfl) (R_bin H44 rfl rfl rfl (B_to (y := false) (B8_eq _ _) (by decide))) rfl (.cons rfl (.cons rfl (.cons rfl (.cons rfl (.cons rfl (.cons rfl .nil)))))) fun a45 H45 => ?_
  clear H44
  refine h_op (m' := [(66, _), (30, _), (4, _), (3, _), (2, _), (1, _)]) H45 rfl (wn rfl) (R_as H45 rfl rfl) rfl (.cons rfl (.cons rfl (.cons rfl (.cons rfl (.cons rfl (.cons rfl .nil)))))) fun a46 H46 => ?_
  clear H45
  refine h_end ?_
  repeat (go_not_at_region 24; go_step)
  refine wp_cond_false (H46.ev (x := .tmp 66) rfl) ?_
  repeat (go_not_at_region 24; go_step)
  repeat (go_not_at_region 24; go_step)
  refine wp_region_lit ?_
  refine h_op (m' := [(75, _), (30, _), (4, _), (3, _), (2, _), (1, _)]) H46 rfl (wn rfl) (R_bin H46 rfl rfl rfl (B_to (y := false) (B8_eq _ _) (by decide))) rfl (.cons rfl (.cons rfl (.cons rfl (.cons rfl (.cons rfl (.cons rfl .nil)))))) fun a47 H47 => ?_
  clear H46
  refine h_op (m' := [(74, _), (30, _), (4, _), (3, _), (2, _), (1, _)]) H47 rfl (wn rfl) (R_as H47 rfl rfl) rfl (.cons rfl (.cons rfl (.cons rfl (.cons rfl (.cons rfl (.cons rfl .nil)))))) fun a48 H48 => ?_
  clear H47
  refine h_end ?_
  repeat (go_not_at_region 27; go_step)
  refine wp_cond_false (H48.ev (x := .tmp 74) rfl) ?_
  repeat (go_not_at_region 27; go_step)
  repeat (go_not_at_region 27; go_step)
  refine wp_region_lit ?_
  refine h_op (m' := [(83, _), (30, _), (4, _), (3, _), (2, _), (1, _)]) H48 rfl (wn rfl) (R_bin H48 rfl rfl rfl (B_to (y := false) (B8_eq _ _) (by decide))) rfl (.cons rfl (.cons rfl (.cons rfl (.cons rfl (.cons rfl (.cons rfl .nil)))))) fun a49 H49 => ?_
  clear H48
  refine h_op (m' := [(82, _), (30, _), (4, _), (3, _), (2, _), (1, _)]) H49 rfl (wn rfl) (R_as H49 rfl rfl) rfl (.cons rfl (.cons rfl (.cons rfl (.cons rfl (.cons rfl (.cons rfl .nil)))))) fun a50 H50 => ?_
  clear H49
  refine h_end ?_
  repeat (go_not_at_region 29; go_step)
  refine wp_cond_false (H50.ev (x := .tmp 82) rfl) ?_
  repeat (go_not_at_region 29; go_step)
  repeat (go_not_at_region 29; go_step)
  refine wp_region_lit ?_
  refine h_op (m' := [(88, _), (30, _), (4, _), (3, _), (2, _), (1, _)]) H50 rfl (wn rfl) (R_bin H50 rfl rfl rfl (B_to (y := false) (B8_eq _ _) (by decide))) rfl (.cons rfl (.cons rfl (.cons rfl (.cons rfl (.cons rfl (.cons rfl .nil)))))) fun a51 H51 => ?_
  clear H50
  refine h_op (m' := [(87, _), (30, _), (4, _), (3, _), (2, _), (1, _)]) H51 rfl (wn rfl) (R_as H51 rfl rfl) rfl (.cons rfl (.cons rfl (.cons rfl (.cons rfl (.cons rfl (.cons rfl .nil)))))) fun a52 H52 => ?_
  clear H51
  refine h_end ?_
  repeat (go_not_at_region 33; go_step)
  refine wp_cond_false (H52.ev (x := .tmp 87) rfl) ?_
  repeat (go_not_at_region 33; go_step)
  repeat (go_not_at_region 33; go_step)
  refine wp_region_lit ?_
  refine h_op (m' := [(99, _), (30, _), (4, _), (3, _), (2, _), (1, _)]) H52 rfl (wn rfl) (R_bin H52 rfl rfl rfl (B_to (y := false) (B8_eq _ _) (by decide))) rfl (.cons rfl (.cons rfl (.cons rfl (.cons rfl (.cons rfl (.cons rfl .nil)))))) fun a53 H53 => ?_
  clear H52
  refine h_op (m' := [(98, _), (30, _), (4, _), (3, _), (2, _), (1, _)]) H53 rfl (wn rfl) (R_as H53 rfl rfl) rfl (.cons rfl (.cons rfl (.cons rfl (.cons rfl (.cons rfl (.cons rfl .nil)))))) fun a54 H54 => ?_
  clear H53
  refine h_end ?_
  repeat (go_not_at_region 35; go_step)
  refine wp_cond_false (H54.ev (x := .tmp 98) rfl) ?_
  repeat (go_not_at_region 35; go_step)
  repeat (go_not_at_region 35; go_step)
  refine wp_region_lit ?_
  refine h_op (m' := [(104, _), (30, _), (4, _), (3, _), (2, _), (1, _)]) H54 rfl (wn rfl) (R_bin H54 rfl rfl rfl (B_to (y := false) (B8_eq _ _) (by decide))) rfl (.cons rfl (.cons rfl (.cons rfl (.cons rfl (.cons rfl (.cons rfl .nil)))))) fun a55 H55 => ?_
  clear H54
  refine h_op (m' := [(103, _), (30, _), (4, _), (3, _), (2, _), (1, _)]) H55 rfl (wn rfl) (R_as H55 rfl rfl) rfl (.cons rfl (.cons rfl (.cons rfl (.cons rfl (.cons rfl (.cons rfl .nil)))))) fun a56 H56 => ?_
  clear H55
  refine h_end ?_
  repeat (go_not_at_region 36; go_step)
  refine wp_cond_false (H56.ev (x := .tmp 103) rfl) ?_
  repeat (go_not_at_region 36; go_step)
  repeat (go_not_at_region 36; go_step)
  refine wp_region_lit ?_
  refine h_op (m' := [(105, _), (103, _), (30, _), (4, _), (3, _), (2, _), (1, _)]) H56 rfl (wn rfl) (R_bin H56 rfl rfl rfl (B_to (y := false) (B8_eq _ _) (by decide))) rfl (.cons rfl (.cons rfl (.cons rfl (.cons rfl (.cons rfl (.cons rfl (.cons rfl .nil))))))) fun a57 H57 => ?_
  clear H56
  refine h_op (m' := [(103, _), (30, _), (4, _), (3, _), (2, _), (1, _)]) H57 rfl (wn rfl) (R_as H57 rfl rfl) rfl (.cons rfl (.cons rfl (.cons rfl (.cons rfl (.cons rfl (.cons rfl .nil)))))) fun a58 H58 => ?_
  clear H57
  refine h_end ?_
  repeat (go_not_at_region 38; go_step)
  refine wp_cond_false (H58.ev (x := .tmp 103) rfl) ?_
  repeat (go_not_at_region 38; go_step)
  refine wp_region_lit ?_
  refine h_op (m' := [(109, _), (2, _)]) H58 rfl (wn rfl) (R_ld H58 rfl rfl (ld_row hL.at_)) rfl (.cons rfl (.cons rfl .nil)) fun a59 H59 => ?_
  clear H58
  refine h_stL [(w1.heap.size, mcells { PMsg.zero with kind := 12, move := m.move, part := m.part } (.slice none 0 0) (.slice none 0 0), 29), (w2.heap.size, mcells { PMsg.zero with kind := 12, move := m.move, part := m.part } (.slice none 0 0) (.slice none 0 0), 29), (w23.heap.size, #[.int .i64 m.isrc, .int .i64 m.iseq, .int .i64 0, .int .u8 0, .string .empty, .int .i64 0, .int .i64 0, .int .i64 0], 24), (W.heap.size, mcells m (.slice A1 m.owner.length c1) (.slice A2 m.set.length c2), 29)] H59 rfl (wn rfl) (R_st H59 rfl rfl rfl (st_row (m2 := .zero) (vo2 := .slice none 0 0) (vs2 := .slice none 0 0) (hL.mem_at (by simp)) (mcells_one rfl rfl))) (hL.third.row _) fun a60 w60 H60 hL' => ?_
  replace hL := hL'
  clear H59 hL'
  refine h_end ?_
  repeat (go_not_at_region 999; go_step)
  have ho' : onlyM m = { PMsg.zero with kind := 12, move := m.move, part := m.part } := by
    unfold onlyM
    rw [hc]
    rfl
  refine bodyPost_ret (v := .agg (mcells { PMsg.zero with kind := 12, move := m.move, part := m.part } (.slice none 0 0) (.slice none 0 0))) (only_results (H60.getD rfl) hL.at_) H60.1 ⟨(.slice none 0 0), (.slice none 0 0), by rw [ho'], ?_, ?_, hL.1⟩
  · intro w h; rw [ho']; exact .inl ⟨rfl, rfl⟩
  · intro w h; rw [ho']; exact .inl ⟨rfl, rfl⟩
set_option maxRecDepth 100000 in
set_option maxHeartbeats 4000000 in
theorem only_13 (hc : m.kind = 13) (ho : Rd W vo m.owner) (hs : Rd W vs m.set) : Calls Try.prog 18 #[.agg (mcells m vo vs)] W fun e W' => ∃ vo' vs', e = .returned (.agg (mcells (onlyM m) vo' vs')) ∧ (∀ w, Rd w vo m.owner → Rd w vo' (onlyM m).owner) ∧ (∀ w, Rd w vs m.set → Rd w vs' (onlyM m).set) ∧ Below W.heap.size W W' := by
  have hL := Live.init W
  obtain ⟨A1, c1, rfl⟩ := ho.slc
  obtain ⟨A2, c2, rfl⟩ := hs.slc
  go_enter Try.func18, Try.ntmps18
  refine wp_fr (n := 110) (m := [(0, _)]) ⟨rfl, rfl, by intro p hp; simp only [List.mem_cons, List.not_mem_nil, or_false] at hp; rcases hp with rfl <;> rfl⟩ fun a0 H0 => ?_
  repeat (go_not_at_region 0; go_step)
  refine wp_region_lit ?_
  refine h_opL [(W.heap.size, mcells m (.slice A1 m.owner.length c1) (.slice A2 m.set.length c2), 29)] (m' := [(1, _)]) H0 rfl (wn rfl) (R_box H0 rfl rfl bx_row) (hL.alloc _ _) rfl (.cons rfl .nil) fun a1 w1 H1 hL' => ?_
  replace hL := hL'
  clear H0 hL'
  refine h_opL [(w1.heap.size, zcells, 29), (W.heap.size, mcells m (.slice A1 m.owner.length c1) (.slice A2 m.set.length c2), 29)] (m' := [(2, _), (1, _)]) H1 rfl (wn rfl) (R_alloc rfl al_row) (hL.alloc _ _) rfl (.cons rfl (.cons rfl .nil)) fun a2 w2 H2 hL' => ?_
  replace hL := hL'
  clear H1 hL'
  refine h_end ?_
  repeat (go_not_at_region 1; go_step)
  refine wp_region_lit ?_
  refine h_op (m' := [(5, _), (2, _), (1, _)]) H2 rfl (wn rfl) (R_fa H2 rfl rfl (fa29_0 _ _)) rfl (.cons rfl (.cons rfl (.cons rfl .nil))) fun a3 H3 => ?_
  clear H2
  refine h_op (m' := [(6, _), (2, _), (1, _)]) H3 rfl (wn rfl) (R_ld H3 rfl rfl (ld_u8k (hL.cl (g := W.heap.size) (A := mcells m (.slice A1 m.owner.length c1) (.slice A2 m.set.length c2)) (t := 29) (by simp) 0) hc)) rfl (.cons rfl (.cons rfl (.cons rfl .nil))) fun a4 H4 => ?_
  clear H3
  refine h_op (m' := [(7, _), (2, _), (1, _)]) H4 rfl (wn rfl) (R_bd1 H4 rfl rfl bd_kind) rfl (.cons rfl (.cons rfl (.cons rfl .nil))) fun a5 H5 => ?_
  clear H4
  refine h_opL [(w2.heap.size, zcells, 29), (w1.heap.size, zcells, 29), (W.heap.size, mcells m (.slice A1 m.owner.length c1) (.slice A2 m.set.length c2), 29)] (m' := [(3, _), (7, _), (2, _), (1, _)]) H5 rfl (wn rfl) (R_alloc rfl al_row) (hL.alloc _ _) rfl (.cons rfl (.cons rfl (.cons rfl (.cons rfl .nil)))) fun a6 w6 H6 hL' => ?_
  replace hL := hL'
  clear H5 hL'
  refine h_stL [(w2.heap.size, mcells { PMsg.zero with kind := 13 } (.slice none 0 0) (.slice none 0 0), 29), (w1.heap.size, zcells, 29), (W.heap.size, mcells m (.slice A1 m.owner.length c1) (.slice A2 m.set.length c2), 29)] H6 rfl (wn rfl) (R_st H6 rfl rfl rfl (st_row (m2 := .zero) (vo2 := .slice none 0 0) (vs2 := .slice none 0 0) hL.at_ (mcells_one rfl rfl))) (hL.row _) fun a7 w7 H7 hL' => ?_
  replace hL := hL'
  clear H6 hL'
  refine h_end ?_
  repeat (go_not_at_region 2; go_step)
  refine wp_region_lit ?_
  refine h_op (m' := [(8, _), (3, _), (2, _), (1, _)]) H7 rfl (wn rfl) (R_fa H7 rfl rfl (fa29_0 _ _)) rfl (.cons rfl (.cons rfl (.cons rfl (.cons rfl .nil)))) fun a8 H8 => ?_
  clear H7
  refine h_op (m' := [(9, _), (3, _), (2, _), (1, _)]) H8 rfl (wn rfl) (R_ld H8 rfl rfl (ld_u8k (hL.cl (g := W.heap.size) (A := mcells m (.slice A1 m.owner.length c1) (.slice A2 m.set.length c2)) (t := 29) (by simp) 0) hc)) rfl (.cons rfl (.cons rfl (.cons rfl (.cons rfl .nil)))) fun a9 H9 => ?_
  clear H8
  refine h_op (m' := [(10, _), (3, _), (2, _), (1, _)]) H9 rfl (wn rfl) (R_bin H9 rfl rfl rfl (B_to (y := true) (B8_ge _ _) (by decide))) rfl (.cons rfl (.cons rfl (.cons rfl (.cons rfl .nil)))) fun a10 H10 => ?_
  clear H9
  refine h_op (m' := [(11, _), (3, _), (2, _), (1, _)]) H10 rfl (wn rfl) (R_mv H10 rfl rfl) rfl (.cons rfl (.cons rfl (.cons rfl (.cons rfl .nil)))) fun a11 H11 => ?_
  clear H10
  refine h_op (m' := [(12, _), (11, _), (3, _), (2, _), (1, _)]) H11 rfl (H11.wt rfl rfl rfl) (R_fa H11 rfl rfl (fa29_0 _ _)) rfl (.cons rfl (.cons rfl (.cons rfl (.cons rfl (.cons rfl .nil))))) fun a12 H12 => ?_
  clear H11
  refine h_op (m' := [(13, _), (11, _), (3, _), (2, _), (1, _)]) H12 rfl (H12.wt rfl rfl rfl) (R_ld H12 rfl rfl (ld_u8k (hL.cl (g := W.heap.size) (A := mcells m (.slice A1 m.owner.length c1) (.slice A2 m.set.length c2)) (t := 29) (by simp) 0) hc)) rfl (.cons rfl (.cons rfl (.cons rfl (.cons rfl (.cons rfl .nil))))) fun a13 H13 => ?_
  clear H12
  refine h_op (m' := [(14, _), (11, _), (3, _), (2, _), (1, _)]) H13 rfl (H13.wt rfl rfl rfl) (R_bin H13 rfl rfl rfl (B_to (y := true) (B8_le _ _) (by decide))) rfl (.cons rfl (.cons rfl (.cons rfl (.cons rfl (.cons rfl .nil))))) fun a14 H14 => ?_
  clear H13
  refine h_op (m' := [(15, _), (3, _), (2, _), (1, _)]) H14 rfl (wn rfl) (R_pick H14 rfl rfl rfl) rfl (.cons rfl (.cons rfl (.cons rfl (.cons rfl .nil)))) fun a15 H15 => ?_
  clear H14
  refine h_end ?_
  repeat (go_not_at_region 3; go_step)
  refine wp_cond_true (H15.ev (x := .tmp 15) rfl) ?_
  repeat (go_not_at_region 3; go_step)
  refine wp_region_lit ?_
  refine h_op (m' := [(16, _), (3, _), (2, _), (1, _)]) H15 rfl (wn rfl) (R_fa H15 rfl rfl (fa29_1 _ _)) rfl (.cons rfl (.cons rfl (.cons rfl (.cons rfl .nil)))) fun a16 H16 => ?_
  clear H15
  refine h_op (m' := [(17, _), (3, _), (2, _), (1, _)]) H16 rfl (wn rfl) (R_ld H16 rfl rfl (ld_int (hL.cl (g := W.heap.size) (A := mcells m (.slice A1 m.owner.length c1) (.slice A2 m.set.length c2)) (t := 29) (by simp) 1))) rfl (.cons rfl (.cons rfl (.cons rfl (.cons rfl .nil)))) fun a17 H17 => ?_
  clear H16
  refine h_op (m' := [(18, _), (17, _), (3, _), (2, _), (1, _)]) H17 rfl (wn rfl) (R_fa H17 rfl rfl (fa29_1 _ _)) rfl (.cons rfl (.cons rfl (.cons rfl (.cons rfl (.cons rfl .nil))))) fun a18 H18 => ?_
  clear H17
  refine h_stL [(w2.heap.size, mcells { PMsg.zero with kind := 13, move := m.move } (.slice none 0 0) (.slice none 0 0), 29), (w1.heap.size, zcells, 29), (W.heap.size, mcells m (.slice A1 m.owner.length c1) (.slice A2 m.set.length c2), 29)] H18 rfl (wn rfl) (R_st H18 rfl rfl rfl (st_int hL rfl)) (hL.put 1 _) fun a19 w19 H19 hL' => ?_
  replace hL := hL'
  clear H18 hL'
  refine h_end ?_
  repeat (go_not_at_region 4; go_step)
  refine wp_region_lit ?_
  refine h_op (m' := [(19, _), (3, _), (2, _), (1, _)]) H19 rfl (wn rfl) (R_fa H19 rfl rfl (fa29_2 _ _)) rfl (.cons rfl (.cons rfl (.cons rfl (.cons rfl .nil)))) fun a20 H20 => ?_
  clear H19
  refine h_op (m' := [(20, _), (3, _), (2, _), (1, _)]) H20 rfl (wn rfl) (R_ld H20 rfl rfl (ld_int (hL.cl (g := W.heap.size) (A := mcells m (.slice A1 m.owner.length c1) (.slice A2 m.set.length c2)) (t := 29) (by simp) 2))) rfl (.cons rfl (.cons rfl (.cons rfl (.cons rfl .nil)))) fun a21 H21 => ?_
  clear H20
  refine h_op (m' := [(21, _), (20, _), (3, _), (2, _), (1, _)]) H21 rfl (wn rfl) (R_fa H21 rfl rfl (fa29_2 _ _)) rfl (.cons rfl (.cons rfl (.cons rfl (.cons rfl (.cons rfl .nil))))) fun a22 H22 => ?_
  clear H21
  refine h_stL [(w2.heap.size, mcells { PMsg.zero with kind := 13, move := m.move, part := m.part } (.slice none 0 0) (.slice none 0 0), 29), (w1.heap.size, zcells, 29), (W.heap.size, mcells m (.slice A1 m.owner.length c1) (.slice A2 m.set.length c2), 29)] H22 rfl (wn rfl) (R_st H22 rfl rfl rfl (st_int hL rfl)) (hL.put 2 _) fun a23 w23 H23 hL' => ?_
  replace hL := hL'
  clear H22 hL'
  refine h_end ?_
  repeat (go_not_at_region 5; go_step)
  refine wp_region_lit ?_
  refine h_op (m' := [(22, _), (3, _), (2, _), (1, _)]) H23 rfl (wn rfl) (R_fa H23 rfl rfl (fa29_9 _ _)) rfl (.cons rfl (.cons rfl (.cons rfl (.cons rfl .nil)))) fun a24 H24 => ?_
  clear H23
  refine h_op (m' := [(23, _), (3, _), (2, _), (1, _)]) H24 rfl (wn rfl) (R_fa H24 rfl rfl (fa24_0 _ _)) rfl (.cons rfl (.cons rfl (.cons rfl (.cons rfl .nil)))) fun a25 H25 => ?_
  clear H24
  refine h_op (m' := [(24, _), (3, _), (2, _), (1, _)]) H25 rfl (wn rfl) (R_ld H25 rfl rfl (ld_int (hL.cl (g := W.heap.size) (A := mcells m (.slice A1 m.owner.length c1) (.slice A2 m.set.length c2)) (t := 29) (by simp) 9))) rfl (.cons rfl (.cons rfl (.cons rfl (.cons rfl .nil)))) fun a26 H26 => ?_
  clear H25
  refine h_op (m' := [(25, _), (24, _), (3, _), (2, _), (1, _)]) H26 rfl (wn rfl) (R_fa H26 rfl rfl (fa29_9 _ _)) rfl (.cons rfl (.cons rfl (.cons rfl (.cons rfl (.cons rfl .nil))))) fun a27 H27 => ?_
  clear H26
  refine h_op (m' := [(26, _), (24, _), (3, _), (2, _), (1, _)]) H27 rfl (wn rfl) (R_fa H27 rfl rfl (fa24_1 _ _)) rfl (.cons rfl (.cons rfl (.cons rfl (.cons rfl (.cons rfl .nil))))) fun a28 H28 => ?_
  clear H27
  refine h_op (m' := [(27, _), (24, _), (3, _), (2, _), (1, _)]) H28 rfl (wn rfl) (R_ld H28 rfl rfl (ld_int (hL.cl (g := W.heap.size) (A := mcells m (.slice A1 m.owner.length c1) (.slice A2 m.set.length c2)) (t := 29) (by simp) 10))) rfl (.cons rfl (.cons rfl (.cons rfl (.cons rfl (.cons rfl .nil))))) fun a29 H29 => ?_
  clear H28
  refine h_op (m' := [(28, _), (3, _), (2, _), (1, _)]) H29 rfl (wn rfl) (R_bd2 H29 rfl rfl rfl bd_short) rfl (.cons rfl (.cons rfl (.cons rfl (.cons rfl .nil)))) fun a30 H30 => ?_
  clear H29
  refine h_opL ((w23.heap.size, #[.int .i64 0, .int .i64 0, .int .i64 0, .int .u8 0, .string .empty, .int .i64 0, .int .i64 0, .int .i64 0], 24) :: [(w2.heap.size, mcells { PMsg.zero with kind := 13, move := m.move, part := m.part } (.slice none 0 0) (.slice none 0 0), 29), (w1.heap.size, zcells, 29), (W.heap.size, mcells m (.slice A1 m.owner.length c1) (.slice A2 m.set.length c2), 29)]) (m' := [(4, _), (28, _), (3, _), (2, _), (1, _)]) H30 rfl (wn rfl) (R_alloc rfl al_item) (hL.alloc _ _) rfl (.cons rfl (.cons rfl (.cons rfl (.cons rfl (.cons rfl .nil))))) fun a31 w31 H31 hL' => ?_
  replace hL := hL'
  clear H30 hL'
  refine h_stL [(w2.heap.size, mcells { PMsg.zero with kind := 13, move := m.move, part := m.part } (.slice none 0 0) (.slice none 0 0), 29), (w23.heap.size, #[.int .i64 m.isrc, .int .i64 m.iseq, .int .i64 0, .int .u8 0, .string .empty, .int .i64 0, .int .i64 0, .int .i64 0], 24), (w1.heap.size, zcells, 29), (W.heap.size, mcells m (.slice A1 m.owner.length c1) (.slice A2 m.set.length c2), 29)] H31 rfl (wn rfl) (R_st H31 rfl rfl rfl (st_short hL)) ((hL.row #[.int .i64 m.isrc, .int .i64 m.iseq, .int .i64 0, .int .u8 0, .string .empty, .int .i64 0, .int .i64 0, .int .i64 0]).swap) fun a32 w32 H32 hL' => ?_
  replace hL := hL'
  clear H31 hL'
  refine h_end ?_
  repeat (go_not_at_region 6; go_step)
  refine wp_region_lit ?_
  refine h_op (m' := [(29, _), (4, _), (3, _), (2, _), (1, _)]) H32 rfl (wn rfl) (R_fa H32 rfl rfl (fa29_0 _ _)) rfl (.cons rfl (.cons rfl (.cons rfl (.cons rfl (.cons rfl .nil))))) fun a33 H33 => ?_
  clear H32
  refine h_op (m' := [(30, _), (4, _), (3, _), (2, _), (1, _)]) H33 rfl (wn rfl) (R_ld H33 rfl rfl (ld_u8k (hL.cl (g := W.heap.size) (A := mcells m (.slice A1 m.owner.length c1) (.slice A2 m.set.length c2)) (t := 29) (by simp) 0) hc)) rfl (.cons rfl (.cons rfl (.cons rfl (.cons rfl (.cons rfl .nil))))) fun a34 H34 => ?_
  clear H33
  refine h_end ?_
  repeat (go_not_at_region 7; go_step)
  refine wp_region_lit ?_
  refine h_op (m' := [(32, _), (30, _), (4, _), (3, _), (2, _), (1, _)]) H34 rfl (wn rfl) (R_bin H34 rfl rfl rfl (B_to (y := false) (B8_eq _ _) (by decide))) rfl (.cons rfl (.cons rfl (.cons rfl (.cons rfl (.cons rfl (.cons rfl .nil)))))) fun a35 H35 => ?_
  clear H34
  refine h_op (m' := [(31, _), (30, _), (4, _), (3, _), (2, _), (1, _)]) H35 rfl (wn rfl) (R_as H35 rfl rfl) rfl (.cons rfl (.cons rfl (.cons rfl (.cons rfl (.cons rfl (.cons rfl .nil)))))) fun a36 H36 => ?_
  clear H35
  refine h_end ?_
  repeat (go_not_at_region 9; go_step)
  refine wp_cond_false (H36.ev (x := .tmp 31) rfl) ?_
  repeat (go_not_at_region 9; go_step)
  repeat (go_not_at_region 9; go_step)
  refine wp_region_lit ?_
  refine h_op (m' := [(37, _), (30, _), (4, _), (3, _), (2, _), (1, _)]) H36 rfl (wn rfl) (R_bin H36 rfl rfl rfl (B_to (y := false) (B8_eq _ _) (by decide))) rfl (.cons rfl (.cons rfl (.cons rfl (.cons rfl (.cons rfl (.cons rfl .nil)))))) fun a37 H37 => ?_
  clear H36
  refine h_op (m' := [(36, _), (30, _), (4, _), (3, _), (2, _), (1, _)]) H37 rfl (wn rfl) (R_as H37 rfl rfl) rfl (.cons rfl (.cons rfl (.cons rfl (.cons rfl (.cons rfl (.cons rfl .nil)))))) fun a38 H38 => ?_
  clear H37
  refine h_end ?_
  repeat (go_not_at_region 12; go_step)
  refine wp_cond_false (H38.ev (x := .tmp 36) rfl) ?_
  repeat (go_not_at_region 12; go_step)
  repeat (go_not_at_region 12; go_step)
  refine wp_region_lit ?_
  refine h_op (m' := [(44, _), (30, _), (4, _), (3, _), (2, _), (1, _)]) H38 rfl (wn rfl) (R_bin H38 rfl rfl rfl (B_to (y := false) (B8_eq _ _) (by decide))) rfl (.cons rfl (.cons rfl (.cons rfl (.cons rfl (.cons rfl (.cons rfl .nil)))))) fun a39 H39 => ?_
  clear H38
  refine h_op (m' := [(43, _), (30, _), (4, _), (3, _), (2, _), (1, _)]) H39 rfl (wn rfl) (R_as H39 rfl rfl) rfl (.cons rfl (.cons rfl (.cons rfl (.cons rfl (.cons rfl (.cons rfl .nil)))))) fun a40 H40 => ?_
  clear H39
  refine h_end ?_
  repeat (go_not_at_region 15; go_step)
  refine wp_cond_false (H40.ev (x := .tmp 43) rfl) ?_
  repeat (go_not_at_region 15; go_step)
  repeat (go_not_at_region 15; go_step)
  refine wp_region_lit ?_
  refine h_op (m' := [(51, _), (30, _), (4, _), (3, _), (2, _), (1, _)]) H40 rfl (wn rfl) (R_bin H40 rfl rfl rfl (B_to (y := false) (B8_eq _ _) (by decide))) rfl (.cons rfl (.cons rfl (.cons rfl (.cons rfl (.cons rfl (.cons rfl .nil)))))) fun a41 H41 => ?_
  clear H40
  refine h_op (m' := [(50, _), (30, _), (4, _), (3, _), (2, _), (1, _)]) H41 rfl (wn rfl) (R_as H41 rfl rfl) rfl (.cons rfl (.cons rfl (.cons rfl (.cons rfl (.cons rfl (.cons rfl .nil)))))) fun a42 H42 => ?_
  clear H41
  refine h_end ?_
  repeat (go_not_at_region 17; go_step)
  refine wp_cond_false (H42.ev (x := .tmp 50) rfl) ?_
  repeat (go_not_at_region 17; go_step)
  repeat (go_not_at_region 17; go_step)
  refine wp_region_lit ?_
  refine h_op (m' := [(56, _), (30, _), (4, _), (3, _), (2, _), (1, _)]) H42 rfl (wn rfl) (R_bin H42 rfl rfl rfl (B_to (y := false) (B8_eq _ _) (by decide))) rfl (.cons rfl (.cons rfl (.cons rfl (.cons rfl (.cons rfl (.cons rfl .nil)))))) fun a43 H43 => ?_
  clear H42
  refine h_op (m' := [(55, _), (30, _), (4, _), (3, _), (2, _), (1, _)]) H43 rfl (wn rfl) (R_as H43 rfl rfl) rfl (.cons rfl (.cons rfl (.cons rfl (.cons rfl (.cons rfl (.cons rfl .nil)))))) fun a44 H44 => ?_
  clear H43
  refine h_end ?_
  repeat (go_not_at_region 21; go_step)
  refine wp_cond_false (H44.ev (x := .tmp 55) rfl) ?_
  repeat (go_not_at_region 21; go_step)
  repeat (go_not_at_region 21; go_step)
  refine wp_region_lit ?_
  refine h_op (m' := [(67, _), (30, _), (4, _), (3, _), (2, _), (1, _)]) H44 rfl (wn rfl) (R_bin H44 rfl rfl rfl (B_to (y := false) (B8_eq _ _) (by decide))) rfl (.cons rfl (.cons rfl (.cons rfl (.cons rfl (.cons rfl (.cons rfl .nil)))))) fun a45 H45 => ?_
  clear H44
  refine h_op (m' := [(66, _), (30, _), (4, _), (3, _), (2, _), (1, _)]) H45 rfl (wn rfl) (R_as H45 rfl rfl) rfl (.cons rfl (.cons rfl (.cons rfl (.cons rfl (.cons rfl (.cons rfl .nil)))))) fun a46 H46 => ?_
  clear H45
  refine h_end ?_
  repeat (go_not_at_region 24; go_step)
  refine wp_cond_false (H46.ev (x := .tmp 66) rfl) ?_
  repeat (go_not_at_region 24; go_step)
  repeat (go_not_at_region 24; go_step)
  refine wp_region_lit ?_
  refine h_op (m' := [(75, _), (30, _), (4, _), (3, _), (2, _), (1, _)]) H46 rfl (wn rfl) (R_bin H46 rfl rfl rfl (B_to (y := false) (B8_eq _ _) (by decide))) rfl (.cons rfl (.cons rfl (.cons rfl (.cons rfl (.cons rfl (.cons rfl .nil)))))) fun a47 H47 => ?_
  clear H46
  refine h_op (m' := [(74, _), (30, _), (4, _), (3, _), (2, _), (1, _)]) H47 rfl (wn rfl) (R_as H47 rfl rfl) rfl (.cons rfl (.cons rfl (.cons rfl (.cons rfl (.cons rfl (.cons rfl .nil)))))) fun a48 H48 => ?_
  clear H47
  refine h_end ?_
  repeat (go_not_at_region 27; go_step)
  refine wp_cond_false (H48.ev (x := .tmp 74) rfl) ?_
  repeat (go_not_at_region 27; go_step)
  repeat (go_not_at_region 27; go_step)
  refine wp_region_lit ?_
  refine h_op (m' := [(83, _), (30, _), (4, _), (3, _), (2, _), (1, _)]) H48 rfl (wn rfl) (R_bin H48 rfl rfl rfl (B_to (y := false) (B8_eq _ _) (by decide))) rfl (.cons rfl (.cons rfl (.cons rfl (.cons rfl (.cons rfl (.cons rfl .nil)))))) fun a49 H49 => ?_
  clear H48
  refine h_op (m' := [(82, _), (30, _), (4, _), (3, _), (2, _), (1, _)]) H49 rfl (wn rfl) (R_as H49 rfl rfl) rfl (.cons rfl (.cons rfl (.cons rfl (.cons rfl (.cons rfl (.cons rfl .nil)))))) fun a50 H50 => ?_
  clear H49
  refine h_end ?_
  repeat (go_not_at_region 29; go_step)
  refine wp_cond_false (H50.ev (x := .tmp 82) rfl) ?_
  repeat (go_not_at_region 29; go_step)
  repeat (go_not_at_region 29; go_step)
  refine wp_region_lit ?_
  refine h_op (m' := [(88, _), (30, _), (4, _), (3, _), (2, _), (1, _)]) H50 rfl (wn rfl) (R_bin H50 rfl rfl rfl (B_to (y := false) (B8_eq _ _) (by decide))) rfl (.cons rfl (.cons rfl (.cons rfl (.cons rfl (.cons rfl (.cons rfl .nil)))))) fun a51 H51 => ?_
  clear H50
  refine h_op (m' := [(87, _), (30, _), (4, _), (3, _), (2, _), (1, _)]) H51 rfl (wn rfl) (R_as H51 rfl rfl) rfl (.cons rfl (.cons rfl (.cons rfl (.cons rfl (.cons rfl (.cons rfl .nil)))))) fun a52 H52 => ?_
  clear H51
  refine h_end ?_
  repeat (go_not_at_region 33; go_step)
  refine wp_cond_false (H52.ev (x := .tmp 87) rfl) ?_
  repeat (go_not_at_region 33; go_step)
  repeat (go_not_at_region 33; go_step)
  refine wp_region_lit ?_
  refine h_op (m' := [(99, _), (30, _), (4, _), (3, _), (2, _), (1, _)]) H52 rfl (wn rfl) (R_bin H52 rfl rfl rfl (B_to (y := false) (B8_eq _ _) (by decide))) rfl (.cons rfl (.cons rfl (.cons rfl (.cons rfl (.cons rfl (.cons rfl .nil)))))) fun a53 H53 => ?_
  clear H52
  refine h_op (m' := [(98, _), (30, _), (4, _), (3, _), (2, _), (1, _)]) H53 rfl (wn rfl) (R_as H53 rfl rfl) rfl (.cons rfl (.cons rfl (.cons rfl (.cons rfl (.cons rfl (.cons rfl .nil)))))) fun a54 H54 => ?_
  clear H53
  refine h_end ?_
  repeat (go_not_at_region 35; go_step)
  refine wp_cond_false (H54.ev (x := .tmp 98) rfl) ?_
  repeat (go_not_at_region 35; go_step)
  repeat (go_not_at_region 35; go_step)
  refine wp_region_lit ?_
  refine h_op (m' := [(104, _), (30, _), (4, _), (3, _), (2, _), (1, _)]) H54 rfl (wn rfl) (R_bin H54 rfl rfl rfl (B_to (y := false) (B8_eq _ _) (by decide))) rfl (.cons rfl (.cons rfl (.cons rfl (.cons rfl (.cons rfl (.cons rfl .nil)))))) fun a55 H55 => ?_
  clear H54
  refine h_op (m' := [(103, _), (30, _), (4, _), (3, _), (2, _), (1, _)]) H55 rfl (wn rfl) (R_as H55 rfl rfl) rfl (.cons rfl (.cons rfl (.cons rfl (.cons rfl (.cons rfl (.cons rfl .nil)))))) fun a56 H56 => ?_
  clear H55
  refine h_end ?_
  repeat (go_not_at_region 36; go_step)
  refine wp_cond_false (H56.ev (x := .tmp 103) rfl) ?_
  repeat (go_not_at_region 36; go_step)
  repeat (go_not_at_region 36; go_step)
  refine wp_region_lit ?_
  refine h_op (m' := [(105, _), (103, _), (30, _), (4, _), (3, _), (2, _), (1, _)]) H56 rfl (wn rfl) (R_bin H56 rfl rfl rfl (B_to (y := false) (B8_eq _ _) (by decide))) rfl (.cons rfl (.cons rfl (.cons rfl (.cons rfl (.cons rfl (.cons rfl (.cons rfl .nil))))))) fun a57 H57 => ?_
  clear H56
  refine h_op (m' := [(103, _), (30, _), (4, _), (3, _), (2, _), (1, _)]) H57 rfl (wn rfl) (R_as H57 rfl rfl) rfl (.cons rfl (.cons rfl (.cons rfl (.cons rfl (.cons rfl (.cons rfl .nil)))))) fun a58 H58 => ?_
  clear H57
  refine h_end ?_
  repeat (go_not_at_region 38; go_step)
  refine wp_cond_false (H58.ev (x := .tmp 103) rfl) ?_
  repeat (go_not_at_region 38; go_step)
  refine wp_region_lit ?_
  refine h_op (m' := [(109, _), (2, _)]) H58 rfl (wn rfl) (R_ld H58 rfl rfl (ld_row hL.at_)) rfl (.cons rfl (.cons rfl .nil)) fun a59 H59 => ?_
  clear H58
  refine h_stL [(w1.heap.size, mcells { PMsg.zero with kind := 13, move := m.move, part := m.part } (.slice none 0 0) (.slice none 0 0), 29), (w2.heap.size, mcells { PMsg.zero with kind := 13, move := m.move, part := m.part } (.slice none 0 0) (.slice none 0 0), 29), (w23.heap.size, #[.int .i64 m.isrc, .int .i64 m.iseq, .int .i64 0, .int .u8 0, .string .empty, .int .i64 0, .int .i64 0, .int .i64 0], 24), (W.heap.size, mcells m (.slice A1 m.owner.length c1) (.slice A2 m.set.length c2), 29)] H59 rfl (wn rfl) (R_st H59 rfl rfl rfl (st_row (m2 := .zero) (vo2 := .slice none 0 0) (vs2 := .slice none 0 0) (hL.mem_at (by simp)) (mcells_one rfl rfl))) (hL.third.row _) fun a60 w60 H60 hL' => ?_
  replace hL := hL'
  clear H59 hL'
  refine h_end ?_
  repeat (go_not_at_region 999; go_step)
  have ho' : onlyM m = { PMsg.zero with kind := 13, move := m.move, part := m.part } := by
    unfold onlyM
    rw [hc]
    rfl
  refine bodyPost_ret (v := .agg (mcells { PMsg.zero with kind := 13, move := m.move, part := m.part } (.slice none 0 0) (.slice none 0 0))) (only_results (H60.getD rfl) hL.at_) H60.1 ⟨(.slice none 0 0), (.slice none 0 0), by rw [ho'], ?_, ?_, hL.1⟩
  · intro w h; rw [ho']; exact .inl ⟨rfl, rfl⟩
  · intro w h; rw [ho']; exact .inl ⟨rfl, rfl⟩
set_option maxRecDepth 100000 in
set_option maxHeartbeats 4000000 in
theorem only_14 (hc : m.kind = 14) (ho : Rd W vo m.owner) (hs : Rd W vs m.set) : Calls Try.prog 18 #[.agg (mcells m vo vs)] W fun e W' => ∃ vo' vs', e = .returned (.agg (mcells (onlyM m) vo' vs')) ∧ (∀ w, Rd w vo m.owner → Rd w vo' (onlyM m).owner) ∧ (∀ w, Rd w vs m.set → Rd w vs' (onlyM m).set) ∧ Below W.heap.size W W' := by
  have hL := Live.init W
  obtain ⟨A1, c1, rfl⟩ := ho.slc
  obtain ⟨A2, c2, rfl⟩ := hs.slc
  go_enter Try.func18, Try.ntmps18
  refine wp_fr (n := 110) (m := [(0, _)]) ⟨rfl, rfl, by intro p hp; simp only [List.mem_cons, List.not_mem_nil, or_false] at hp; rcases hp with rfl <;> rfl⟩ fun a0 H0 => ?_
  repeat (go_not_at_region 0; go_step)
  refine wp_region_lit ?_
  refine h_opL [(W.heap.size, mcells m (.slice A1 m.owner.length c1) (.slice A2 m.set.length c2), 29)] (m' := [(1, _)]) H0 rfl (wn rfl) (R_box H0 rfl rfl bx_row) (hL.alloc _ _) rfl (.cons rfl .nil) fun a1 w1 H1 hL' => ?_
  replace hL := hL'
  clear H0 hL'
  refine h_opL [(w1.heap.size, zcells, 29), (W.heap.size, mcells m (.slice A1 m.owner.length c1) (.slice A2 m.set.length c2), 29)] (m' := [(2, _), (1, _)]) H1 rfl (wn rfl) (R_alloc rfl al_row) (hL.alloc _ _) rfl (.cons rfl (.cons rfl .nil)) fun a2 w2 H2 hL' => ?_
  replace hL := hL'
  clear H1 hL'
  refine h_end ?_
  repeat (go_not_at_region 1; go_step)
  refine wp_region_lit ?_
  refine h_op (m' := [(5, _), (2, _), (1, _)]) H2 rfl (wn rfl) (R_fa H2 rfl rfl (fa29_0 _ _)) rfl (.cons rfl (.cons rfl (.cons rfl .nil))) fun a3 H3 => ?_
  clear H2
  refine h_op (m' := [(6, _), (2, _), (1, _)]) H3 rfl (wn rfl) (R_ld H3 rfl rfl (ld_u8k (hL.cl (g := W.heap.size) (A := mcells m (.slice A1 m.owner.length c1) (.slice A2 m.set.length c2)) (t := 29) (by simp) 0) hc)) rfl (.cons rfl (.cons rfl (.cons rfl .nil))) fun a4 H4 => ?_
  clear H3
  refine h_op (m' := [(7, _), (2, _), (1, _)]) H4 rfl (wn rfl) (R_bd1 H4 rfl rfl bd_kind) rfl (.cons rfl (.cons rfl (.cons rfl .nil))) fun a5 H5 => ?_
  clear H4
  refine h_opL [(w2.heap.size, zcells, 29), (w1.heap.size, zcells, 29), (W.heap.size, mcells m (.slice A1 m.owner.length c1) (.slice A2 m.set.length c2), 29)] (m' := [(3, _), (7, _), (2, _), (1, _)]) H5 rfl (wn rfl) (R_alloc rfl al_row) (hL.alloc _ _) rfl (.cons rfl (.cons rfl (.cons rfl (.cons rfl .nil)))) fun a6 w6 H6 hL' => ?_
  replace hL := hL'
  clear H5 hL'
  refine h_stL [(w2.heap.size, mcells { PMsg.zero with kind := 14 } (.slice none 0 0) (.slice none 0 0), 29), (w1.heap.size, zcells, 29), (W.heap.size, mcells m (.slice A1 m.owner.length c1) (.slice A2 m.set.length c2), 29)] H6 rfl (wn rfl) (R_st H6 rfl rfl rfl (st_row (m2 := .zero) (vo2 := .slice none 0 0) (vs2 := .slice none 0 0) hL.at_ (mcells_one rfl rfl))) (hL.row _) fun a7 w7 H7 hL' => ?_
  replace hL := hL'
  clear H6 hL'
  refine h_end ?_
  repeat (go_not_at_region 2; go_step)
  refine wp_region_lit ?_
  refine h_op (m' := [(8, _), (3, _), (2, _), (1, _)]) H7 rfl (wn rfl) (R_fa H7 rfl rfl (fa29_0 _ _)) rfl (.cons rfl (.cons rfl (.cons rfl (.cons rfl .nil)))) fun a8 H8 => ?_
  clear H7
  refine h_op (m' := [(9, _), (3, _), (2, _), (1, _)]) H8 rfl (wn rfl) (R_ld H8 rfl rfl (ld_u8k (hL.cl (g := W.heap.size) (A := mcells m (.slice A1 m.owner.length c1) (.slice A2 m.set.length c2)) (t := 29) (by simp) 0) hc)) rfl (.cons rfl (.cons rfl (.cons rfl (.cons rfl .nil)))) fun a9 H9 => ?_
  clear H8
  refine h_op (m' := [(10, _), (3, _), (2, _), (1, _)]) H9 rfl (wn rfl) (R_bin H9 rfl rfl rfl (B_to (y := true) (B8_ge _ _) (by decide))) rfl (.cons rfl (.cons rfl (.cons rfl (.cons rfl .nil)))) fun a10 H10 => ?_
  clear H9
  refine h_op (m' := [(11, _), (3, _), (2, _), (1, _)]) H10 rfl (wn rfl) (R_mv H10 rfl rfl) rfl (.cons rfl (.cons rfl (.cons rfl (.cons rfl .nil)))) fun a11 H11 => ?_
  clear H10
  refine h_op (m' := [(12, _), (11, _), (3, _), (2, _), (1, _)]) H11 rfl (H11.wt rfl rfl rfl) (R_fa H11 rfl rfl (fa29_0 _ _)) rfl (.cons rfl (.cons rfl (.cons rfl (.cons rfl (.cons rfl .nil))))) fun a12 H12 => ?_
  clear H11
  refine h_op (m' := [(13, _), (11, _), (3, _), (2, _), (1, _)]) H12 rfl (H12.wt rfl rfl rfl) (R_ld H12 rfl rfl (ld_u8k (hL.cl (g := W.heap.size) (A := mcells m (.slice A1 m.owner.length c1) (.slice A2 m.set.length c2)) (t := 29) (by simp) 0) hc)) rfl (.cons rfl (.cons rfl (.cons rfl (.cons rfl (.cons rfl .nil))))) fun a13 H13 => ?_
  clear H12
  refine h_op (m' := [(14, _), (11, _), (3, _), (2, _), (1, _)]) H13 rfl (H13.wt rfl rfl rfl) (R_bin H13 rfl rfl rfl (B_to (y := false) (B8_le _ _) (by decide))) rfl (.cons rfl (.cons rfl (.cons rfl (.cons rfl (.cons rfl .nil))))) fun a14 H14 => ?_
  clear H13
  refine h_op (m' := [(15, _), (3, _), (2, _), (1, _)]) H14 rfl (wn rfl) (R_pick H14 rfl rfl rfl) rfl (.cons rfl (.cons rfl (.cons rfl (.cons rfl .nil)))) fun a15 H15 => ?_
  clear H14
  refine h_end ?_
  repeat (go_not_at_region 5; go_step)
  refine wp_cond_false (H15.ev (x := .tmp 15) rfl) ?_
  repeat (go_not_at_region 5; go_step)
  refine wp_region_lit ?_
  refine h_op (m' := [(22, _), (3, _), (2, _), (1, _)]) H15 rfl (wn rfl) (R_fa H15 rfl rfl (fa29_9 _ _)) rfl (.cons rfl (.cons rfl (.cons rfl (.cons rfl .nil)))) fun a16 H16 => ?_
  clear H15
  refine h_op (m' := [(23, _), (3, _), (2, _), (1, _)]) H16 rfl (wn rfl) (R_fa H16 rfl rfl (fa24_0 _ _)) rfl (.cons rfl (.cons rfl (.cons rfl (.cons rfl .nil)))) fun a17 H17 => ?_
  clear H16
  refine h_op (m' := [(24, _), (3, _), (2, _), (1, _)]) H17 rfl (wn rfl) (R_ld H17 rfl rfl (ld_int (hL.cl (g := W.heap.size) (A := mcells m (.slice A1 m.owner.length c1) (.slice A2 m.set.length c2)) (t := 29) (by simp) 9))) rfl (.cons rfl (.cons rfl (.cons rfl (.cons rfl .nil)))) fun a18 H18 => ?_
  clear H17
  refine h_op (m' := [(25, _), (24, _), (3, _), (2, _), (1, _)]) H18 rfl (wn rfl) (R_fa H18 rfl rfl (fa29_9 _ _)) rfl (.cons rfl (.cons rfl (.cons rfl (.cons rfl (.cons rfl .nil))))) fun a19 H19 => ?_
  clear H18
  refine h_op (m' := [(26, _), (24, _), (3, _), (2, _), (1, _)]) H19 rfl (wn rfl) (R_fa H19 rfl rfl (fa24_1 _ _)) rfl (.cons rfl (.cons rfl (.cons rfl (.cons rfl (.cons rfl .nil))))) fun a20 H20 => ?_
  clear H19
  refine h_op (m' := [(27, _), (24, _), (3, _), (2, _), (1, _)]) H20 rfl (wn rfl) (R_ld H20 rfl rfl (ld_int (hL.cl (g := W.heap.size) (A := mcells m (.slice A1 m.owner.length c1) (.slice A2 m.set.length c2)) (t := 29) (by simp) 10))) rfl (.cons rfl (.cons rfl (.cons rfl (.cons rfl (.cons rfl .nil))))) fun a21 H21 => ?_
  clear H20
  refine h_op (m' := [(28, _), (3, _), (2, _), (1, _)]) H21 rfl (wn rfl) (R_bd2 H21 rfl rfl rfl bd_short) rfl (.cons rfl (.cons rfl (.cons rfl (.cons rfl .nil)))) fun a22 H22 => ?_
  clear H21
  refine h_opL ((w7.heap.size, #[.int .i64 0, .int .i64 0, .int .i64 0, .int .u8 0, .string .empty, .int .i64 0, .int .i64 0, .int .i64 0], 24) :: [(w2.heap.size, mcells { PMsg.zero with kind := 14 } (.slice none 0 0) (.slice none 0 0), 29), (w1.heap.size, zcells, 29), (W.heap.size, mcells m (.slice A1 m.owner.length c1) (.slice A2 m.set.length c2), 29)]) (m' := [(4, _), (28, _), (3, _), (2, _), (1, _)]) H22 rfl (wn rfl) (R_alloc rfl al_item) (hL.alloc _ _) rfl (.cons rfl (.cons rfl (.cons rfl (.cons rfl (.cons rfl .nil))))) fun a23 w23 H23 hL' => ?_
  replace hL := hL'
  clear H22 hL'
  refine h_stL [(w2.heap.size, mcells { PMsg.zero with kind := 14 } (.slice none 0 0) (.slice none 0 0), 29), (w7.heap.size, #[.int .i64 m.isrc, .int .i64 m.iseq, .int .i64 0, .int .u8 0, .string .empty, .int .i64 0, .int .i64 0, .int .i64 0], 24), (w1.heap.size, zcells, 29), (W.heap.size, mcells m (.slice A1 m.owner.length c1) (.slice A2 m.set.length c2), 29)] H23 rfl (wn rfl) (R_st H23 rfl rfl rfl (st_short hL)) ((hL.row #[.int .i64 m.isrc, .int .i64 m.iseq, .int .i64 0, .int .u8 0, .string .empty, .int .i64 0, .int .i64 0, .int .i64 0]).swap) fun a24 w24 H24 hL' => ?_
  replace hL := hL'
  clear H23 hL'
  refine h_end ?_
  repeat (go_not_at_region 6; go_step)
  refine wp_region_lit ?_
  refine h_op (m' := [(29, _), (4, _), (3, _), (2, _), (1, _)]) H24 rfl (wn rfl) (R_fa H24 rfl rfl (fa29_0 _ _)) rfl (.cons rfl (.cons rfl (.cons rfl (.cons rfl (.cons rfl .nil))))) fun a25 H25 => ?_
  clear H24
  refine h_op (m' := [(30, _), (4, _), (3, _), (2, _), (1, _)]) H25 rfl (wn rfl) (R_ld H25 rfl rfl (ld_u8k (hL.cl (g := W.heap.size) (A := mcells m (.slice A1 m.owner.length c1) (.slice A2 m.set.length c2)) (t := 29) (by simp) 0) hc)) rfl (.cons rfl (.cons rfl (.cons rfl (.cons rfl (.cons rfl .nil))))) fun a26 H26 => ?_
  clear H25
  refine h_end ?_
  repeat (go_not_at_region 7; go_step)
  refine wp_region_lit ?_
  refine h_op (m' := [(32, _), (30, _), (4, _), (3, _), (2, _), (1, _)]) H26 rfl (wn rfl) (R_bin H26 rfl rfl rfl (B_to (y := false) (B8_eq _ _) (by decide))) rfl (.cons rfl (.cons rfl (.cons rfl (.cons rfl (.cons rfl (.cons rfl .nil)))))) fun a27 H27 => ?_
  clear H26
  refine h_op (m' := [(31, _), (30, _), (4, _), (3, _), (2, _), (1, _)]) H27 rfl (wn rfl) (R_as H27 rfl rfl) rfl (.cons rfl (.cons rfl (.cons rfl (.cons rfl (.cons rfl (.cons rfl .nil)))))) fun a28 H28 => ?_
  clear H27
  refine h_end ?_
  repeat (go_not_at_region 9; go_step)
  refine wp_cond_false (H28.ev (x := .tmp 31) rfl) ?_
  repeat (go_not_at_region 9; go_step)
  repeat (go_not_at_region 9; go_step)
  refine wp_region_lit ?_
  refine h_op (m' := [(37, _), (30, _), (4, _), (3, _), (2, _), (1, _)]) H28 rfl (wn rfl) (R_bin H28 rfl rfl rfl (B_to (y := false) (B8_eq _ _) (by decide))) rfl (.cons rfl (.cons rfl (.cons rfl (.cons rfl (.cons rfl (.cons rfl .nil)))))) fun a29 H29 => ?_
  clear H28
  refine h_op (m' := [(36, _), (30, _), (4, _), (3, _), (2, _), (1, _)]) H29 rfl (wn rfl) (R_as H29 rfl rfl) rfl (.cons rfl (.cons rfl (.cons rfl (.cons rfl (.cons rfl (.cons rfl .nil)))))) fun a30 H30 => ?_
  clear H29
  refine h_end ?_
  repeat (go_not_at_region 12; go_step)
  refine wp_cond_false (H30.ev (x := .tmp 36) rfl) ?_
  repeat (go_not_at_region 12; go_step)
  repeat (go_not_at_region 12; go_step)
  refine wp_region_lit ?_
  refine h_op (m' := [(44, _), (30, _), (4, _), (3, _), (2, _), (1, _)]) H30 rfl (wn rfl) (R_bin H30 rfl rfl rfl (B_to (y := false) (B8_eq _ _) (by decide))) rfl (.cons rfl (.cons rfl (.cons rfl (.cons rfl (.cons rfl (.cons rfl .nil)))))) fun a31 H31 => ?_
  clear H30
  refine h_op (m' := [(43, _), (30, _), (4, _), (3, _), (2, _), (1, _)]) H31 rfl (wn rfl) (R_as H31 rfl rfl) rfl (.cons rfl (.cons rfl (.cons rfl (.cons rfl (.cons rfl (.cons rfl .nil)))))) fun a32 H32 => ?_
  clear H31
  refine h_end ?_
  repeat (go_not_at_region 15; go_step)
  refine wp_cond_false (H32.ev (x := .tmp 43) rfl) ?_
  repeat (go_not_at_region 15; go_step)
  repeat (go_not_at_region 15; go_step)
  refine wp_region_lit ?_
  refine h_op (m' := [(51, _), (30, _), (4, _), (3, _), (2, _), (1, _)]) H32 rfl (wn rfl) (R_bin H32 rfl rfl rfl (B_to (y := false) (B8_eq _ _) (by decide))) rfl (.cons rfl (.cons rfl (.cons rfl (.cons rfl (.cons rfl (.cons rfl .nil)))))) fun a33 H33 => ?_
  clear H32
  refine h_op (m' := [(50, _), (30, _), (4, _), (3, _), (2, _), (1, _)]) H33 rfl (wn rfl) (R_as H33 rfl rfl) rfl (.cons rfl (.cons rfl (.cons rfl (.cons rfl (.cons rfl (.cons rfl .nil)))))) fun a34 H34 => ?_
  clear H33
  refine h_end ?_
  repeat (go_not_at_region 17; go_step)
  refine wp_cond_false (H34.ev (x := .tmp 50) rfl) ?_
  repeat (go_not_at_region 17; go_step)
  repeat (go_not_at_region 17; go_step)
  refine wp_region_lit ?_
  refine h_op (m' := [(56, _), (30, _), (4, _), (3, _), (2, _), (1, _)]) H34 rfl (wn rfl) (R_bin H34 rfl rfl rfl (B_to (y := false) (B8_eq _ _) (by decide))) rfl (.cons rfl (.cons rfl (.cons rfl (.cons rfl (.cons rfl (.cons rfl .nil)))))) fun a35 H35 => ?_
  clear H34
  refine h_op (m' := [(55, _), (30, _), (4, _), (3, _), (2, _), (1, _)]) H35 rfl (wn rfl) (R_as H35 rfl rfl) rfl (.cons rfl (.cons rfl (.cons rfl (.cons rfl (.cons rfl (.cons rfl .nil)))))) fun a36 H36 => ?_
  clear H35
  refine h_end ?_
  repeat (go_not_at_region 21; go_step)
  refine wp_cond_false (H36.ev (x := .tmp 55) rfl) ?_
  repeat (go_not_at_region 21; go_step)
  repeat (go_not_at_region 21; go_step)
  refine wp_region_lit ?_
  refine h_op (m' := [(67, _), (30, _), (4, _), (3, _), (2, _), (1, _)]) H36 rfl (wn rfl) (R_bin H36 rfl rfl rfl (B_to (y := false) (B8_eq _ _) (by decide))) rfl (.cons rfl (.cons rfl (.cons rfl (.cons rfl (.cons rfl (.cons rfl .nil)))))) fun a37 H37 => ?_
  clear H36
  refine h_op (m' := [(66, _), (30, _), (4, _), (3, _), (2, _), (1, _)]) H37 rfl (wn rfl) (R_as H37 rfl rfl) rfl (.cons rfl (.cons rfl (.cons rfl (.cons rfl (.cons rfl (.cons rfl .nil)))))) fun a38 H38 => ?_
  clear H37
  refine h_end ?_
  repeat (go_not_at_region 24; go_step)
  refine wp_cond_false (H38.ev (x := .tmp 66) rfl) ?_
  repeat (go_not_at_region 24; go_step)
  repeat (go_not_at_region 24; go_step)
  refine wp_region_lit ?_
  refine h_op (m' := [(75, _), (30, _), (4, _), (3, _), (2, _), (1, _)]) H38 rfl (wn rfl) (R_bin H38 rfl rfl rfl (B_to (y := false) (B8_eq _ _) (by decide))) rfl (.cons rfl (.cons rfl (.cons rfl (.cons rfl (.cons rfl (.cons rfl .nil)))))) fun a39 H39 => ?_
  clear H38
  refine h_op (m' := [(74, _), (30, _), (4, _), (3, _), (2, _), (1, _)]) H39 rfl (wn rfl) (R_as H39 rfl rfl) rfl (.cons rfl (.cons rfl (.cons rfl (.cons rfl (.cons rfl (.cons rfl .nil)))))) fun a40 H40 => ?_
  clear H39
  refine h_end ?_
  repeat (go_not_at_region 27; go_step)
  refine wp_cond_false (H40.ev (x := .tmp 74) rfl) ?_
  repeat (go_not_at_region 27; go_step)
  repeat (go_not_at_region 27; go_step)
  refine wp_region_lit ?_
  refine h_op (m' := [(83, _), (30, _), (4, _), (3, _), (2, _), (1, _)]) H40 rfl (wn rfl) (R_bin H40 rfl rfl rfl (B_to (y := false) (B8_eq _ _) (by decide))) rfl (.cons rfl (.cons rfl (.cons rfl (.cons rfl (.cons rfl (.cons rfl .nil)))))) fun a41 H41 => ?_
  clear H40
  refine h_op (m' := [(82, _), (30, _), (4, _), (3, _), (2, _), (1, _)]) H41 rfl (wn rfl) (R_as H41 rfl rfl) rfl (.cons rfl (.cons rfl (.cons rfl (.cons rfl (.cons rfl (.cons rfl .nil)))))) fun a42 H42 => ?_
  clear H41
  refine h_end ?_
  repeat (go_not_at_region 29; go_step)
  refine wp_cond_false (H42.ev (x := .tmp 82) rfl) ?_
  repeat (go_not_at_region 29; go_step)
  repeat (go_not_at_region 29; go_step)
  refine wp_region_lit ?_
  refine h_op (m' := [(88, _), (30, _), (4, _), (3, _), (2, _), (1, _)]) H42 rfl (wn rfl) (R_bin H42 rfl rfl rfl (B_to (y := false) (B8_eq _ _) (by decide))) rfl (.cons rfl (.cons rfl (.cons rfl (.cons rfl (.cons rfl (.cons rfl .nil)))))) fun a43 H43 => ?_
  clear H42
  refine h_op (m' := [(87, _), (30, _), (4, _), (3, _), (2, _), (1, _)]) H43 rfl (wn rfl) (R_as H43 rfl rfl) rfl (.cons rfl (.cons rfl (.cons rfl (.cons rfl (.cons rfl (.cons rfl .nil)))))) fun a44 H44 => ?_
  clear H43
  refine h_end ?_
  repeat (go_not_at_region 33; go_step)
  refine wp_cond_false (H44.ev (x := .tmp 87) rfl) ?_
  repeat (go_not_at_region 33; go_step)
  repeat (go_not_at_region 33; go_step)
  refine wp_region_lit ?_
  refine h_op (m' := [(99, _), (30, _), (4, _), (3, _), (2, _), (1, _)]) H44 rfl (wn rfl) (R_bin H44 rfl rfl rfl (B_to (y := false) (B8_eq _ _) (by decide))) rfl (.cons rfl (.cons rfl (.cons rfl (.cons rfl (.cons rfl (.cons rfl .nil)))))) fun a45 H45 => ?_
  clear H44
  refine h_op (m' := [(98, _), (30, _), (4, _), (3, _), (2, _), (1, _)]) H45 rfl (wn rfl) (R_as H45 rfl rfl) rfl (.cons rfl (.cons rfl (.cons rfl (.cons rfl (.cons rfl (.cons rfl .nil)))))) fun a46 H46 => ?_
  clear H45
  refine h_end ?_
  repeat (go_not_at_region 35; go_step)
  refine wp_cond_false (H46.ev (x := .tmp 98) rfl) ?_
  repeat (go_not_at_region 35; go_step)
  repeat (go_not_at_region 35; go_step)
  refine wp_region_lit ?_
  refine h_op (m' := [(104, _), (30, _), (4, _), (3, _), (2, _), (1, _)]) H46 rfl (wn rfl) (R_bin H46 rfl rfl rfl (B_to (y := false) (B8_eq _ _) (by decide))) rfl (.cons rfl (.cons rfl (.cons rfl (.cons rfl (.cons rfl (.cons rfl .nil)))))) fun a47 H47 => ?_
  clear H46
  refine h_op (m' := [(103, _), (30, _), (4, _), (3, _), (2, _), (1, _)]) H47 rfl (wn rfl) (R_as H47 rfl rfl) rfl (.cons rfl (.cons rfl (.cons rfl (.cons rfl (.cons rfl (.cons rfl .nil)))))) fun a48 H48 => ?_
  clear H47
  refine h_end ?_
  repeat (go_not_at_region 36; go_step)
  refine wp_cond_false (H48.ev (x := .tmp 103) rfl) ?_
  repeat (go_not_at_region 36; go_step)
  repeat (go_not_at_region 36; go_step)
  refine wp_region_lit ?_
  refine h_op (m' := [(105, _), (103, _), (30, _), (4, _), (3, _), (2, _), (1, _)]) H48 rfl (wn rfl) (R_bin H48 rfl rfl rfl (B_to (y := true) (B8_eq _ _) (by decide))) rfl (.cons rfl (.cons rfl (.cons rfl (.cons rfl (.cons rfl (.cons rfl (.cons rfl .nil))))))) fun a49 H49 => ?_
  clear H48
  refine h_op (m' := [(103, _), (30, _), (4, _), (3, _), (2, _), (1, _)]) H49 rfl (wn rfl) (R_as H49 rfl rfl) rfl (.cons rfl (.cons rfl (.cons rfl (.cons rfl (.cons rfl (.cons rfl .nil)))))) fun a50 H50 => ?_
  clear H49
  refine h_end ?_
  repeat (go_not_at_region 37; go_step)
  refine wp_cond_true (H50.ev (x := .tmp 103) rfl) ?_
  repeat (go_not_at_region 37; go_step)
  refine wp_region_lit ?_
  refine h_op (m' := [(106, _), (30, _), (4, _), (3, _), (2, _), (1, _)]) H50 rfl (wn rfl) (R_fa H50 rfl rfl (fa29_10 _ _)) rfl (.cons rfl (.cons rfl (.cons rfl (.cons rfl (.cons rfl (.cons rfl .nil)))))) fun a51 H51 => ?_
  clear H50
  refine h_op (m' := [(107, _), (30, _), (4, _), (3, _), (2, _), (1, _)]) H51 rfl (wn rfl) (R_ld H51 rfl rfl (ld_tab (hL.cl (g := W.heap.size) (A := mcells m (.slice A1 m.owner.length c1) (.slice A2 m.set.length c2)) (t := 29) (by simp) 17) (hL.cl (g := W.heap.size) (A := mcells m (.slice A1 m.owner.length c1) (.slice A2 m.set.length c2)) (t := 29) (by simp) 18) (hL.cl (g := W.heap.size) (A := mcells m (.slice A1 m.owner.length c1) (.slice A2 m.set.length c2)) (t := 29) (by simp) 19))) rfl (.cons rfl (.cons rfl (.cons rfl (.cons rfl (.cons rfl (.cons rfl .nil)))))) fun a52 H52 => ?_
  clear H51
  refine h_op (m' := [(108, _), (107, _), (30, _), (4, _), (3, _), (2, _), (1, _)]) H52 rfl (wn rfl) (R_fa H52 rfl rfl (fa29_10 _ _)) rfl (.cons rfl (.cons rfl (.cons rfl (.cons rfl (.cons rfl (.cons rfl (.cons rfl .nil))))))) fun a53 H53 => ?_
  clear H52
  refine h_stL [(w2.heap.size, mcells { PMsg.zero with kind := 14, epoch := m.epoch, nodes := m.nodes, owner := m.owner } (.slice A1 m.owner.length c1) (.slice none 0 0), 29), (w7.heap.size, #[.int .i64 m.isrc, .int .i64 m.iseq, .int .i64 0, .int .u8 0, .string .empty, .int .i64 0, .int .i64 0, .int .i64 0], 24), (w1.heap.size, zcells, 29), (W.heap.size, mcells m (.slice A1 m.owner.length c1) (.slice A2 m.set.length c2), 29)] H53 rfl (wn rfl) (R_st H53 rfl rfl rfl (st_tabM hL)) (hL.tabM m.epoch m.nodes (.slice A1 m.owner.length c1) m.owner) fun a54 w54 H54 hL' => ?_
  replace hL := hL'
  clear H53 hL'
  refine h_end ?_
  repeat (go_not_at_region 38; go_step)
  refine wp_region_lit ?_
  refine h_op (m' := [(109, _), (2, _)]) H54 rfl (wn rfl) (R_ld H54 rfl rfl (ld_row hL.at_)) rfl (.cons rfl (.cons rfl .nil)) fun a55 H55 => ?_
  clear H54
  refine h_stL [(w1.heap.size, mcells { PMsg.zero with kind := 14, epoch := m.epoch, nodes := m.nodes, owner := m.owner } (.slice A1 m.owner.length c1) (.slice none 0 0), 29), (w2.heap.size, mcells { PMsg.zero with kind := 14, epoch := m.epoch, nodes := m.nodes, owner := m.owner } (.slice A1 m.owner.length c1) (.slice none 0 0), 29), (w7.heap.size, #[.int .i64 m.isrc, .int .i64 m.iseq, .int .i64 0, .int .u8 0, .string .empty, .int .i64 0, .int .i64 0, .int .i64 0], 24), (W.heap.size, mcells m (.slice A1 m.owner.length c1) (.slice A2 m.set.length c2), 29)] H55 rfl (wn rfl) (R_st H55 rfl rfl rfl (st_row (m2 := .zero) (vo2 := .slice none 0 0) (vs2 := .slice none 0 0) (hL.mem_at (by simp)) (mcells_one rfl rfl))) (hL.third.row _) fun a56 w56 H56 hL' => ?_
  replace hL := hL'
  clear H55 hL'
  refine h_end ?_
  repeat (go_not_at_region 999; go_step)
  have ho' : onlyM m = { PMsg.zero with kind := 14, epoch := m.epoch, nodes := m.nodes, owner := m.owner } := by
    unfold onlyM
    rw [hc]
    rfl
  refine bodyPost_ret (v := .agg (mcells { PMsg.zero with kind := 14, epoch := m.epoch, nodes := m.nodes, owner := m.owner } (.slice A1 m.owner.length c1) (.slice none 0 0))) (only_results (H56.getD rfl) hL.at_) H56.1 ⟨(.slice A1 m.owner.length c1), (.slice none 0 0), by rw [ho'], ?_, ?_, hL.1⟩
  · intro w h; rw [ho']; exact h
  · intro w h; rw [ho']; exact .inl ⟨rfl, rfl⟩
set_option maxRecDepth 100000 in
set_option maxHeartbeats 4000000 in
theorem only_big (hc : 14 < m.kind) (ho : Rd W vo m.owner) (hs : Rd W vs m.set) : Calls Try.prog 18 #[.agg (mcells m vo vs)] W fun e W' => ∃ vo' vs', e = .returned (.agg (mcells (onlyM m) vo' vs')) ∧ (∀ w, Rd w vo m.owner → Rd w vo' (onlyM m).owner) ∧ (∀ w, Rd w vs m.set → Rd w vs' (onlyM m).set) ∧ Below W.heap.size W W' := by
  have hL := Live.init W
  obtain ⟨A1, c1, rfl⟩ := ho.slc
  obtain ⟨A2, c2, rfl⟩ := hs.slc
  go_enter Try.func18, Try.ntmps18
  refine wp_fr (n := 110) (m := [(0, _)]) ⟨rfl, rfl, by intro p hp; simp only [List.mem_cons, List.not_mem_nil, or_false] at hp; rcases hp with rfl <;> rfl⟩ fun a0 H0 => ?_
  repeat (go_not_at_region 0; go_step)
  refine wp_region_lit ?_
  refine h_opL [(W.heap.size, mcells m (.slice A1 m.owner.length c1) (.slice A2 m.set.length c2), 29)] (m' := [(1, _)]) H0 rfl (wn rfl) (R_box H0 rfl rfl bx_row) (hL.alloc _ _) rfl (.cons rfl .nil) fun a1 w1 H1 hL' => ?_
  replace hL := hL'
  clear H0 hL'
  refine h_opL [(w1.heap.size, zcells, 29), (W.heap.size, mcells m (.slice A1 m.owner.length c1) (.slice A2 m.set.length c2), 29)] (m' := [(2, _), (1, _)]) H1 rfl (wn rfl) (R_alloc rfl al_row) (hL.alloc _ _) rfl (.cons rfl (.cons rfl .nil)) fun a2 w2 H2 hL' => ?_
  replace hL := hL'
  clear H1 hL'
  refine h_end ?_
  repeat (go_not_at_region 1; go_step)
  refine wp_region_lit ?_
  refine h_op (m' := [(5, _), (2, _), (1, _)]) H2 rfl (wn rfl) (R_fa H2 rfl rfl (fa29_0 _ _)) rfl (.cons rfl (.cons rfl (.cons rfl .nil))) fun a3 H3 => ?_
  clear H2
  refine h_op (m' := [(6, _), (2, _), (1, _)]) H3 rfl (wn rfl) (R_ld H3 rfl rfl (ld_u8k (hL.cl (g := W.heap.size) (A := mcells m (.slice A1 m.owner.length c1) (.slice A2 m.set.length c2)) (t := 29) (by simp) 0) rfl)) rfl (.cons rfl (.cons rfl (.cons rfl .nil))) fun a4 H4 => ?_
  clear H3
  refine h_op (m' := [(7, _), (2, _), (1, _)]) H4 rfl (wn rfl) (R_bd1 H4 rfl rfl bd_kind) rfl (.cons rfl (.cons rfl (.cons rfl .nil))) fun a5 H5 => ?_
  clear H4
  refine h_opL [(w2.heap.size, zcells, 29), (w1.heap.size, zcells, 29), (W.heap.size, mcells m (.slice A1 m.owner.length c1) (.slice A2 m.set.length c2), 29)] (m' := [(3, _), (7, _), (2, _), (1, _)]) H5 rfl (wn rfl) (R_alloc rfl al_row) (hL.alloc _ _) rfl (.cons rfl (.cons rfl (.cons rfl (.cons rfl .nil)))) fun a6 w6 H6 hL' => ?_
  replace hL := hL'
  clear H5 hL'
  refine h_stL [(w2.heap.size, mcells { PMsg.zero with kind := m.kind } (.slice none 0 0) (.slice none 0 0), 29), (w1.heap.size, zcells, 29), (W.heap.size, mcells m (.slice A1 m.owner.length c1) (.slice A2 m.set.length c2), 29)] H6 rfl (wn rfl) (R_st H6 rfl rfl rfl (st_row (m2 := .zero) (vo2 := .slice none 0 0) (vs2 := .slice none 0 0) hL.at_ (mcells_one rfl rfl))) (hL.row _) fun a7 w7 H7 hL' => ?_
  replace hL := hL'
  clear H6 hL'
  refine h_end ?_
  repeat (go_not_at_region 2; go_step)
  refine wp_region_lit ?_
  refine h_op (m' := [(8, _), (3, _), (2, _), (1, _)]) H7 rfl (wn rfl) (R_fa H7 rfl rfl (fa29_0 _ _)) rfl (.cons rfl (.cons rfl (.cons rfl (.cons rfl .nil)))) fun a8 H8 => ?_
  clear H7
  refine h_op (m' := [(9, _), (3, _), (2, _), (1, _)]) H8 rfl (wn rfl) (R_ld H8 rfl rfl (ld_u8k (hL.cl (g := W.heap.size) (A := mcells m (.slice A1 m.owner.length c1) (.slice A2 m.set.length c2)) (t := 29) (by simp) 0) rfl)) rfl (.cons rfl (.cons rfl (.cons rfl (.cons rfl .nil)))) fun a9 H9 => ?_
  clear H8
  refine h_op (m' := [(10, _), (3, _), (2, _), (1, _)]) H9 rfl (wn rfl) (R_bin H9 rfl rfl rfl (B_to (y := true) (B8_ge _ _) (decide_eq_true (by omega)))) rfl (.cons rfl (.cons rfl (.cons rfl (.cons rfl .nil)))) fun a10 H10 => ?_
  clear H9
  refine h_op (m' := [(11, _), (3, _), (2, _), (1, _)]) H10 rfl (wn rfl) (R_mv H10 rfl rfl) rfl (.cons rfl (.cons rfl (.cons rfl (.cons rfl .nil)))) fun a11 H11 => ?_
  clear H10
  refine h_op (m' := [(12, _), (11, _), (3, _), (2, _), (1, _)]) H11 rfl (H11.wt rfl rfl rfl) (R_fa H11 rfl rfl (fa29_0 _ _)) rfl (.cons rfl (.cons rfl (.cons rfl (.cons rfl (.cons rfl .nil))))) fun a12 H12 => ?_
  clear H11
  refine h_op (m' := [(13, _), (11, _), (3, _), (2, _), (1, _)]) H12 rfl (H12.wt rfl rfl rfl) (R_ld H12 rfl rfl (ld_u8k (hL.cl (g := W.heap.size) (A := mcells m (.slice A1 m.owner.length c1) (.slice A2 m.set.length c2)) (t := 29) (by simp) 0) rfl)) rfl (.cons rfl (.cons rfl (.cons rfl (.cons rfl (.cons rfl .nil))))) fun a13 H13 => ?_
  clear H12
  refine h_op (m' := [(14, _), (11, _), (3, _), (2, _), (1, _)]) H13 rfl (H13.wt rfl rfl rfl) (R_bin H13 rfl rfl rfl (B_to (y := false) (B8_le _ _) (decide_eq_false (by omega)))) rfl (.cons rfl (.cons rfl (.cons rfl (.cons rfl (.cons rfl .nil))))) fun a14 H14 => ?_
  clear H13
  refine h_op (m' := [(15, _), (3, _), (2, _), (1, _)]) H14 rfl (wn rfl) (R_pick H14 rfl rfl rfl) rfl (.cons rfl (.cons rfl (.cons rfl (.cons rfl .nil)))) fun a15 H15 => ?_
  clear H14
  refine h_end ?_
  repeat (go_not_at_region 5; go_step)
  refine wp_cond_false (H15.ev (x := .tmp 15) rfl) ?_
  repeat (go_not_at_region 5; go_step)
  refine wp_region_lit ?_
  refine h_op (m' := [(22, _), (3, _), (2, _), (1, _)]) H15 rfl (wn rfl) (R_fa H15 rfl rfl (fa29_9 _ _)) rfl (.cons rfl (.cons rfl (.cons rfl (.cons rfl .nil)))) fun a16 H16 => ?_
  clear H15
  refine h_op (m' := [(23, _), (3, _), (2, _), (1, _)]) H16 rfl (wn rfl) (R_fa H16 rfl rfl (fa24_0 _ _)) rfl (.cons rfl (.cons rfl (.cons rfl (.cons rfl .nil)))) fun a17 H17 => ?_
  clear H16
  refine h_op (m' := [(24, _), (3, _), (2, _), (1, _)]) H17 rfl (wn rfl) (R_ld H17 rfl rfl (ld_int (hL.cl (g := W.heap.size) (A := mcells m (.slice A1 m.owner.length c1) (.slice A2 m.set.length c2)) (t := 29) (by simp) 9))) rfl (.cons rfl (.cons rfl (.cons rfl (.cons rfl .nil)))) fun a18 H18 => ?_
  clear H17
  refine h_op (m' := [(25, _), (24, _), (3, _), (2, _), (1, _)]) H18 rfl (wn rfl) (R_fa H18 rfl rfl (fa29_9 _ _)) rfl (.cons rfl (.cons rfl (.cons rfl (.cons rfl (.cons rfl .nil))))) fun a19 H19 => ?_
  clear H18
  refine h_op (m' := [(26, _), (24, _), (3, _), (2, _), (1, _)]) H19 rfl (wn rfl) (R_fa H19 rfl rfl (fa24_1 _ _)) rfl (.cons rfl (.cons rfl (.cons rfl (.cons rfl (.cons rfl .nil))))) fun a20 H20 => ?_
  clear H19
  refine h_op (m' := [(27, _), (24, _), (3, _), (2, _), (1, _)]) H20 rfl (wn rfl) (R_ld H20 rfl rfl (ld_int (hL.cl (g := W.heap.size) (A := mcells m (.slice A1 m.owner.length c1) (.slice A2 m.set.length c2)) (t := 29) (by simp) 10))) rfl (.cons rfl (.cons rfl (.cons rfl (.cons rfl (.cons rfl .nil))))) fun a21 H21 => ?_
  clear H20
  refine h_op (m' := [(28, _), (3, _), (2, _), (1, _)]) H21 rfl (wn rfl) (R_bd2 H21 rfl rfl rfl bd_short) rfl (.cons rfl (.cons rfl (.cons rfl (.cons rfl .nil)))) fun a22 H22 => ?_
  clear H21
  refine h_opL ((w7.heap.size, #[.int .i64 0, .int .i64 0, .int .i64 0, .int .u8 0, .string .empty, .int .i64 0, .int .i64 0, .int .i64 0], 24) :: [(w2.heap.size, mcells { PMsg.zero with kind := m.kind } (.slice none 0 0) (.slice none 0 0), 29), (w1.heap.size, zcells, 29), (W.heap.size, mcells m (.slice A1 m.owner.length c1) (.slice A2 m.set.length c2), 29)]) (m' := [(4, _), (28, _), (3, _), (2, _), (1, _)]) H22 rfl (wn rfl) (R_alloc rfl al_item) (hL.alloc _ _) rfl (.cons rfl (.cons rfl (.cons rfl (.cons rfl (.cons rfl .nil))))) fun a23 w23 H23 hL' => ?_
  replace hL := hL'
  clear H22 hL'
  refine h_stL [(w2.heap.size, mcells { PMsg.zero with kind := m.kind } (.slice none 0 0) (.slice none 0 0), 29), (w7.heap.size, #[.int .i64 m.isrc, .int .i64 m.iseq, .int .i64 0, .int .u8 0, .string .empty, .int .i64 0, .int .i64 0, .int .i64 0], 24), (w1.heap.size, zcells, 29), (W.heap.size, mcells m (.slice A1 m.owner.length c1) (.slice A2 m.set.length c2), 29)] H23 rfl (wn rfl) (R_st H23 rfl rfl rfl (st_short hL)) ((hL.row #[.int .i64 m.isrc, .int .i64 m.iseq, .int .i64 0, .int .u8 0, .string .empty, .int .i64 0, .int .i64 0, .int .i64 0]).swap) fun a24 w24 H24 hL' => ?_
  replace hL := hL'
  clear H23 hL'
  refine h_end ?_
  repeat (go_not_at_region 6; go_step)
  refine wp_region_lit ?_
  refine h_op (m' := [(29, _), (4, _), (3, _), (2, _), (1, _)]) H24 rfl (wn rfl) (R_fa H24 rfl rfl (fa29_0 _ _)) rfl (.cons rfl (.cons rfl (.cons rfl (.cons rfl (.cons rfl .nil))))) fun a25 H25 => ?_
  clear H24
  refine h_op (m' := [(30, _), (4, _), (3, _), (2, _), (1, _)]) H25 rfl (wn rfl) (R_ld H25 rfl rfl (ld_u8k (hL.cl (g := W.heap.size) (A := mcells m (.slice A1 m.owner.length c1) (.slice A2 m.set.length c2)) (t := 29) (by simp) 0) rfl)) rfl (.cons rfl (.cons rfl (.cons rfl (.cons rfl (.cons rfl .nil))))) fun a26 H26 => ?_
  clear H25
  refine h_end ?_
  repeat (go_not_at_region 7; go_step)
  refine wp_region_lit ?_
  refine h_op (m' := [(32, _), (30, _), (4, _), (3, _), (2, _), (1, _)]) H26 rfl (wn rfl) (R_bin H26 rfl rfl rfl (B_to (y := false) (B8_eq _ _) (beq_eq_false_iff_ne.2 (by omega)))) rfl (.cons rfl (.cons rfl (.cons rfl (.cons rfl (.cons rfl (.cons rfl .nil)))))) fun a27 H27 => ?_
  clear H26
  refine h_op (m' := [(31, _), (30, _), (4, _), (3, _), (2, _), (1, _)]) H27 rfl (wn rfl) (R_as H27 rfl rfl) rfl (.cons rfl (.cons rfl (.cons rfl (.cons rfl (.cons rfl (.cons rfl .nil)))))) fun a28 H28 => ?_
  clear H27
  refine h_end ?_
  repeat (go_not_at_region 9; go_step)
  refine wp_cond_false (H28.ev (x := .tmp 31) rfl) ?_
  repeat (go_not_at_region 9; go_step)
  repeat (go_not_at_region 9; go_step)
  refine wp_region_lit ?_
  refine h_op (m' := [(37, _), (30, _), (4, _), (3, _), (2, _), (1, _)]) H28 rfl (wn rfl) (R_bin H28 rfl rfl rfl (B_to (y := false) (B8_eq _ _) (beq_eq_false_iff_ne.2 (by omega)))) rfl (.cons rfl (.cons rfl (.cons rfl (.cons rfl (.cons rfl (.cons rfl .nil)))))) fun a29 H29 => ?_
  clear H28
  refine h_op (m' := [(36, _), (30, _), (4, _), (3, _), (2, _), (1, _)]) H29 rfl (wn rfl) (R_as H29 rfl rfl) rfl (.cons rfl (.cons rfl (.cons rfl (.cons rfl (.cons rfl (.cons rfl .nil)))))) fun a30 H30 => ?_
  clear H29
  refine h_end ?_
  repeat (go_not_at_region 12; go_step)
  refine wp_cond_false (H30.ev (x := .tmp 36) rfl) ?_
  repeat (go_not_at_region 12; go_step)
  repeat (go_not_at_region 12; go_step)
  refine wp_region_lit ?_
  refine h_op (m' := [(44, _), (30, _), (4, _), (3, _), (2, _), (1, _)]) H30 rfl (wn rfl) (R_bin H30 rfl rfl rfl (B_to (y := false) (B8_eq _ _) (beq_eq_false_iff_ne.2 (by omega)))) rfl (.cons rfl (.cons rfl (.cons rfl (.cons rfl (.cons rfl (.cons rfl .nil)))))) fun a31 H31 => ?_
  clear H30
  refine h_op (m' := [(43, _), (30, _), (4, _), (3, _), (2, _), (1, _)]) H31 rfl (wn rfl) (R_as H31 rfl rfl) rfl (.cons rfl (.cons rfl (.cons rfl (.cons rfl (.cons rfl (.cons rfl .nil)))))) fun a32 H32 => ?_
  clear H31
  refine h_end ?_
  repeat (go_not_at_region 15; go_step)
  refine wp_cond_false (H32.ev (x := .tmp 43) rfl) ?_
  repeat (go_not_at_region 15; go_step)
  repeat (go_not_at_region 15; go_step)
  refine wp_region_lit ?_
  refine h_op (m' := [(51, _), (30, _), (4, _), (3, _), (2, _), (1, _)]) H32 rfl (wn rfl) (R_bin H32 rfl rfl rfl (B_to (y := false) (B8_eq _ _) (beq_eq_false_iff_ne.2 (by omega)))) rfl (.cons rfl (.cons rfl (.cons rfl (.cons rfl (.cons rfl (.cons rfl .nil)))))) fun a33 H33 => ?_
  clear H32
  refine h_op (m' := [(50, _), (30, _), (4, _), (3, _), (2, _), (1, _)]) H33 rfl (wn rfl) (R_as H33 rfl rfl) rfl (.cons rfl (.cons rfl (.cons rfl (.cons rfl (.cons rfl (.cons rfl .nil)))))) fun a34 H34 => ?_
  clear H33
  refine h_end ?_
  repeat (go_not_at_region 17; go_step)
  refine wp_cond_false (H34.ev (x := .tmp 50) rfl) ?_
  repeat (go_not_at_region 17; go_step)
  repeat (go_not_at_region 17; go_step)
  refine wp_region_lit ?_
  refine h_op (m' := [(56, _), (30, _), (4, _), (3, _), (2, _), (1, _)]) H34 rfl (wn rfl) (R_bin H34 rfl rfl rfl (B_to (y := false) (B8_eq _ _) (beq_eq_false_iff_ne.2 (by omega)))) rfl (.cons rfl (.cons rfl (.cons rfl (.cons rfl (.cons rfl (.cons rfl .nil)))))) fun a35 H35 => ?_
  clear H34
  refine h_op (m' := [(55, _), (30, _), (4, _), (3, _), (2, _), (1, _)]) H35 rfl (wn rfl) (R_as H35 rfl rfl) rfl (.cons rfl (.cons rfl (.cons rfl (.cons rfl (.cons rfl (.cons rfl .nil)))))) fun a36 H36 => ?_
  clear H35
  refine h_end ?_
  repeat (go_not_at_region 21; go_step)
  refine wp_cond_false (H36.ev (x := .tmp 55) rfl) ?_
  repeat (go_not_at_region 21; go_step)
  repeat (go_not_at_region 21; go_step)
  refine wp_region_lit ?_
  refine h_op (m' := [(67, _), (30, _), (4, _), (3, _), (2, _), (1, _)]) H36 rfl (wn rfl) (R_bin H36 rfl rfl rfl (B_to (y := false) (B8_eq _ _) (beq_eq_false_iff_ne.2 (by omega)))) rfl (.cons rfl (.cons rfl (.cons rfl (.cons rfl (.cons rfl (.cons rfl .nil)))))) fun a37 H37 => ?_
  clear H36
  refine h_op (m' := [(66, _), (30, _), (4, _), (3, _), (2, _), (1, _)]) H37 rfl (wn rfl) (R_as H37 rfl rfl) rfl (.cons rfl (.cons rfl (.cons rfl (.cons rfl (.cons rfl (.cons rfl .nil)))))) fun a38 H38 => ?_
  clear H37
  refine h_end ?_
  repeat (go_not_at_region 24; go_step)
  refine wp_cond_false (H38.ev (x := .tmp 66) rfl) ?_
  repeat (go_not_at_region 24; go_step)
  repeat (go_not_at_region 24; go_step)
  refine wp_region_lit ?_
  refine h_op (m' := [(75, _), (30, _), (4, _), (3, _), (2, _), (1, _)]) H38 rfl (wn rfl) (R_bin H38 rfl rfl rfl (B_to (y := false) (B8_eq _ _) (beq_eq_false_iff_ne.2 (by omega)))) rfl (.cons rfl (.cons rfl (.cons rfl (.cons rfl (.cons rfl (.cons rfl .nil)))))) fun a39 H39 => ?_
  clear H38
  refine h_op (m' := [(74, _), (30, _), (4, _), (3, _), (2, _), (1, _)]) H39 rfl (wn rfl) (R_as H39 rfl rfl) rfl (.cons rfl (.cons rfl (.cons rfl (.cons rfl (.cons rfl (.cons rfl .nil)))))) fun a40 H40 => ?_
  clear H39
  refine h_end ?_
  repeat (go_not_at_region 27; go_step)
  refine wp_cond_false (H40.ev (x := .tmp 74) rfl) ?_
  repeat (go_not_at_region 27; go_step)
  repeat (go_not_at_region 27; go_step)
  refine wp_region_lit ?_
  refine h_op (m' := [(83, _), (30, _), (4, _), (3, _), (2, _), (1, _)]) H40 rfl (wn rfl) (R_bin H40 rfl rfl rfl (B_to (y := false) (B8_eq _ _) (beq_eq_false_iff_ne.2 (by omega)))) rfl (.cons rfl (.cons rfl (.cons rfl (.cons rfl (.cons rfl (.cons rfl .nil)))))) fun a41 H41 => ?_
  clear H40
  refine h_op (m' := [(82, _), (30, _), (4, _), (3, _), (2, _), (1, _)]) H41 rfl (wn rfl) (R_as H41 rfl rfl) rfl (.cons rfl (.cons rfl (.cons rfl (.cons rfl (.cons rfl (.cons rfl .nil)))))) fun a42 H42 => ?_
  clear H41
  refine h_end ?_
  repeat (go_not_at_region 29; go_step)
  refine wp_cond_false (H42.ev (x := .tmp 82) rfl) ?_
  repeat (go_not_at_region 29; go_step)
  repeat (go_not_at_region 29; go_step)
  refine wp_region_lit ?_
  refine h_op (m' := [(88, _), (30, _), (4, _), (3, _), (2, _), (1, _)]) H42 rfl (wn rfl) (R_bin H42 rfl rfl rfl (B_to (y := false) (B8_eq _ _) (beq_eq_false_iff_ne.2 (by omega)))) rfl (.cons rfl (.cons rfl (.cons rfl (.cons rfl (.cons rfl (.cons rfl .nil)))))) fun a43 H43 => ?_
  clear H42
  refine h_op (m' := [(87, _), (30, _), (4, _), (3, _), (2, _), (1, _)]) H43 rfl (wn rfl) (R_as H43 rfl rfl) rfl (.cons rfl (.cons rfl (.cons rfl (.cons rfl (.cons rfl (.cons rfl .nil)))))) fun a44 H44 => ?_
  clear H43
  refine h_end ?_
  repeat (go_not_at_region 33; go_step)
  refine wp_cond_false (H44.ev (x := .tmp 87) rfl) ?_
  repeat (go_not_at_region 33; go_step)
  repeat (go_not_at_region 33; go_step)
  refine wp_region_lit ?_
  refine h_op (m' := [(99, _), (30, _), (4, _), (3, _), (2, _), (1, _)]) H44 rfl (wn rfl) (R_bin H44 rfl rfl rfl (B_to (y := false) (B8_eq _ _) (beq_eq_false_iff_ne.2 (by omega)))) rfl (.cons rfl (.cons rfl (.cons rfl (.cons rfl (.cons rfl (.cons rfl .nil)))))) fun a45 H45 => ?_
  clear H44
  refine h_op (m' := [(98, _), (30, _), (4, _), (3, _), (2, _), (1, _)]) H45 rfl (wn rfl) (R_as H45 rfl rfl) rfl (.cons rfl (.cons rfl (.cons rfl (.cons rfl (.cons rfl (.cons rfl .nil)))))) fun a46 H46 => ?_
  clear H45
  refine h_end ?_
  repeat (go_not_at_region 35; go_step)
  refine wp_cond_false (H46.ev (x := .tmp 98) rfl) ?_
  repeat (go_not_at_region 35; go_step)
  repeat (go_not_at_region 35; go_step)
  refine wp_region_lit ?_
  refine h_op (m' := [(104, _), (30, _), (4, _), (3, _), (2, _), (1, _)]) H46 rfl (wn rfl) (R_bin H46 rfl rfl rfl (B_to (y := false) (B8_eq _ _) (beq_eq_false_iff_ne.2 (by omega)))) rfl (.cons rfl (.cons rfl (.cons rfl (.cons rfl (.cons rfl (.cons rfl .nil)))))) fun a47 H47 => ?_
  clear H46
  refine h_op (m' := [(103, _), (30, _), (4, _), (3, _), (2, _), (1, _)]) H47 rfl (wn rfl) (R_as H47 rfl rfl) rfl (.cons rfl (.cons rfl (.cons rfl (.cons rfl (.cons rfl (.cons rfl .nil)))))) fun a48 H48 => ?_
  clear H47
  refine h_end ?_
  repeat (go_not_at_region 36; go_step)
  refine wp_cond_false (H48.ev (x := .tmp 103) rfl) ?_
  repeat (go_not_at_region 36; go_step)
  repeat (go_not_at_region 36; go_step)
  refine wp_region_lit ?_
  refine h_op (m' := [(105, _), (103, _), (30, _), (4, _), (3, _), (2, _), (1, _)]) H48 rfl (wn rfl) (R_bin H48 rfl rfl rfl (B_to (y := false) (B8_eq _ _) (beq_eq_false_iff_ne.2 (by omega)))) rfl (.cons rfl (.cons rfl (.cons rfl (.cons rfl (.cons rfl (.cons rfl (.cons rfl .nil))))))) fun a49 H49 => ?_
  clear H48
  refine h_op (m' := [(103, _), (30, _), (4, _), (3, _), (2, _), (1, _)]) H49 rfl (wn rfl) (R_as H49 rfl rfl) rfl (.cons rfl (.cons rfl (.cons rfl (.cons rfl (.cons rfl (.cons rfl .nil)))))) fun a50 H50 => ?_
  clear H49
  refine h_end ?_
  repeat (go_not_at_region 38; go_step)
  refine wp_cond_false (H50.ev (x := .tmp 103) rfl) ?_
  repeat (go_not_at_region 38; go_step)
  refine wp_region_lit ?_
  refine h_op (m' := [(109, _), (2, _)]) H50 rfl (wn rfl) (R_ld H50 rfl rfl (ld_row hL.at_)) rfl (.cons rfl (.cons rfl .nil)) fun a51 H51 => ?_
  clear H50
  refine h_stL [(w1.heap.size, mcells { PMsg.zero with kind := m.kind } (.slice none 0 0) (.slice none 0 0), 29), (w2.heap.size, mcells { PMsg.zero with kind := m.kind } (.slice none 0 0) (.slice none 0 0), 29), (w7.heap.size, #[.int .i64 m.isrc, .int .i64 m.iseq, .int .i64 0, .int .u8 0, .string .empty, .int .i64 0, .int .i64 0, .int .i64 0], 24), (W.heap.size, mcells m (.slice A1 m.owner.length c1) (.slice A2 m.set.length c2), 29)] H51 rfl (wn rfl) (R_st H51 rfl rfl rfl (st_row (m2 := .zero) (vo2 := .slice none 0 0) (vs2 := .slice none 0 0) (hL.mem_at (by simp)) (mcells_one rfl rfl))) (hL.third.row _) fun a52 w52 H52 hL' => ?_
  replace hL := hL'
  clear H51 hL'
  refine h_end ?_
  repeat (go_not_at_region 999; go_step)
  have ho' : onlyM m = { PMsg.zero with kind := m.kind } := by
    unfold onlyM
    have : prs m.kind = [] := prs_big hc
    rw [this]
    rfl
  refine bodyPost_ret (v := .agg (mcells { PMsg.zero with kind := m.kind } (.slice none 0 0) (.slice none 0 0))) (only_results (H52.getD rfl) hL.at_) H52.1 ⟨(.slice none 0 0), (.slice none 0 0), by rw [ho'], ?_, ?_, hL.1⟩
  · intro w h; rw [ho']; exact .inl ⟨rfl, rfl⟩
  · intro w h; rw [ho']; exact .inl ⟨rfl, rfl⟩
theorem Only_any (ho : Rd W vo m.owner) (hs : Rd W vs m.set) : Calls Try.prog 18 #[.agg (mcells m vo vs)] W fun e W' => ∃ vo' vs', e = .returned (.agg (mcells (onlyM m) vo' vs')) ∧ (∀ w, Rd w vo m.owner → Rd w vo' (onlyM m).owner) ∧ (∀ w, Rd w vs m.set → Rd w vs' (onlyM m).set) ∧ Below W.heap.size W W' := by
  by_cases hb : 14 < m.kind
  · exact only_big hb ho hs
  · have : m.kind = 0 ∨ m.kind = 1 ∨ m.kind = 2 ∨ m.kind = 3 ∨ m.kind = 4 ∨ m.kind = 5 ∨ m.kind = 6 ∨ m.kind = 7 ∨ m.kind = 8 ∨ m.kind = 9 ∨ m.kind = 10 ∨ m.kind = 11 ∨ m.kind = 12 ∨ m.kind = 13 ∨ m.kind = 14 := by omega
    rcases this with h | h | h | h | h | h | h | h | h | h | h | h | h | h | h
    · exact only_0 h ho hs
    · exact only_1 h ho hs
    · exact only_2 h ho hs
    · exact only_3 h ho hs
    · exact only_4 h ho hs
    · exact only_5 h ho hs
    · exact only_6 h ho hs
    · exact only_7 h ho hs
    · exact only_8 h ho hs
    · exact only_9 h ho hs
    · exact only_10 h ho hs
    · exact only_11 h ho hs
    · exact only_12 h ho hs
    · exact only_13 h ho hs
    · exact only_14 h ho hs
end
end Go.Proofs.Ytmmhchpilcjflaa
