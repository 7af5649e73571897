/-
  meterlaw13.wakes.
-/
import Derived.Test.YtnjfjdfjheiocaaGreatShV
set_option linter.unusedSimpArgs false
set_option linter.unusedVariables false
namespace Go.Proofs.YtnjfjdfjheiocaaGreat
open Go.RowKit
theorem R_bd6c {P : Program} {a : Act} {w : World} {o : Oper} {v : Value} {t : TypeId} {i0 i1 i2 i3 i4 i5 : Nat} {v0 v1 v2 v3 v4 v5 : Value} (ho : o.op = .build t #[(i0, .const v0), (i1, .const v1), (i2, .const v2), (i3, .const v3), (i4, .const v4), (i5, .const v5)]) (hl : (Instr.build t #[(i0, v0), (i1, v1), (i2, v2), (i3, v3), (i4, v4), (i5, v5)]).run P w = .ok v w) : (execOp a.eval o).run P w = .ok (.value v) w := by
  unfold execOp
  rw [ho]
  simp only [List.map_toArray, List.map_cons, List.map_nil]
  exact fr_v hl
theorem R_bd4c {P : Program} {a : Act} {w : World} {o : Oper} {v : Value} {t : TypeId} {i0 i1 i2 i3 : Nat} {v0 v1 v2 v3 : Value} (ho : o.op = .build t #[(i0, .const v0), (i1, .const v1), (i2, .const v2), (i3, .const v3)]) (hl : (Instr.build t #[(i0, v0), (i1, v1), (i2, v2), (i3, v3)]).run P w = .ok v w) : (execOp a.eval o).run P w = .ok (.value v) w := by
  unfold execOp
  rw [ho]
  simp only [List.map_toArray, List.map_cons, List.map_nil]
  exact fr_v hl
section
variable {w W : World} {x y : PItem} {g : Nat}
def itZ : PItem := ⟨0, 0, 0, 0, .empty, 0, 0, 0⟩
theorem al_it : (Instr.alloc 42 true (.tuple #[])).run Tryz.prog w = .ok (.pointer (some ⟨w.heap.size, 0, none⟩)) (w.alloc (.cells (itC itZ) 42)) := by
  simp [go_sem]
  rfl
theorem st_it (h : w.heap[g]? = some (.cells (itC x) 42 (0, 0))) : (Instr.storeAt 42 (.pointer (some ⟨g, 0, none⟩)) (.agg (itC y))).run Tryz.prog w = .ok () (w.setRow g (itC y)) := by
  simp only [Instr.storeAt, Instr.sureAddr, Sem.run_bind, Sem.run_pure, Result.andThen_ok, run_storeVar_row w g 42 42 _ (itC y) h infoIt rfl (by simp only [List.all_toArray, List.all_cons, List.all_nil, Bool.and_true]; rfl)]
theorem bd_wk1 : (Instr.build 42 #[(1, .int .i64 1), (2, .int .i64 1), (3, .int .u8 1), (4, .string { data := #[97] }), (6, .int .i64 3), (7, .int .i64 5)]).run Tryz.prog w = .ok (.agg (itC wkX)) w := by
  simp [go_sem]
  exact ⟨rfl, rfl, rfl, rfl, rfl, rfl, rfl, rfl⟩
theorem bd_wk2 : (Instr.build 42 #[(1, .int .i64 2), (2, .int .i64 1), (3, .int .u8 2), (6, .int .i64 15)]).run Tryz.prog w = .ok (.agg (itC wkY)) w := by
  simp [go_sem]
  exact ⟨rfl, rfl, rfl, rfl, rfl, rfl, rfl, rfl⟩
theorem fa_o2 {a : Addr} : (Instr.fieldAt 57 (.pointer (some a)) 2).run Tryz.prog w = .ok (.pointer (some (a.add 2))) w := by simp [go_sem]
theorem fa_g1 {a : Addr} : (Instr.fieldAt 55 (.pointer (some a)) 1).run Tryz.prog w = .ok (.pointer (some (a.add 1))) w := by simp [go_sem]
theorem sum_of {M : Wins} {x : Win × A8} (h : 0 < M.length) (hM : M = [x]) : (outA M[0])[3]? = some (.int .i64 x.2.s) := by
  subst hM
  rfl
set_option maxRecDepth 100000 in
theorem wakes_ok : Calls Tryz.prog 10 #[] W fun e W' => e = .returned (.bool true) ∧ Below W.heap.size W W' := by
  have hL := LV.init W
  obtain ⟨w31, w32, w33, w34⟩ := wk3_is
  have k1 : SOk 1 wk1.2 := apply_ok wkX sok_new
  have k2 : SOk 2 wk2.2 := apply_ok wkX k1
  go_enter Tryz.func10, Tryz.ntmps10
  refine wp_fr (n := 73) (m := []) ⟨rfl, rfl, by intro p hp; cases hp⟩ fun a0 H0 => ?_
  repeat (go_not_at_region 0; go_step)
  refine wp_region_lit ?_
  refine h_op H0 rfl (wn rfl) (R_as H0 rfl rfl) rfl .nil fun a1 H1 => ?_
  clear H0
  refine h_end ?_
  repeat (go_not_at_region 1; go_step)
  refine wp_region_lit ?_
  refine h_call H1 rfl (wn rfl) (R_call0 H1 rfl (fun w => by simp [go_sem])) rfl ?_
  refine (shnew_any hL).mono ?_
  rintro e w2 ⟨A, rfl, hL2⟩
  clear hL
  have hL := hL2
  clear hL2
  refine ⟨_, rfl, fun a2 HH => ?_⟩
  have H2 := HH _ (P1 12 rfl)
  clear HH H1
  refine h_op H2 rfl (wn rfl) (R_as H2 rfl rfl) rfl (P1 1 rfl) fun a3 H3 => ?_
  clear H2
  refine h_end ?_
  repeat (go_not_at_region 2; go_step)
  refine wp_region_lit ?_
  refine h_op H3 rfl (wn rfl) (R_bd6c rfl bd_wk1) rfl (P2 13 1 rfl rfl) fun a4 H4 => ?_
  clear H3
  refine h_opS (bk w2.heap.size (itC itZ) 42 :: stT A newM []) H4 rfl (wn rfl) (R_alloc rfl al_it) (hL.alloc _ _) rfl (P3 2 13 1 rfl rfl rfl) fun a5 w5 H5 hL' => ?_
  replace hL := hL'
  clear H4 hL'
  refine h_stS (bk w2.heap.size (itC wkX) 42 :: stT A newM []) H5 rfl (wn rfl) (R_st H5 rfl rfl rfl (st_it (x := itZ) (y := wkX) hL.at_)) (hL.row _) fun a6 w6 H6 hL' => ?_
  replace hL := hL'
  clear H5 hL'
  refine h_end ?_
  obtain ⟨g2, hg2⟩ : ∃ g, g = w2.heap.size := ⟨_, rfl⟩
  rw [← hg2] at H6 hL
  clear hg2
  replace hL := hL.boxI
  repeat (go_not_at_region 3; go_step)
  refine wp_region_lit ?_
  refine h_op H6 rfl (wn rfl) (R_mv H6 rfl rfl) rfl (P3 15 2 1 rfl rfl rfl) fun a7 H7 => ?_
  clear H6
  refine h_op H7 rfl (wn rfl) (R_ld H7 rfl rfl (ld_it hL.boxO.at_)) rfl (P4 16 15 2 1 rfl rfl rfl rfl) fun a8 H8 => ?_
  clear H7
  refine h_call H8 rfl (wn rfl) (R_call2 H8 rfl rfl rfl (fun w => by simp [go_sem])) rfl ?_
  refine (apply_any (x := wkX) hL (by decide) (by decide) (fun _ => by show 0 < 100000; decide)).mono ?_
  rintro e w9 ⟨v1, X1, rfl, hr1, hL2⟩
  clear hL
  have hL := hL2.dropl
  clear hL2
  refine ⟨_, rfl, fun a9 HH => ?_⟩
  have H9 := HH _ (P3 17 2 1 rfl rfl rfl)
  clear HH H8
  refine h_op H9 rfl (wn rfl) (R_mv H9 rfl rfl) rfl (P3 14 2 1 rfl rfl rfl) fun a10 H10 => ?_
  clear H9
  refine h_op H10 rfl (wn rfl) (R_ext H10 rfl rfl rfl) rfl (P4 18 14 2 1 rfl rfl rfl rfl) fun a11 H11 => ?_
  clear H10
  refine h_op H11 rfl (wn rfl) (R_ext H11 rfl rfl rfl) rfl (P5 19 18 14 2 1 rfl rfl rfl rfl rfl) fun a12 H12 => ?_
  clear H11
  refine h_op H12 rfl (wn rfl) (R_ext H12 rfl rfl rfl) rfl (P5 20 19 18 2 1 rfl rfl rfl rfl rfl) fun a13 H13 => ?_
  clear H12
  refine h_op H13 rfl (wn rfl) (R_as H13 rfl rfl) rfl (P5 3 20 19 2 1 rfl rfl rfl rfl rfl) fun a14 H14 => ?_
  clear H13
  refine h_op H14 rfl (wn rfl) (R_as H14 rfl rfl) rfl (P4 3 20 2 1 rfl rfl rfl rfl) fun a15 H15 => ?_
  clear H14
  refine h_op H15 rfl (wn rfl) (R_as H15 rfl rfl) rfl (P4 5 3 2 1 rfl rfl rfl rfl) fun a16 H16 => ?_
  clear H15
  refine h_end ?_
  rw [show (applyM newM wkX).1 = (1, [], true) from wk1_is] at H16 hr1
  clear hr1
  replace hL : LV W (stT A wk1.2 [bk g2 (itC wkX) 42]) _ := hL
  repeat (go_not_at_region 4; go_step)
  refine wp_region_lit ?_
  refine h_op H16 rfl (wn rfl) (R_mv H16 rfl rfl) rfl (P5 22 5 3 2 1 rfl rfl rfl rfl rfl) fun a17 H17 => ?_
  clear H16
  refine h_op H17 rfl (wn rfl) (R_ld H17 rfl rfl (ld_it hL.boxO.at_)) rfl (P5 23 22 5 3 1 rfl rfl rfl rfl rfl) fun a18 H18 => ?_
  clear H17
  refine h_call H18 rfl (wn rfl) (R_call2 H18 rfl rfl rfl (fun w => by simp [go_sem])) rfl ?_
  refine (apply_any (x := wkX) hL (by decide) (by have := k1.ml; omega) (fun i => by have := k1.cl i; omega)).mono ?_
  rintro e w19 ⟨v2, X2, rfl, hr2, hL2⟩
  clear hL
  have hL := hL2.dropl
  clear hL2
  refine ⟨_, rfl, fun a19 HH => ?_⟩
  have H19 := HH _ (P4 24 5 3 1 rfl rfl rfl rfl)
  clear HH H18
  refine h_op H19 rfl (wn rfl) (R_mv H19 rfl rfl) rfl (P4 21 5 3 1 rfl rfl rfl rfl) fun a20 H20 => ?_
  clear H19
  refine h_op H20 rfl (wn rfl) (R_ext H20 rfl rfl rfl) rfl (P5 25 21 5 3 1 rfl rfl rfl rfl rfl) fun a21 H21 => ?_
  clear H20
  refine h_op H21 rfl (wn rfl) (R_ext H21 rfl rfl rfl) rfl (P6 26 25 21 5 3 1 rfl rfl rfl rfl rfl rfl) fun a22 H22 => ?_
  clear H21
  refine h_op H22 rfl (wn rfl) (R_ext H22 rfl rfl rfl) rfl (P6 27 26 25 5 3 1 rfl rfl rfl rfl rfl rfl) fun a23 H23 => ?_
  clear H22
  refine h_op H23 rfl (wn rfl) (R_as H23 rfl rfl) rfl (P6 6 27 26 5 3 1 rfl rfl rfl rfl rfl rfl) fun a24 H24 => ?_
  clear H23
  refine h_op H24 rfl (wn rfl) (R_as H24 rfl rfl) rfl (P5 6 27 5 3 1 rfl rfl rfl rfl rfl) fun a25 H25 => ?_
  clear H24
  refine h_op H25 rfl (wn rfl) (R_as H25 rfl rfl) rfl (P5 8 6 5 3 1 rfl rfl rfl rfl rfl) fun a26 H26 => ?_
  clear H25
  refine h_end ?_
  rw [show (applyM wk1.2 wkX).1 = (1, [], false) from wk2_is] at H26 hr2
  clear hr2
  replace hL : LV W (stT A wk2.2 [bk g2 (itC wkX) 42]) _ := hL
  repeat (go_not_at_region 5; go_step)
  refine wp_region_lit ?_
  refine h_op H26 rfl (wn rfl) (R_mv H26 rfl rfl) rfl (P6 29 8 6 5 3 1 rfl rfl rfl rfl rfl rfl) fun a27 H27 => ?_
  clear H26
  refine h_op H27 rfl (wn rfl) (R_bd4c rfl bd_wk2) rfl (P7 30 29 8 6 5 3 1 rfl rfl rfl rfl rfl rfl rfl) fun a28 H28 => ?_
  clear H27
  refine h_call H28 rfl (wn rfl) (R_call2 H28 rfl rfl rfl (fun w => by simp [go_sem])) rfl ?_
  refine (apply_any (x := wkY) hL (by decide) (by have := k2.ml; omega) (fun i => by have := k2.cl i; omega)).mono ?_
  rintro e w29 ⟨v3, X3, rfl, hr3, hL2⟩
  clear hL
  have hL := hL2
  clear hL2
  obtain ⟨q3, c3, rfl, hc3⟩ := prow_out hr3
  refine ⟨_, rfl, fun a29 HH => ?_⟩
  have H29 := HH _ (P6 31 8 6 5 3 1 rfl rfl rfl rfl rfl rfl)
  clear HH H28
  refine h_op H29 rfl (wn rfl) (R_mv H29 rfl rfl) rfl (P6 28 8 6 5 3 1 rfl rfl rfl rfl rfl rfl) fun a30 H30 => ?_
  clear H29
  refine h_op H30 rfl (wn rfl) (R_ext H30 rfl rfl rfl) rfl (P7 32 28 8 6 5 3 1 rfl rfl rfl rfl rfl rfl rfl) fun a31 H31 => ?_
  clear H30
  refine h_op H31 rfl (wn rfl) (R_ext H31 rfl rfl rfl) rfl (P8 33 32 28 8 6 5 3 1 rfl rfl rfl rfl rfl rfl rfl rfl) fun a32 H32 => ?_
  clear H31
  refine h_op H32 rfl (wn rfl) (R_ext H32 rfl rfl rfl) rfl (P8 34 33 32 8 6 5 3 1 rfl rfl rfl rfl rfl rfl rfl rfl) fun a33 H33 => ?_
  clear H32
  refine h_op H33 rfl (wn rfl) (R_as H33 rfl rfl) rfl (P8 9 34 33 8 6 5 3 1 rfl rfl rfl rfl rfl rfl rfl rfl) fun a34 H34 => ?_
  clear H33
  refine h_op H34 rfl (wn rfl) (R_as H34 rfl rfl) rfl (P8 10 9 34 8 6 5 3 1 rfl rfl rfl rfl rfl rfl rfl rfl) fun a35 H35 => ?_
  clear H34
  refine h_op H35 rfl (wn rfl) (R_as H35 rfl rfl) rfl (P8 11 10 9 8 6 5 3 1 rfl rfl rfl rfl rfl rfl rfl rfl) fun a36 H36 => ?_
  clear H35
  refine h_end ?_
  replace hL : LV W (X3 ++ stT A wk3.2 [bk g2 (itC wkX) 42]) _ := hL
  have hM : (applyM wk2.2 wkY).1.2.1 = _ := w33
  have hn : (applyM wk2.2 wkY).1.2.1.length = 1 := by rw [hM]; rfl
  rw [show (applyM wk2.2 wkY).1.1 = 1 from w31, show (applyM wk2.2 wkY).1.2.2 = true from w32, hn] at H36
  obtain ⟨ad, hq, hcell⟩ := hc3 W _ _ hL 0 (by rw [hn]; decide)
  have hs : w29.cell? (((ad.add (0 * 10)).add 2).add 1) = some (.int .i64 5) := by
    have e : ((ad.add (0 * 10)).add 2).add 1 = (ad.add (0 * 10)).add 3 := by simp [Addr.add]
    rw [e]
    refine hcell 3 _ ?_
    exact sum_of (by rw [hn]; decide) hM
  clear hcell hc3 hr3
  repeat (go_not_at_region 6; go_step)
  refine wp_region_lit ?_
  refine h_op H36 rfl (wn rfl) (R_mv H36 rfl rfl) rfl (P8 35 11 10 9 8 6 5 1 rfl rfl rfl rfl rfl rfl rfl rfl) fun a37 H37 => ?_
  clear H36
  refine h_op H37 rfl (wn rfl) (R_bin H37 rfl rfl rfl (B_to (y := true) (B_eq Tryz.underlying3 _ _) rfl)) rfl (P8 36 11 10 9 8 6 5 1 rfl rfl rfl rfl rfl rfl rfl rfl) fun a38 H38 => ?_
  clear H37
  refine h_op H38 rfl (wn rfl) (R_mv H38 rfl rfl) rfl (P8 37 11 10 9 8 6 5 1 rfl rfl rfl rfl rfl rfl rfl rfl) fun a39 H39 => ?_
  clear H38
  refine h_op H39 rfl (H39.wt rfl rfl rfl) (R_mv H39 rfl rfl) rfl (P8 38 37 11 10 9 8 6 1 rfl rfl rfl rfl rfl rfl rfl rfl) fun a40 H40 => ?_
  clear H39
  refine h_op H40 rfl (wn rfl) (R_pick H40 rfl rfl rfl) rfl (P7 39 11 10 9 8 6 1 rfl rfl rfl rfl rfl rfl rfl) fun a41 H41 => ?_
  clear H40
  refine h_op H41 rfl (wn rfl) (R_mv H41 rfl rfl) rfl (P7 40 11 10 9 8 6 1 rfl rfl rfl rfl rfl rfl rfl) fun a42 H42 => ?_
  clear H41
  refine h_op H42 rfl (H42.wt rfl rfl rfl) (R_mv H42 rfl rfl) rfl (P7 41 40 11 10 9 8 1 rfl rfl rfl rfl rfl rfl rfl) fun a43 H43 => ?_
  clear H42
  refine h_op H43 rfl (H43.wt rfl rfl rfl) (R_bin H43 rfl rfl rfl (B_to (y := true) (B_eq Tryz.underlying3 _ _) rfl)) rfl (P7 42 40 11 10 9 8 1 rfl rfl rfl rfl rfl rfl rfl) fun a44 H44 => ?_
  clear H43
  refine h_op H44 rfl (wn rfl) (R_pick H44 rfl rfl rfl) rfl (P6 43 11 10 9 8 1 rfl rfl rfl rfl rfl rfl) fun a45 H45 => ?_
  clear H44
  refine h_op H45 rfl (wn rfl) (R_mv H45 rfl rfl) rfl (P6 44 11 10 9 8 1 rfl rfl rfl rfl rfl rfl) fun a46 H46 => ?_
  clear H45
  refine h_op H46 rfl (H46.wt rfl rfl rfl) (R_mv H46 rfl rfl) rfl (P6 45 44 11 10 9 1 rfl rfl rfl rfl rfl rfl) fun a47 H47 => ?_
  clear H46
  refine h_op H47 rfl (H47.wt rfl rfl rfl) (R_not H47 rfl rfl) rfl (P6 46 44 11 10 9 1 rfl rfl rfl rfl rfl rfl) fun a48 H48 => ?_
  clear H47
  refine h_op H48 rfl (wn rfl) (R_pick H48 rfl rfl rfl) rfl (P5 47 11 10 9 1 rfl rfl rfl rfl rfl) fun a49 H49 => ?_
  clear H48
  refine h_op H49 rfl (wn rfl) (R_mv H49 rfl rfl) rfl (P5 48 11 10 9 1 rfl rfl rfl rfl rfl) fun a50 H50 => ?_
  clear H49
  refine h_op H50 rfl (H50.wt rfl rfl rfl) (R_mv H50 rfl rfl) rfl (P5 49 48 11 10 1 rfl rfl rfl rfl rfl) fun a51 H51 => ?_
  clear H50
  refine h_op H51 rfl (H51.wt rfl rfl rfl) (R_bin H51 rfl rfl rfl (B_to (y := true) (B_eq Tryz.underlying3 _ _) rfl)) rfl (P5 50 48 11 10 1 rfl rfl rfl rfl rfl) fun a52 H52 => ?_
  clear H51
  refine h_op H52 rfl (wn rfl) (R_pick H52 rfl rfl rfl) rfl (P4 51 11 10 1 rfl rfl rfl rfl) fun a53 H53 => ?_
  clear H52
  refine h_op H53 rfl (wn rfl) (R_mv H53 rfl rfl) rfl (P4 52 11 10 1 rfl rfl rfl rfl) fun a54 H54 => ?_
  clear H53
  refine h_op H54 rfl (H54.wt rfl rfl rfl) (R_mv H54 rfl rfl) rfl (P4 53 52 10 1 rfl rfl rfl rfl) fun a55 H55 => ?_
  clear H54
  refine h_op H55 rfl (wn rfl) (R_pick H55 rfl rfl rfl) rfl (P3 54 10 1 rfl rfl rfl) fun a56 H56 => ?_
  clear H55
  refine h_op H56 rfl (wn rfl) (R_mv H56 rfl rfl) rfl (P3 55 10 1 rfl rfl rfl) fun a57 H57 => ?_
  clear H56
  refine h_op H57 rfl (H57.wt rfl rfl rfl) (R_mv H57 rfl rfl) rfl (P4 56 55 10 1 rfl rfl rfl rfl) fun a58 H58 => ?_
  clear H57
  refine h_op H58 rfl (H58.wt rfl rfl rfl) (R_lenS H58 rfl rfl Tryz.underlying27) rfl (P4 57 55 10 1 rfl rfl rfl rfl) fun a59 H59 => ?_
  clear H58
  refine h_op H59 rfl (H59.wt rfl rfl rfl) (R_bin H59 rfl rfl rfl (B_to (y := true) (B_eq Tryz.underlying3 _ _) rfl)) rfl (P4 58 55 10 1 rfl rfl rfl rfl) fun a60 H60 => ?_
  clear H59
  refine h_op H60 rfl (wn rfl) (R_pick H60 rfl rfl rfl) rfl (P3 59 10 1 rfl rfl rfl) fun a61 H61 => ?_
  clear H60
  refine h_op H61 rfl (wn rfl) (R_mv H61 rfl rfl) rfl (P3 60 10 1 rfl rfl rfl) fun a62 H62 => ?_
  clear H61
  refine h_op H62 rfl (H62.wt rfl rfl rfl) (R_mv H62 rfl rfl) rfl (P3 61 60 1 rfl rfl rfl) fun a63 H63 => ?_
  clear H62
  refine h_op H63 rfl (H63.wt rfl rfl rfl) (R_ixa H63 rfl rfl rfl (ix_out (j := 0) hq (by decide))) rfl (P3 62 60 1 rfl rfl rfl) fun a64 H64 => ?_
  clear H63
  refine h_op H64 rfl (H64.wt rfl rfl rfl) (R_fa H64 rfl rfl fa_o2) rfl (P3 63 60 1 rfl rfl rfl) fun a65 H65 => ?_
  clear H64
  refine h_op H65 rfl (H65.wt rfl rfl rfl) (R_fa H65 rfl rfl fa_g1) rfl (P3 64 60 1 rfl rfl rfl) fun a66 H66 => ?_
  clear H65
  refine h_op H66 rfl (H66.wt rfl rfl rfl) (R_ld H66 rfl rfl (ld_lon hs)) rfl (P3 65 60 1 rfl rfl rfl) fun a67 H67 => ?_
  clear H66
  refine h_op H67 rfl (H67.wt rfl rfl rfl) (R_bin H67 rfl rfl rfl (B_to (y := true) (B_eq Tryz.underlying2 _ _) rfl)) rfl (P3 66 60 1 rfl rfl rfl) fun a68 H68 => ?_
  clear H67
  refine h_op H68 rfl (wn rfl) (R_pick H68 rfl rfl rfl) rfl (P2 67 1 rfl rfl) fun a69 H69 => ?_
  clear H68
  refine h_op H69 rfl (wn rfl) (R_mv H69 rfl rfl) rfl (P2 68 1 rfl rfl) fun a70 H70 => ?_
  clear H69
  refine h_op H70 rfl (H70.wt rfl rfl rfl) (R_mv H70 rfl rfl) rfl (P2 69 68 rfl rfl) fun a71 H71 => ?_
  clear H70
  refine h_call H71 rfl (H71.wt rfl rfl rfl) (R_call1 H71 rfl rfl (fun w => by simp [go_sem])) rfl ?_
  refine (shmark_any hL.dropl).mono ?_
  rintro e w72 ⟨rfl, hL2⟩
  refine ⟨_, rfl, fun a72 HH => ?_⟩
  have H72 := HH _ (P2 70 68 rfl rfl)
  clear HH H71
  refine h_op H72 rfl (H72.wt rfl rfl rfl) (R_bin H72 rfl rfl rfl (B_to (y := true) (B_eq Tryz.underlying2 _ _) (by rw [w34]; rfl))) rfl (P2 71 68 rfl rfl) fun a73 H73 => ?_
  clear H72
  refine h_op H73 rfl (wn rfl) (R_pick H73 rfl rfl rfl) rfl (P1 72 rfl) fun a74 H74 => ?_
  clear H73
  refine h_op H74 rfl (wn rfl) (R_as H74 rfl rfl) rfl (P1 0 rfl) fun a75 H75 => ?_
  clear H74
  refine h_end ?_
  repeat (go_not_at_region 999; go_step)
  exact H75.ret1 rfl rfl ⟨rfl, hL2.1⟩
end
end Go.Proofs.YtnjfjdfjheiocaaGreat
