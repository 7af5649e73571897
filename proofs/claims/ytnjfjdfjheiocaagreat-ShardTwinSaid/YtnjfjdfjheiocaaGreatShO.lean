/-
  tell: New, Mark, Open.
-/
import Derived.Test.YtnjfjdfjheiocaaGreatShN
set_option linter.unusedSimpArgs false
set_option linter.unusedVariables false
namespace Go.Proofs.YtnjfjdfjheiocaaGreat
open Go.RowKit
section
variable {w0 W W' w : World} {L R X : List Thg} {M : Wins} {b ps pl g : Nat} {v : Value} {mark at_ : Int} {A : Array Value}
theorem st_lon {g i : Nat} {A : Array Value} {t : TypeId} {u v : Int} (h : LV w0 (bk g A t :: L) W) (hc : A[i]? = some (.int .i64 u)) : (Instr.storeAt 2 (.pointer (some ⟨g, i, none⟩)) (.int .i64 v)).run Tryz.prog W = .ok () (W.setCell ⟨g, i, none⟩ (.int .i64 v)) := by
  have h1 := (h.cell i).trans hc
  have h2 := h.thaw i
  simp [go_sem, h1, h2]
theorem bd_st : (Instr.build 151 #[(0, .map (some b))]).run Tryz.prog w = .ok (.agg (stC b)) w := by
  simp [go_sem]
theorem bx_st : (Instr.box 151 (.agg (stC b))).run Tryz.prog w = .ok (.pointer (some ⟨w.heap.size, 0, none⟩)) (w.alloc (.cells (stC b) 151)) := by
  simp [go_sem]
theorem bd_ln1 : (Instr.build 111 #[(0, .pointer (some ⟨ps, 0, none⟩))]).run Tryz.prog w = .ok (.agg (lnC ps 0)) w := by
  simp [go_sem]
theorem bd_ln : (Instr.build 111 #[(0, .pointer (some ⟨ps, 0, none⟩)), (1, .int .i64 mark)]).run Tryz.prog w = .ok (.agg (lnC ps mark)) w := by
  simp [go_sem]
theorem bx_ln : (Instr.box 111 (.agg (lnC ps mark))).run Tryz.prog w = .ok (.pointer (some ⟨w.heap.size, 0, none⟩)) (w.alloc (.cells (lnC ps mark) 111)) := by
  simp [go_sem]
theorem stnew_any (hL : LV w0 L W) : Calls Tryz.prog 59 #[] W fun e W' => ∃ ps b, e = .returned (.pointer (some ⟨ps, 0, none⟩)) ∧ LV w0 (bk ps (stC b) 151 :: mw b [] :: L) W' := by
  go_enter Tryz.func59, Tryz.ntmps59
  refine wp_fr (n := 4) (m := []) ⟨rfl, rfl, by intro p hp; cases hp⟩ fun a0 H0 => ?_
  repeat (go_not_at_region 0; go_step)
  refine wp_region_lit ?_
  refine h_op H0 rfl (wn rfl) (R_as H0 rfl rfl) rfl .nil fun a1 H1 => ?_
  clear H0
  refine h_end ?_
  repeat (go_not_at_region 1; go_step)
  refine wp_region_lit ?_
  refine h_opS (mw W.heap.size [] :: L) H1 rfl (wn rfl) (R_mm rfl) (hL.allocW) rfl (P1 1 rfl) fun a2 w2 H2 hL' => ?_
  replace hL := hL'
  clear H1 hL'
  refine h_op H2 rfl (wn rfl) (R_bd1 H2 rfl rfl bd_st) rfl (P1 2 rfl) fun a3 H3 => ?_
  clear H2
  refine h_opS (bk w2.heap.size (stC W.heap.size) 151 :: mw W.heap.size [] :: L) H3 rfl (wn rfl) (R_box H3 rfl rfl bx_st) (hL.alloc _ _) rfl (P1 3 rfl) fun a4 w4 H4 hL' => ?_
  replace hL := hL'
  clear H3 hL'
  refine h_op H4 rfl (wn rfl) (R_as H4 rfl rfl) rfl (P1 0 rfl) fun a5 H5 => ?_
  clear H4
  refine h_end ?_
  repeat (go_not_at_region 999; go_step)
  exact H5.ret1 rfl rfl ⟨_, _, rfl, hL⟩
theorem lnew_any (hL : LV w0 L W) : Calls Tryz.prog 31 #[] W fun e W' => ∃ pl ps b, e = .returned (.pointer (some ⟨pl, 0, none⟩)) ∧ LV w0 (bk pl (lnC ps 0) 111 :: bk ps (stC b) 151 :: mw b [] :: L) W' := by
  go_enter Tryz.func31, Tryz.ntmps31
  refine wp_fr (n := 4) (m := []) ⟨rfl, rfl, by intro p hp; cases hp⟩ fun a0 H0 => ?_
  repeat (go_not_at_region 0; go_step)
  refine wp_region_lit ?_
  refine h_op H0 rfl (wn rfl) (R_as H0 rfl rfl) rfl .nil fun a1 H1 => ?_
  clear H0
  refine h_end ?_
  repeat (go_not_at_region 1; go_step)
  refine wp_region_lit ?_
  refine h_call H1 rfl (wn rfl) (R_call0 H1 rfl (fun w => by simp [go_sem])) rfl ?_
  refine (stnew_any hL).mono ?_
  rintro e w2 ⟨ps, b, rfl, hL2⟩
  clear hL
  have hL := hL2
  clear hL2
  refine ⟨_, rfl, fun a2 HH => ?_⟩
  have H2 := HH _ (P1 1 rfl)
  clear HH H1
  refine h_op H2 rfl (wn rfl) (R_bd1 H2 rfl rfl bd_ln1) rfl (P1 2 rfl) fun a3 H3 => ?_
  clear H2
  refine h_opS (bk w2.heap.size (lnC ps 0) 111 :: bk ps (stC b) 151 :: mw b [] :: L) H3 rfl (wn rfl) (R_box H3 rfl rfl bx_ln) (hL.alloc _ _) rfl (P1 3 rfl) fun a4 w4 H4 hL' => ?_
  replace hL := hL'
  clear H3 hL'
  refine h_op H4 rfl (wn rfl) (R_as H4 rfl rfl) rfl (P1 0 rfl) fun a5 H5 => ?_
  clear H4
  refine h_end ?_
  repeat (go_not_at_region 999; go_step)
  exact H5.ret1 rfl rfl ⟨_, _, _, rfl, hL⟩
theorem lopen_any (hL : LV w0 (bk pl (lnC ps mark) 111 :: bk ps (stC b) 151 :: mw b M :: L) W) (hn : M.length < 100000) : Calls Tryz.prog 56 #[.pointer (some ⟨pl, 0, none⟩)] W fun e W' => ∃ v X, e = .returned v ∧ PRow 57 10 v M.length (outF M) X ∧ LV w0 (X ++ (bk pl (lnC ps mark) 111 :: bk ps (stC b) 151 :: mw b M :: L)) W' := by
  go_enter Tryz.func56, Tryz.ntmps56
  refine wp_fr (n := 10) (m := [(0, _)]) ⟨rfl, rfl, by intro p hp; simp only [List.mem_cons, List.not_mem_nil, or_false] at hp; rcases hp with rfl <;> rfl⟩ fun a0 H0 => ?_
  repeat (go_not_at_region 0; go_step)
  refine wp_region_lit ?_
  refine h_op H0 rfl (wn rfl) (R_as H0 rfl rfl) rfl (P1 0 rfl) fun a1 H1 => ?_
  clear H0
  refine h_end ?_
  repeat (go_not_at_region 1; go_step)
  refine wp_region_lit ?_
  refine h_op H1 rfl (wn rfl) (R_mv H1 rfl rfl) rfl (P2 3 0 rfl rfl) fun a2 H2 => ?_
  clear H1
  refine h_call H2 rfl (wn rfl) (R_call1 H2 rfl rfl (fun w => by simp [go_sem])) rfl ?_
  refine (lnone_any (hL.cell 0)).mono ?_
  rintro e w3 ⟨rfl, hw⟩
  replace hL := hL.eqw hw
  clear hw
  refine ⟨_, rfl, fun a3 HH => ?_⟩
  have H3 := HH _ (P2 4 0 rfl rfl)
  clear HH H2
  refine h_end ?_
  repeat (go_not_at_region 3; go_step)
  refine wp_cond_false (H3.ev (x := .tmp 4) rfl) ?_
  repeat (go_not_at_region 3; go_step)
  refine wp_region_lit ?_
  refine h_op H3 rfl (wn rfl) (R_mv H3 rfl rfl) rfl (P1 5 rfl) fun a4 H4 => ?_
  clear H3
  refine h_op H4 rfl (wn rfl) (R_nc H4 rfl rfl) rfl (P1 6 rfl) fun a5 H5 => ?_
  clear H4
  refine h_op H5 rfl (wn rfl) (R_fa H5 rfl rfl fa_ln0) rfl (P1 7 rfl) fun a6 H6 => ?_
  clear H5
  refine h_op H6 rfl (wn rfl) (R_ld H6 rfl rfl (ld_pst (hL.cell 0))) rfl (P1 8 rfl) fun a7 H7 => ?_
  clear H6
  refine h_call H7 rfl (wn rfl) (R_call1 H7 rfl rfl (fun w => by simp [go_sem])) rfl ?_
  refine (all_any hL.s12 hn).mono ?_
  rintro e w8 ⟨va, XA, rfl, hrA, hL2⟩
  clear hL
  refine ⟨_, rfl, fun a8 HH => ?_⟩
  have H8 := HH _ (P1 9 rfl)
  clear HH H7
  refine h_op H8 rfl (wn rfl) (R_as H8 rfl rfl) rfl (P1 2 rfl) fun a9 H9 => ?_
  clear H8
  refine h_end ?_
  repeat (go_not_at_region 999; go_step)
  exact H9.ret1 rfl rfl ⟨_, XA, rfl, hrA, hL2.bk3.s21.fr3⟩
/-- The mark rises. -/
def lmarkM (M : Wins) (mark at_ : Int) : Int × Wins × Wins × Int :=
  if !rightI at_ then (4, [], M, mark) else if at_ ≤ mark then (1, [], M, mark) else (1, (takeM M at_).1, (takeM M at_).2, at_)
set_option maxRecDepth 100000 in
theorem lmark_any (hL : LV w0 (bk pl (lnC ps mark) 111 :: bk ps (stC b) 151 :: mw b M :: L) W) (hn : M.length < 100000) : Calls Tryz.prog 61 #[.pointer (some ⟨pl, 0, none⟩), .int .i64 at_] W fun e W' => ∃ v X, e = .returned (.tuple #[.int .i64 (lmarkM M mark at_).1, v]) ∧ PRow 57 10 v (lmarkM M mark at_).2.1.length (outF (lmarkM M mark at_).2.1) X ∧ LV w0 (X ++ (bk pl (lnC ps (lmarkM M mark at_).2.2.2) 111 :: bk ps (stC b) 151 :: mw b (lmarkM M mark at_).2.2.1 :: L)) W' := by
  obtain ⟨y, hy⟩ : ∃ y, y = lmarkM M mark at_ := ⟨_, rfl⟩
  rw [← hy]
  unfold lmarkM at hy
  go_enter Tryz.func61, Tryz.ntmps61
  obtain ⟨f0, hf0⟩ : ∃ b : Bool, b = false := ⟨_, rfl⟩
  refine wp_fr (n := 31) (m := [(0, _), (1, _)]) ⟨rfl, rfl, by intro p hp; simp only [List.mem_cons, List.not_mem_nil, or_false] at hp; rcases hp with rfl | rfl <;> rfl⟩ fun a0 H0 => ?_
  repeat (go_not_at_region 0; go_step)
  refine wp_region_lit ?_
  refine h_op H0 rfl (wn rfl) (R_as H0 rfl rfl) rfl (P2 0 1 rfl rfl) fun a1 H1 => ?_
  clear H0
  refine h_op H1 rfl (wn rfl) (R_as H1 rfl rfl) rfl (P2 0 1 rfl rfl) fun a2 H2 => ?_
  clear H1
  refine h_end ?_
  repeat (go_not_at_region 1; go_step)
  refine wp_region_lit ?_
  refine h_op H2 rfl (wn rfl) (R_mv H2 rfl rfl) rfl (P3 7 0 1 rfl rfl rfl) fun a3 H3 => ?_
  clear H2
  refine h_call H3 rfl (wn rfl) (R_call1 H3 rfl rfl (fun w => by simp [go_sem])) rfl ?_
  refine (lnone_any (hL.cell 0)).mono ?_
  rintro e w4 ⟨he, hw⟩
  rw [← hf0] at he
  subst he
  replace hL := hL.eqw hw
  clear hw
  refine ⟨_, rfl, fun a4 HH => ?_⟩
  have H4 := HH _ (P3 8 0 1 rfl rfl rfl)
  clear HH H3
  refine h_op H4 rfl (wn rfl) (R_mv H4 rfl rfl) rfl (P3 9 0 1 rfl rfl rfl) fun a5 H5 => ?_
  clear H4
  replace H5 := H5.pick [(0, .pointer (some ⟨pl, 0, none⟩)), (1, .int .i64 at_), (9, .bool f0)] (P3 0 1 9 rfl rfl rfl)
  generalize ht0 : f0 = t0 at H5
  refine wpList_cut [_, _, _, _] (R := fun a' w' => Fr a' 31 [(0, .pointer (some ⟨pl, 0, none⟩)), (1, .int .i64 at_), (13, .bool (t0 || (!(rightI at_))))] ∧ LV w0 (bk pl (lnC ps mark) 111 :: bk ps (stC b) 151 :: mw b M :: L) w') ?_ ?_
  · cases t0
    · refine h_op H5 rfl (H5.wt rfl rfl rfl) (R_mv H5 rfl rfl) rfl (P4 10 0 1 9 rfl rfl rfl rfl) fun a6 H6 => ?_
      clear H5
      refine h_call H6 rfl (H6.wt rfl rfl rfl) (R_call1 H6 rfl rfl (fun w => by simp [go_sem])) rfl ?_
      refine (rightI_any at_ _).mono ?_
      rintro e w7 ⟨rfl, hw⟩
      replace hL := hL.eqw hw
      clear hw
      refine ⟨_, rfl, fun a7 HH => ?_⟩
      have H7 := HH _ (P4 11 0 1 9 rfl rfl rfl rfl)
      clear HH H6
      refine h_op H7 rfl (H7.wt rfl rfl rfl) (R_not H7 rfl rfl) rfl (P4 12 0 1 9 rfl rfl rfl rfl) fun a8 H8 => ?_
      clear H7
      refine h_op H8 rfl (wn rfl) (R_pick H8 rfl rfl rfl) rfl (P3 13 0 1 rfl rfl rfl) fun a9 H9 => ?_
      clear H8
      exact h_end ⟨H9.pick _ (P3 0 1 13 rfl rfl rfl), hL⟩
    · refine h_skip H5 rfl (H5.wf rfl rfl rfl) rfl (P4 10 0 1 9 rfl rfl rfl rfl) fun a6 H6 => ?_
      clear H5
      refine h_skip H6 rfl (H6.wf rfl rfl rfl) rfl (P4 11 0 1 9 rfl rfl rfl rfl) fun a7 H7 => ?_
      clear H6
      refine h_skip H7 rfl (H7.wf rfl rfl rfl) rfl (P4 12 0 1 9 rfl rfl rfl rfl) fun a8 H8 => ?_
      clear H7
      refine h_op H8 rfl (wn rfl) (R_pick H8 rfl rfl rfl) rfl (P3 13 0 1 rfl rfl rfl) fun a9 H9 => ?_
      clear H8
      exact h_end ⟨H9.pick _ (P3 0 1 13 rfl rfl rfl), hL⟩
  clear hL H5
  rintro a10 wx ⟨H10, hL⟩
  generalize ht1 : (t0 || (!(rightI at_))) = t1 at H10
  have e2 : (!rightI at_) = t1 := by rw [← ht1, ← ht0, hf0]; rfl
  rw [e2] at hy
  refine h_op H10 rfl (wn rfl) (R_as H10 rfl rfl) rfl (P3 6 0 1 rfl rfl rfl) fun a11 H11 => ?_
  clear H10
  refine h_end ?_
  cases t1
  rotate_left
  · rw [if_pos rfl] at hy
    repeat (go_not_at_region 2; go_step)
    refine wp_cond_true (H11.ev (x := .tmp 6) rfl) ?_
    repeat (go_not_at_region 2; go_step)
    refine wp_region_lit ?_
    refine h_op H11 rfl (wn rfl) (R_as H11 rfl rfl) rfl (P1 4 rfl) fun a12 H12 => ?_
    clear H11
    refine h_op H12 rfl (wn rfl) (R_as H12 rfl rfl) rfl (P2 5 4 rfl rfl) fun a13 H13 => ?_
    clear H12
    refine h_end ?_
    repeat (go_not_at_region 999; go_step)
    subst hy
    exact H13.ret2 rfl rfl rfl ⟨_, [], rfl, PRow.nil, hL⟩
  rw [if_neg (by decide)] at hy
  repeat (go_not_at_region 3; go_step)
  refine wp_cond_false (H11.ev (x := .tmp 6) rfl) ?_
  repeat (go_not_at_region 3; go_step)
  refine wp_region_lit ?_
  refine h_op H11 rfl (wn rfl) (R_mv H11 rfl rfl) rfl (P3 15 0 1 rfl rfl rfl) fun a12 H12 => ?_
  clear H11
  refine h_op H12 rfl (wn rfl) (R_mv H12 rfl rfl) rfl (P4 16 15 0 1 rfl rfl rfl rfl) fun a13 H13 => ?_
  clear H12
  refine h_op H13 rfl (wn rfl) (R_nc H13 rfl rfl) rfl (P4 17 15 0 1 rfl rfl rfl rfl) fun a14 H14 => ?_
  clear H13
  refine h_op H14 rfl (wn rfl) (R_fa H14 rfl rfl fa_ln1) rfl (P4 18 15 0 1 rfl rfl rfl rfl) fun a15 H15 => ?_
  clear H14
  refine h_op H15 rfl (wn rfl) (R_ld H15 rfl rfl (ld_lon (hL.cell 1))) rfl (P4 19 15 0 1 rfl rfl rfl rfl) fun a16 H16 => ?_
  clear H15
  refine h_op H16 rfl (wn rfl) (R_bin H16 rfl rfl rfl (B_le Tryz.underlying2 _ _)) rfl (P3 20 0 1 rfl rfl rfl) fun a17 H17 => ?_
  clear H16
  refine h_op H17 rfl (wn rfl) (R_as H17 rfl rfl) rfl (P3 14 0 1 rfl rfl rfl) fun a18 H18 => ?_
  clear H17
  refine h_end ?_
  by_cases hle : at_ ≤ mark
  · rw [decide_eq_true hle] at H18
    rw [if_pos hle] at hy
    repeat (go_not_at_region 4; go_step)
    refine wp_cond_true (H18.ev (x := .tmp 14) rfl) ?_
    repeat (go_not_at_region 4; go_step)
    refine wp_region_lit ?_
    refine h_op H18 rfl (wn rfl) (R_as H18 rfl rfl) rfl (P1 4 rfl) fun a19 H19 => ?_
    clear H18
    refine h_op H19 rfl (wn rfl) (R_as H19 rfl rfl) rfl (P2 5 4 rfl rfl) fun a20 H20 => ?_
    clear H19
    refine h_end ?_
    repeat (go_not_at_region 999; go_step)
    subst hy
    exact H20.ret2 rfl rfl rfl ⟨_, [], rfl, PRow.nil, hL⟩
  rw [decide_eq_false hle] at H18
  rw [if_neg hle] at hy
  repeat (go_not_at_region 5; go_step)
  refine wp_cond_false (H18.ev (x := .tmp 14) rfl) ?_
  repeat (go_not_at_region 5; go_step)
  refine wp_region_lit ?_
  refine h_op H18 rfl (wn rfl) (R_mv H18 rfl rfl) rfl (P3 21 0 1 rfl rfl rfl) fun a19 H19 => ?_
  clear H18
  refine h_op H19 rfl (wn rfl) (R_mv H19 rfl rfl) rfl (P4 22 21 0 1 rfl rfl rfl rfl) fun a20 H20 => ?_
  clear H19
  refine h_op H20 rfl (wn rfl) (R_nc H20 rfl rfl) rfl (P4 23 22 0 1 rfl rfl rfl rfl) fun a21 H21 => ?_
  clear H20
  refine h_op H21 rfl (wn rfl) (R_fa H21 rfl rfl fa_ln1) rfl (P4 24 22 0 1 rfl rfl rfl rfl) fun a22 H22 => ?_
  clear H21
  refine h_stS (bk pl (lnC ps at_) 111 :: bk ps (stC b) 151 :: mw b M :: L) H22 rfl (wn rfl) (R_st H22 rfl rfl rfl (st_lon hL rfl)) (hL.put 1 _) fun a23 w23 H23 hL' => ?_
  replace hL := hL'
  clear H22 hL'
  refine h_end ?_
  repeat (go_not_at_region 6; go_step)
  refine wp_region_lit ?_
  refine h_op H23 rfl (wn rfl) (R_mv H23 rfl rfl) rfl (P2 25 1 rfl rfl) fun a24 H24 => ?_
  clear H23
  refine h_op H24 rfl (wn rfl) (R_nc H24 rfl rfl) rfl (P2 26 1 rfl rfl) fun a25 H25 => ?_
  clear H24
  refine h_op H25 rfl (wn rfl) (R_fa H25 rfl rfl fa_ln0) rfl (P2 27 1 rfl rfl) fun a26 H26 => ?_
  clear H25
  refine h_op H26 rfl (wn rfl) (R_ld H26 rfl rfl (ld_pst (hL.cell 0))) rfl (P2 28 1 rfl rfl) fun a27 H27 => ?_
  clear H26
  refine h_op H27 rfl (wn rfl) (R_mv H27 rfl rfl) rfl (P2 29 28 rfl rfl) fun a28 H28 => ?_
  clear H27
  refine h_call H28 rfl (wn rfl) (R_call2 H28 rfl rfl rfl (fun w => by simp [go_sem])) rfl ?_
  refine (take_any (mark := at_) hL.s12 hn).mono ?_
  rintro e w29 ⟨va, XA, rfl, hrA, hL2⟩
  clear hL
  refine ⟨_, rfl, fun a29 HH => ?_⟩
  have H29 := HH _ (P1 30 rfl)
  clear HH H28
  refine h_op H29 rfl (wn rfl) (R_as H29 rfl rfl) rfl (P2 4 30 rfl rfl) fun a30 H30 => ?_
  clear H29
  refine h_op H30 rfl (wn rfl) (R_as H30 rfl rfl) rfl (P2 5 4 rfl rfl) fun a31 H31 => ?_
  clear H30
  refine h_end ?_
  repeat (go_not_at_region 999; go_step)
  subst hy
  exact H31.ret2 rfl rfl rfl ⟨_, XA, rfl, hrA, hL2.bk3.s21.fr3⟩
end
end Go.Proofs.YtnjfjdfjheiocaaGreat
