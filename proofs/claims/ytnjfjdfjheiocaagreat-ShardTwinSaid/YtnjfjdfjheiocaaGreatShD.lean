/-
  tell: none, Put, At.
-/
import Derived.Test.YtnjfjdfjheiocaaGreatShC
set_option linter.unusedSimpArgs false
set_option linter.unusedVariables false
namespace Go.Proofs.YtnjfjdfjheiocaaGreat
open Go.RowKit
theorem R_call4 {P : Program} {o : Oper} {a : Act} {w : World} {n : Nat} {m : List (Nat × Value)} {f : FuncId} {ts : Array TypeId} {x1 x2 x3 x4 : Operand} {v1 v2 v3 v4 : Value} (H : Fr a n m) (ho : o.op = .call { callee := .value (.func f), args := #[x1, x2, x3, x4], argTypes := ts }) (h1 : ev1 m x1 = some v1) (h2 : ev1 m x2 = some v2) (h3 : ev1 m x3 = some v3) (h4 : ev1 m x4 = some v4) (hf : ∀ w : World, (callFunc f #[v1, v2, v3, v4]).run P w = .ok (.enter f #[v1, v2, v3, v4]) w) : (execOp a.eval o).run P w = .ok (.enter f #[v1, v2, v3, v4]) w := by
  have e0 : a.eval (.func f) = .func (.func f) #[] #[] := rfl
  have e1 := H.ev h1
  have e2 := H.ev h2
  have e3 := H.ev h3
  have e4 := H.ev h4
  unfold execOp
  rw [ho]
  generalize a.eval = ρ at *
  simp [resolve, invoke, go_sem, e0, e1, e2, e3, e4, hf]
theorem R_call5 {P : Program} {o : Oper} {a : Act} {w : World} {n : Nat} {m : List (Nat × Value)} {f : FuncId} {ts : Array TypeId} {x1 x2 x3 x4 x5 : Operand} {v1 v2 v3 v4 v5 : Value} (H : Fr a n m) (ho : o.op = .call { callee := .value (.func f), args := #[x1, x2, x3, x4, x5], argTypes := ts }) (h1 : ev1 m x1 = some v1) (h2 : ev1 m x2 = some v2) (h3 : ev1 m x3 = some v3) (h4 : ev1 m x4 = some v4) (h5 : ev1 m x5 = some v5) (hf : ∀ w : World, (callFunc f #[v1, v2, v3, v4, v5]).run P w = .ok (.enter f #[v1, v2, v3, v4, v5]) w) : (execOp a.eval o).run P w = .ok (.enter f #[v1, v2, v3, v4, v5]) w := by
  have e0 : a.eval (.func f) = .func (.func f) #[] #[] := rfl
  have e1 := H.ev h1
  have e2 := H.ev h2
  have e3 := H.ev h3
  have e4 := H.ev h4
  have e5 := H.ev h5
  unfold execOp
  rw [ho]
  generalize a.eval = ρ at *
  simp [resolve, invoke, go_sem, e0, e1, e2, e3, e4, e5, hf]
section
variable {w0 W w W' : World} {L R : List Thg} {b g ps pl : Nat} {M : Wins} {k : Win} {a : A8} {p q r : Thg} {mark : Int} {key : ByteArray} {at_ v : Int}
set_option maxRecDepth 100000 in
theorem lnone_any (h : w.cell? ⟨pl, 0, none⟩ = some (.pointer (some ⟨ps, 0, none⟩))) : Calls Tryz.prog 82 #[.pointer (some ⟨pl, 0, none⟩)] w fun e W' => e = .returned (.bool false) ∧ W' = w := by
  go_enter Tryz.func82, Tryz.ntmps82
  refine wp_fr (n := 12) (m := [(0, _)]) ⟨rfl, rfl, by intro p hp; simp only [List.mem_cons, List.not_mem_nil, or_false] at hp; rcases hp with rfl <;> rfl⟩ fun a0 H0 => ?_
  repeat (go_not_at_region 0; go_step)
  refine wp_region_lit ?_
  refine h_op H0 rfl (wn rfl) (R_as H0 rfl rfl) rfl (P1 0 rfl) fun a1 H1 => ?_
  clear H0
  refine h_end ?_
  repeat (go_not_at_region 1; go_step)
  refine wp_region_lit ?_
  refine h_op H1 rfl (wn rfl) (R_mv H1 rfl rfl) rfl (P2 3 0 rfl rfl) fun a2 H2 => ?_
  clear H1
  refine h_op H2 rfl (wn rfl) (R_bin H2 rfl rfl rfl B_pl) rfl (P2 4 0 rfl rfl) fun a3 H3 => ?_
  clear H2
  refine h_op H3 rfl (wn rfl) (R_mv H3 rfl rfl) rfl (P2 5 0 rfl rfl) fun a4 H4 => ?_
  clear H3
  refine h_op H4 rfl (H4.wt rfl rfl rfl) (R_mv H4 rfl rfl) rfl (P2 6 5 rfl rfl) fun a5 H5 => ?_
  clear H4
  refine h_op H5 rfl (H5.wt rfl rfl rfl) (R_nc H5 rfl rfl) rfl (P2 7 5 rfl rfl) fun a6 H6 => ?_
  clear H5
  refine h_op H6 rfl (H6.wt rfl rfl rfl) (R_fa H6 rfl rfl fa_ln0) rfl (P2 8 5 rfl rfl) fun a7 H7 => ?_
  clear H6
  refine h_op H7 rfl (H7.wt rfl rfl rfl) (R_ld H7 rfl rfl (ld_pst h)) rfl (P2 9 5 rfl rfl) fun a8 H8 => ?_
  clear H7
  refine h_op H8 rfl (H8.wt rfl rfl rfl) (R_bin H8 rfl rfl rfl B_ps) rfl (P2 10 5 rfl rfl) fun a9 H9 => ?_
  clear H8
  refine h_op H9 rfl (wn rfl) (R_pick H9 rfl rfl rfl) rfl (P1 11 rfl) fun a10 H10 => ?_
  clear H9
  refine h_op H10 rfl (wn rfl) (R_as H10 rfl rfl) rfl (P1 2 rfl) fun a11 H11 => ?_
  clear H10
  refine h_end ?_
  repeat (go_not_at_region 999; go_step)
  exact H11.ret1 rfl rfl ⟨rfl, rfl⟩
set_option maxRecDepth 100000 in
theorem lnone_nil : Calls Tryz.prog 82 #[.pointer none] w fun e W' => e = .returned (.bool true) ∧ W' = w := by
  go_enter Tryz.func82, Tryz.ntmps82
  refine wp_fr (n := 12) (m := [(0, _)]) ⟨rfl, rfl, by intro p hp; simp only [List.mem_cons, List.not_mem_nil, or_false] at hp; rcases hp with rfl <;> rfl⟩ fun a0 H0 => ?_
  repeat (go_not_at_region 0; go_step)
  refine wp_region_lit ?_
  refine h_op H0 rfl (wn rfl) (R_as H0 rfl rfl) rfl (P1 0 rfl) fun a1 H1 => ?_
  clear H0
  refine h_end ?_
  repeat (go_not_at_region 1; go_step)
  refine wp_region_lit ?_
  refine h_op H1 rfl (wn rfl) (R_mv H1 rfl rfl) rfl (P2 3 0 rfl rfl) fun a2 H2 => ?_
  clear H1
  refine h_op H2 rfl (wn rfl) (R_bin H2 rfl rfl rfl (B_pnn Tryz.underlying73)) rfl (P2 4 0 rfl rfl) fun a3 H3 => ?_
  clear H2
  refine h_op H3 rfl (wn rfl) (R_mv H3 rfl rfl) rfl (P2 5 0 rfl rfl) fun a4 H4 => ?_
  clear H3
  refine h_skip H4 rfl (H4.wf rfl rfl rfl) rfl (P2 6 5 rfl rfl) fun a5 H5 => ?_
  clear H4
  refine h_skip H5 rfl (H5.wf rfl rfl rfl) rfl (P2 7 5 rfl rfl) fun a6 H6 => ?_
  clear H5
  refine h_skip H6 rfl (H6.wf rfl rfl rfl) rfl (P2 8 5 rfl rfl) fun a7 H7 => ?_
  clear H6
  refine h_skip H7 rfl (H7.wf rfl rfl rfl) rfl (P2 9 5 rfl rfl) fun a8 H8 => ?_
  clear H7
  refine h_skip H8 rfl (H8.wf rfl rfl rfl) rfl (P2 10 5 rfl rfl) fun a9 H9 => ?_
  clear H8
  refine h_op H9 rfl (wn rfl) (R_pick H9 rfl rfl rfl) rfl (P1 11 rfl) fun a10 H10 => ?_
  clear H9
  refine h_op H10 rfl (wn rfl) (R_as H10 rfl rfl) rfl (P1 2 rfl) fun a11 H11 => ?_
  clear H10
  refine h_end ?_
  repeat (go_not_at_region 999; go_step)
  exact H11.ret1 rfl rfl ⟨rfl, rfl⟩
/-- What a value comes to, under a mark. -/
def lputM (M : Wins) (mark : Int) (key : ByteArray) (at_ v : Int) : Wins × Int :=
  if !keyB key || !rightI at_ then (M, 4) else if lateI at_ mark then (M, 2) else if (putS M key at_ v).2 != 0 then ((putS M key at_ v).1, 3) else ((putS M key at_ v).1, 1)
set_option maxRecDepth 100000 in
theorem lput_any (hks : key.size ≤ maxLen) (hn : M.length < 1000000) (h : LV w0 (bk pl (lnC ps mark) 111 :: bk ps (stC b) 151 :: mw b M :: L) W) : Calls Tryz.prog 60 #[.pointer (some ⟨pl, 0, none⟩), .string key, .int .i64 at_, .int .i64 v] W fun e W' => e = .returned (.int .i64 (lputM M mark key at_ v).2) ∧ LV w0 (bk pl (lnC ps mark) 111 :: bk ps (stC b) 151 :: mw b (lputM M mark key at_ v).1 :: L) W' := by
  have hL := h
  clear h
  obtain ⟨y, hy⟩ : ∃ y, y = lputM M mark key at_ v := ⟨_, rfl⟩
  rw [← hy]
  unfold lputM at hy
  go_enter Tryz.func60, Tryz.ntmps60
  refine wp_fr (n := 39) (m := [(0, _), (1, _), (2, _), (3, _)]) ⟨rfl, rfl, by intro p hp; simp only [List.mem_cons, List.not_mem_nil, or_false] at hp; rcases hp with rfl | rfl | rfl | rfl <;> rfl⟩ fun a0 H0 => ?_
  repeat (go_not_at_region 0; go_step)
  refine wp_region_lit ?_
  refine h_op H0 rfl (wn rfl) (R_as H0 rfl rfl) rfl (P4 0 1 2 3 rfl rfl rfl rfl) fun a1 H1 => ?_
  clear H0
  refine h_end ?_
  repeat (go_not_at_region 1; go_step)
  refine wp_region_lit ?_
  refine h_op H1 rfl (wn rfl) (R_mv H1 rfl rfl) rfl (P5 10 0 1 2 3 rfl rfl rfl rfl rfl) fun a2 H2 => ?_
  clear H1
  refine h_call H2 rfl (wn rfl) (R_call1 H2 rfl rfl (fun w => by simp [go_sem])) rfl ?_
  refine (lnone_any (hL.cell 0)).mono ?_
  rintro e w3 ⟨rfl, hw⟩
  replace hL := hL.eqw hw
  clear hw
  refine ⟨_, rfl, fun a3 HH => ?_⟩
  have H3 := HH _ (P5 11 0 1 2 3 rfl rfl rfl rfl rfl)
  clear HH H2
  refine h_op H3 rfl (wn rfl) (R_mv H3 rfl rfl) rfl (P5 12 0 1 2 3 rfl rfl rfl rfl rfl) fun a4 H4 => ?_
  clear H3
  replace H4 := H4.pick [(0, .pointer (some ⟨pl, 0, none⟩)), (1, .string key), (2, .int .i64 at_), (3, .int .i64 v), (12, .bool (decide ((1 : Int) < 0)))] (P5 0 1 2 3 12 rfl rfl rfl rfl rfl)
  generalize ht0 : (decide ((1 : Int) < 0)) = t0 at H4
  refine wpList_cut [_, _, _, _, _] (R := fun a' w' => Fr a' 39 [(0, .pointer (some ⟨pl, 0, none⟩)), (1, .string key), (2, .int .i64 at_), (3, .int .i64 v), (17, .bool (t0 || (!(keyB key))))] ∧ LV w0 (bk pl (lnC ps mark) 111 :: bk ps (stC b) 151 :: mw b M :: L) w') ?_ ?_
  · cases t0
    · refine h_op H4 rfl (H4.wt rfl rfl rfl) (R_mv H4 rfl rfl) rfl (P6 13 0 1 2 3 12 rfl rfl rfl rfl rfl rfl) fun a5 H5 => ?_
      clear H4
      refine h_call H5 rfl (H5.wt rfl rfl rfl) (R_call1 H5 rfl rfl (fun w => by simp [go_sem])) rfl ?_
      refine (keyB_any key _).mono ?_
      rintro e w6 ⟨rfl, hw⟩
      replace hL := hL.eqw hw
      clear hw
      refine ⟨_, rfl, fun a6 HH => ?_⟩
      have H6 := HH _ (P6 14 0 1 2 3 12 rfl rfl rfl rfl rfl rfl)
      clear HH H5
      refine h_op H6 rfl (H6.wt rfl rfl rfl) (R_not H6 rfl rfl) rfl (P6 15 0 1 2 3 12 rfl rfl rfl rfl rfl rfl) fun a7 H7 => ?_
      clear H6
      refine h_op H7 rfl (wn rfl) (R_pick H7 rfl rfl rfl) rfl (P5 16 0 1 2 3 rfl rfl rfl rfl rfl) fun a8 H8 => ?_
      clear H7
      refine h_op H8 rfl (wn rfl) (R_mv H8 rfl rfl) rfl (P5 17 0 1 2 3 rfl rfl rfl rfl rfl) fun a9 H9 => ?_
      clear H8
      exact h_end ⟨H9.pick _ (P5 0 1 2 3 17 rfl rfl rfl rfl rfl), hL⟩
    · refine h_skip H4 rfl (H4.wf rfl rfl rfl) rfl (P6 13 0 1 2 3 12 rfl rfl rfl rfl rfl rfl) fun a5 H5 => ?_
      clear H4
      refine h_skip H5 rfl (H5.wf rfl rfl rfl) rfl (P6 14 0 1 2 3 12 rfl rfl rfl rfl rfl rfl) fun a6 H6 => ?_
      clear H5
      refine h_skip H6 rfl (H6.wf rfl rfl rfl) rfl (P6 15 0 1 2 3 12 rfl rfl rfl rfl rfl rfl) fun a7 H7 => ?_
      clear H6
      refine h_op H7 rfl (wn rfl) (R_pick H7 rfl rfl rfl) rfl (P5 16 0 1 2 3 rfl rfl rfl rfl rfl) fun a8 H8 => ?_
      clear H7
      refine h_op H8 rfl (wn rfl) (R_mv H8 rfl rfl) rfl (P5 17 0 1 2 3 rfl rfl rfl rfl rfl) fun a9 H9 => ?_
      clear H8
      exact h_end ⟨H9.pick _ (P5 0 1 2 3 17 rfl rfl rfl rfl rfl), hL⟩
  clear hL H4
  rintro a10 wx ⟨H10, hL⟩
  generalize ht1 : (t0 || (!(keyB key))) = t1 at H10
  refine wpList_cut [_, _, _, _] (R := fun a' w' => Fr a' 39 [(0, .pointer (some ⟨pl, 0, none⟩)), (1, .string key), (2, .int .i64 at_), (3, .int .i64 v), (21, .bool (t1 || (!(rightI at_))))] ∧ LV w0 (bk pl (lnC ps mark) 111 :: bk ps (stC b) 151 :: mw b M :: L) w') ?_ ?_
  · cases t1
    · refine h_op H10 rfl (H10.wt rfl rfl rfl) (R_mv H10 rfl rfl) rfl (P6 18 0 1 2 3 17 rfl rfl rfl rfl rfl rfl) fun a11 H11 => ?_
      clear H10
      refine h_call H11 rfl (H11.wt rfl rfl rfl) (R_call1 H11 rfl rfl (fun w => by simp [go_sem])) rfl ?_
      refine (rightI_any at_ _).mono ?_
      rintro e w12 ⟨rfl, hw⟩
      replace hL := hL.eqw hw
      clear hw
      refine ⟨_, rfl, fun a12 HH => ?_⟩
      have H12 := HH _ (P6 19 0 1 2 3 17 rfl rfl rfl rfl rfl rfl)
      clear HH H11
      refine h_op H12 rfl (H12.wt rfl rfl rfl) (R_not H12 rfl rfl) rfl (P6 20 0 1 2 3 17 rfl rfl rfl rfl rfl rfl) fun a13 H13 => ?_
      clear H12
      refine h_op H13 rfl (wn rfl) (R_pick H13 rfl rfl rfl) rfl (P5 21 0 1 2 3 rfl rfl rfl rfl rfl) fun a14 H14 => ?_
      clear H13
      exact h_end ⟨H14.pick _ (P5 0 1 2 3 21 rfl rfl rfl rfl rfl), hL⟩
    · refine h_skip H10 rfl (H10.wf rfl rfl rfl) rfl (P6 18 0 1 2 3 17 rfl rfl rfl rfl rfl rfl) fun a11 H11 => ?_
      clear H10
      refine h_skip H11 rfl (H11.wf rfl rfl rfl) rfl (P6 19 0 1 2 3 17 rfl rfl rfl rfl rfl rfl) fun a12 H12 => ?_
      clear H11
      refine h_skip H12 rfl (H12.wf rfl rfl rfl) rfl (P6 20 0 1 2 3 17 rfl rfl rfl rfl rfl rfl) fun a13 H13 => ?_
      clear H12
      refine h_op H13 rfl (wn rfl) (R_pick H13 rfl rfl rfl) rfl (P5 21 0 1 2 3 rfl rfl rfl rfl rfl) fun a14 H14 => ?_
      clear H13
      exact h_end ⟨H14.pick _ (P5 0 1 2 3 21 rfl rfl rfl rfl rfl), hL⟩
  clear hL H10
  rintro a15 wx ⟨H15, hL⟩
  generalize ht2 : (t1 || (!(rightI at_))) = t2 at H15
  have e2 : (!keyB key || !rightI at_) = t2 := by rw [← ht2, ← ht1, ← ht0]; rfl
  rw [e2] at hy
  refine h_op H15 rfl (wn rfl) (R_as H15 rfl rfl) rfl (P5 9 0 1 2 3 rfl rfl rfl rfl rfl) fun a16 H16 => ?_
  clear H15
  refine h_end ?_
  cases t2
  rotate_left
  · rw [if_pos rfl] at hy
    repeat (go_not_at_region 2; go_step)
    refine wp_cond_true (H16.ev (x := .tmp 9) rfl) ?_
    repeat (go_not_at_region 2; go_step)
    refine wp_region_lit ?_
    refine h_op H16 rfl (wn rfl) (R_as H16 rfl rfl) rfl (P1 8 rfl) fun a17 H17 => ?_
    clear H16
    refine h_end ?_
    repeat (go_not_at_region 999; go_step)
    subst hy
    exact H17.ret1 rfl rfl ⟨rfl, hL⟩
  rw [if_neg (by decide)] at hy
  repeat (go_not_at_region 3; go_step)
  refine wp_cond_false (H16.ev (x := .tmp 9) rfl) ?_
  repeat (go_not_at_region 3; go_step)
  refine wp_region_lit ?_
  refine h_op H16 rfl (wn rfl) (R_mv H16 rfl rfl) rfl (P5 23 0 1 2 3 rfl rfl rfl rfl rfl) fun a17 H17 => ?_
  clear H16
  refine h_op H17 rfl (wn rfl) (R_mv H17 rfl rfl) rfl (P6 24 23 0 1 2 3 rfl rfl rfl rfl rfl rfl) fun a18 H18 => ?_
  clear H17
  refine h_op H18 rfl (wn rfl) (R_nc H18 rfl rfl) rfl (P6 25 23 0 1 2 3 rfl rfl rfl rfl rfl rfl) fun a19 H19 => ?_
  clear H18
  refine h_op H19 rfl (wn rfl) (R_fa H19 rfl rfl fa_ln1) rfl (P6 26 23 0 1 2 3 rfl rfl rfl rfl rfl rfl) fun a20 H20 => ?_
  clear H19
  refine h_op H20 rfl (wn rfl) (R_ld H20 rfl rfl (ld_lon (hL.cell 1))) rfl (P6 27 23 0 1 2 3 rfl rfl rfl rfl rfl rfl) fun a21 H21 => ?_
  clear H20
  refine h_call H21 rfl (wn rfl) (R_call2 H21 rfl rfl rfl (fun w => by simp [go_sem])) rfl ?_
  refine (lateI_any at_ mark _).mono ?_
  rintro e w22 ⟨rfl, hw⟩
  replace hL := hL.eqw hw
  clear hw
  refine ⟨_, rfl, fun a22 HH => ?_⟩
  have H22 := HH _ (P5 28 0 1 2 3 rfl rfl rfl rfl rfl)
  clear HH H21
  refine h_op H22 rfl (wn rfl) (R_as H22 rfl rfl) rfl (P5 22 0 1 2 3 rfl rfl rfl rfl rfl) fun a23 H23 => ?_
  clear H22
  refine h_end ?_
  cases hl : lateI at_ mark
  rotate_left
  · rw [hl] at hy H23
    rw [if_pos rfl] at hy
    repeat (go_not_at_region 4; go_step)
    refine wp_cond_true (H23.ev (x := .tmp 22) rfl) ?_
    repeat (go_not_at_region 4; go_step)
    refine wp_region_lit ?_
    refine h_op H23 rfl (wn rfl) (R_as H23 rfl rfl) rfl (P1 8 rfl) fun a24 H24 => ?_
    clear H23
    refine h_end ?_
    repeat (go_not_at_region 999; go_step)
    subst hy
    exact H24.ret1 rfl rfl ⟨rfl, hL⟩
  rw [hl] at hy H23
  rw [if_neg (by decide)] at hy
  repeat (go_not_at_region 5; go_step)
  refine wp_cond_false (H23.ev (x := .tmp 22) rfl) ?_
  repeat (go_not_at_region 5; go_step)
  refine wp_region_lit ?_
  refine h_op H23 rfl (wn rfl) (R_mv H23 rfl rfl) rfl (P4 30 1 2 3 rfl rfl rfl rfl) fun a24 H24 => ?_
  clear H23
  refine h_op H24 rfl (wn rfl) (R_nc H24 rfl rfl) rfl (P4 31 1 2 3 rfl rfl rfl rfl) fun a25 H25 => ?_
  clear H24
  refine h_op H25 rfl (wn rfl) (R_fa H25 rfl rfl fa_ln0) rfl (P4 32 1 2 3 rfl rfl rfl rfl) fun a26 H26 => ?_
  clear H25
  refine h_op H26 rfl (wn rfl) (R_ld H26 rfl rfl (ld_pst (hL.cell 0))) rfl (P4 33 1 2 3 rfl rfl rfl rfl) fun a27 H27 => ?_
  clear H26
  refine h_op H27 rfl (wn rfl) (R_mv H27 rfl rfl) rfl (P4 34 33 2 3 rfl rfl rfl rfl) fun a28 H28 => ?_
  clear H27
  refine h_op H28 rfl (wn rfl) (R_mv H28 rfl rfl) rfl (P4 35 34 33 3 rfl rfl rfl rfl) fun a29 H29 => ?_
  clear H28
  refine h_op H29 rfl (wn rfl) (R_mv H29 rfl rfl) rfl (P4 36 35 34 33 rfl rfl rfl rfl) fun a30 H30 => ?_
  clear H29
  refine h_call H30 rfl (wn rfl) (R_call4 H30 rfl rfl rfl rfl rfl (fun w => by simp [go_sem])) rfl ?_
  refine (sput_any (L := bk pl (lnC ps mark) 111 :: L) (key := key) (at_ := at_) (v := v) hks hn hL.s12).mono ?_
  rintro e w31 ⟨rfl, hL2⟩
  replace hL := hL2.s21
  clear hL2
  refine ⟨_, rfl, fun a31 HH => ?_⟩
  have H31 := HH _ (P1 37 rfl)
  clear HH H30
  refine h_op H31 rfl (wn rfl) (R_bin H31 rfl rfl rfl (B_ne Tryz.underlying58 _ _)) rfl (P1 38 rfl) fun a32 H32 => ?_
  clear H31
  refine h_op H32 rfl (wn rfl) (R_as H32 rfl rfl) rfl (P1 29 rfl) fun a33 H33 => ?_
  clear H32
  refine h_end ?_
  cases hp : (putS M key at_ v).2 != 0
  rotate_left
  · rw [hp] at hy H33
    rw [if_pos rfl] at hy
    repeat (go_not_at_region 6; go_step)
    refine wp_cond_true (H33.ev (x := .tmp 29) rfl) ?_
    repeat (go_not_at_region 6; go_step)
    refine wp_region_lit ?_
    refine h_op H33 rfl (wn rfl) (R_as H33 rfl rfl) rfl (P1 8 rfl) fun a34 H34 => ?_
    clear H33
    refine h_end ?_
    repeat (go_not_at_region 999; go_step)
    subst hy
    exact H34.ret1 rfl rfl ⟨rfl, hL⟩
  rw [hp] at hy H33
  rw [if_neg (by decide)] at hy
  repeat (go_not_at_region 7; go_step)
  refine wp_cond_false (H33.ev (x := .tmp 29) rfl) ?_
  repeat (go_not_at_region 7; go_step)
  refine wp_region_lit ?_
  refine h_op H33 rfl (wn rfl) (R_as H33 rfl rfl) rfl (P1 8 rfl) fun a34 H34 => ?_
  clear H33
  refine h_end ?_
  repeat (go_not_at_region 999; go_step)
  subst hy
  exact H34.ret1 rfl rfl ⟨rfl, hL⟩
set_option maxRecDepth 100000 in
theorem lat_any (h : w.heap[pl]? = some (.cells (lnC ps mark) 111 (0, 0))) : Calls Tryz.prog 52 #[.pointer (some ⟨pl, 0, none⟩)] w fun e W' => e = .returned (.int .i64 mark) ∧ W' = w := by
  go_enter Tryz.func52, Tryz.ntmps52
  refine wp_fr (n := 9) (m := [(0, _)]) ⟨rfl, rfl, by intro p hp; simp only [List.mem_cons, List.not_mem_nil, or_false] at hp; rcases hp with rfl <;> rfl⟩ fun a0 H0 => ?_
  repeat (go_not_at_region 0; go_step)
  refine wp_region_lit ?_
  refine h_op H0 rfl (wn rfl) (R_as H0 rfl rfl) rfl (P1 0 rfl) fun a1 H1 => ?_
  clear H0
  refine h_end ?_
  repeat (go_not_at_region 1; go_step)
  refine wp_region_lit ?_
  refine h_op H1 rfl (wn rfl) (R_mv H1 rfl rfl) rfl (P2 3 0 rfl rfl) fun a2 H2 => ?_
  clear H1
  refine h_call H2 rfl (wn rfl) (R_call1 H2 rfl rfl (fun w => by simp [go_sem])) rfl ?_
  refine (lnone_any (cells_at h 0)).mono ?_
  rintro e w3 ⟨rfl, rfl⟩
  refine ⟨_, rfl, fun a3 HH => ?_⟩
  have H3 := HH _ (P2 4 0 rfl rfl)
  clear HH H2
  refine h_end ?_
  repeat (go_not_at_region 3; go_step)
  refine wp_cond_false (H3.ev (x := .tmp 4) rfl) ?_
  repeat (go_not_at_region 3; go_step)
  refine wp_region_lit ?_
  refine h_op H3 rfl (wn rfl) (R_mv H3 rfl rfl) rfl (P1 5 rfl) fun a4 H4 => ?_
  clear H3
  refine h_op H4 rfl (wn rfl) (R_nc H4 rfl rfl) rfl (P1 6 rfl) fun a5 H5 => ?_
  clear H4
  refine h_op H5 rfl (wn rfl) (R_fa H5 rfl rfl fa_ln1) rfl (P1 7 rfl) fun a6 H6 => ?_
  clear H5
  refine h_op H6 rfl (wn rfl) (R_ld H6 rfl rfl (ld_lon (cells_at h 1))) rfl (P1 8 rfl) fun a7 H7 => ?_
  clear H6
  refine h_op H7 rfl (wn rfl) (R_as H7 rfl rfl) rfl (P1 2 rfl) fun a8 H8 => ?_
  clear H7
  refine h_end ?_
  repeat (go_not_at_region 999; go_step)
  exact H8.ret1 rfl rfl ⟨rfl, rfl⟩
end
end Go.Proofs.YtnjfjdfjheiocaaGreat
