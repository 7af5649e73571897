/-
  seen.New: a table of none.
-/
import Derived.Test.YtnjfjdfjheiocaaGreatShE
set_option linter.unusedSimpArgs false
set_option linter.unusedVariables false
namespace Go.Proofs.YtnjfjdfjheiocaaGreat
open Go.RowKit
section
variable {w W w0 : World} {L : List Thg} {A : Array Value}
theorem bd_sn : (Instr.build 115 #[]).run Tryz.prog w = .ok (.agg (snP (fun _ => 0) fun _ => none)) w := by
  simp [go_sem]
  rfl
theorem bx_sn {lo : Nat → Int} {m : Nat → Option Nat} : (Instr.box 115 (.agg (snP lo m))).run Tryz.prog w = .ok (.pointer (some ⟨w.heap.size, 0, none⟩)) (w.alloc (.cells (snP lo m) 115)) := by
  unfold snP
  simp [go_sem]
theorem st_inn {g i : Nat} {A : Array Value} {t : TypeId} {u v : Int} (h : LV w0 (bk g A t :: L) W) (hc : A[i]? = some (.int .i64 u)) : (Instr.storeAt 3 (.pointer (some ⟨g, i, none⟩)) (.int .i64 v)).run Tryz.prog W = .ok () (W.setCell ⟨g, i, none⟩ (.int .i64 v)) := by
  have h1 := (h.cell i).trans hc
  have h2 := h.thaw i
  simp [go_sem, h1, h2]
theorem st_mpi {g i : Nat} {A : Array Value} {t : TypeId} {u v : Option Nat} (h : LV w0 (bk g A t :: L) W) (hc : A[i]? = some (.map u)) : (Instr.storeAt 112 (.pointer (some ⟨g, i, none⟩)) (.map v)).run Tryz.prog W = .ok () (W.setCell ⟨g, i, none⟩ (.map v)) := by
  have h1 := (h.cell i).trans hc
  have h2 := h.thaw i
  simp [go_sem, h1, h2]
theorem LV.setL {g i : Nat} {lo : Nat → Int} {m : Nat → Option Nat} {t : TypeId} (h : LV w0 (bk g (snP lo m) t :: L) W) (hi : i < 4) (v : Int) : LV w0 (bk g (snP (upd lo i v) m) t :: L) (W.setCell ⟨g, i, none⟩ (.int .i64 v)) := by
  rw [← snP_setL hi]
  exact h.put i _
theorem LV.setM {g i : Nat} {lo : Nat → Int} {m : Nat → Option Nat} {t : TypeId} (h : LV w0 (bk g (snP lo m) t :: L) W) (hi : i < 4) (v : Option Nat) : LV w0 (bk g (snP lo (upd m i v)) t :: L) (W.setCell ⟨g, 4 + i, none⟩ (.map v)) := by
  rw [← snP_setM hi]
  exact h.put (4 + i) _
/-- The maps made so far. -/
def mdX (bs : Nat → Nat) : Nat → List Thg
  | 0 => []
  | j + 1 => mp (bs j) [] :: mdX bs j
theorem mdX_eq {bs bs' : Nat → Nat} : ∀ {j : Nat}, (∀ i, i < j → bs i = bs' i) → mdX bs j = mdX bs' j
  | 0, _ => rfl
  | j + 1, h => by
    unfold mdX
    rw [h j (by omega), mdX_eq fun i hi => h i (by omega)]
theorem mdX_four {bs : Nat → Nat} : (mdX bs 4 ++ L).Perm (snT bs (fun _ => []) ++ L) := ((List.reverse_perm (mdX bs 4)).symm).append_right L
theorem LV.nextS {pn j gm : Nat} {bs : Nat → Nat} {t : TypeId} (h : LV w0 (bk pn (snP (upd (fun i => if i < j then 1 else 0) j 1) (upd (fun i => if i < j then some (bs i) else none) j (some gm))) t :: mp gm [] :: (mdX bs j ++ L)) W) : ∃ bs', LV w0 (bk pn (snP (fun i => if i < j + 1 then 1 else 0) fun i => if i < j + 1 then some (bs' i) else none) t :: (mdX bs' (j + 1) ++ L)) W := by
  refine ⟨upd bs j gm, ?_⟩
  have e1 : upd (fun i => if i < j then (1 : Int) else 0) j 1 = fun i => if i < j + 1 then 1 else 0 := by
    funext i
    unfold upd
    dsimp only
    by_cases h1 : i = j
    · rw [if_pos h1, if_pos (by omega)]
    · rw [if_neg h1]
      by_cases h2 : i < j
      · rw [if_pos h2, if_pos (by omega)]
      · rw [if_neg h2, if_neg (by omega)]
  have e2 : upd (fun i => if i < j then some (bs i) else none) j (some gm) = fun i => if i < j + 1 then some (upd bs j gm i) else none := by
    funext i
    unfold upd
    dsimp only
    by_cases h1 : i = j
    · rw [if_pos h1, if_pos (by omega), if_pos h1]
    · rw [if_neg h1]
      by_cases h2 : i < j
      · rw [if_pos h2, if_pos (by omega), if_neg h1]
      · rw [if_neg h2, if_neg (by omega)]
  have e3 : mdX (upd bs j gm) (j + 1) = mp gm [] :: mdX bs j := by
    show mp (upd bs j gm j) [] :: _ = _
    rw [upd_at, mdX_eq fun i hi => ?_]
    unfold upd
    rw [if_neg (by omega)]
  rw [← e1, ← e2, e3]
  exact h
set_option maxRecDepth 100000 in
theorem snew_any (hL : LV w0 L W) : Calls Tryz.prog 32 #[] W fun e W' => ∃ pn bs, e = .returned (.pointer (some ⟨pn, 0, none⟩)) ∧ LV w0 (bk pn (snC (fun _ => 1) bs) 115 :: (snT bs (fun _ => []) ++ L)) W' := by
  go_enter Tryz.func32, Tryz.ntmps32
  refine wp_fr (n := 21) (m := []) ⟨rfl, rfl, by intro p hp; cases hp⟩ fun a0 H0 => ?_
  repeat (go_not_at_region 0; go_step)
  refine wp_region_lit ?_
  refine h_op H0 rfl (wn rfl) (R_as H0 rfl rfl) rfl .nil fun a1 H1 => ?_
  clear H0
  refine h_end ?_
  repeat (go_not_at_region 1; go_step)
  refine wp_region_lit ?_
  refine h_op H1 rfl (wn rfl) (R_build rfl bd_sn) rfl (P1 3 rfl) fun a2 H2 => ?_
  clear H1
  refine h_opS (bk W.heap.size (snP (fun _ => 0) fun _ => none) 115 :: L) H2 rfl (wn rfl) (R_box H2 rfl rfl bx_sn) (hL.alloc _ _) rfl (P1 4 rfl) fun a3 w3 H3 hL' => ?_
  replace hL := hL'
  clear H2 hL'
  refine h_op H3 rfl (wn rfl) (R_as H3 rfl rfl) rfl (P1 1 rfl) fun a4 H4 => ?_
  clear H3
  refine h_end ?_
  obtain ⟨pn, hpn⟩ : ∃ g, g = W.heap.size := ⟨_, rfl⟩
  rw [← hpn] at H4 hL
  clear hpn
  repeat (go_not_at_region 2; go_step)
  refine wp_region_lit ?_
  refine h_op H4 rfl (wn rfl) (R_mv H4 rfl rfl) rfl (P2 5 1 rfl rfl) fun a5 H5 => ?_
  clear H4
  refine h_end ?_
  repeat (go_not_at_region 3; go_step)
  obtain ⟨I, hI⟩ : ∃ I : Nat → Act → World → Prop, ∀ n a' w', I n a' w' ↔ ∃ (j : Nat) (bs : Nat → Nat), n = 4 - j ∧ j ≤ 4 ∧ Fr a' 21 [(1, .pointer (some ⟨pn, 0, none⟩)), (5, .int .i64 (j : Nat))] ∧ LV w0 (bk pn (snP (fun i => if i < j then 1 else 0) fun i => if i < j then some (bs i) else none) 115 :: (mdX bs j ++ L)) w' := ⟨_, fun _ _ _ => Iff.rfl⟩
  have HI := Lib.hid hI
  clear hI
  refine wp_loop_ghost I 4 ((HI.out _ _ _).2 ⟨0, fun _ => 0, rfl, by omega, H5.pick _ (P2 1 5 rfl rfl), hL⟩) ?_
  clear hL H5
  intro n a1 wl hi
  obtain ⟨j, bs, rfl, hj, H0, hL⟩ := (HI.out _ _ _).1 hi
  clear hi
  by_cases hjl : j < 4
  · repeat (go_not_at_region 3; go_step)
    refine wp_region_lit ?_
    refine h_op H0 rfl (wn rfl) (R_bin H0 rfl rfl rfl (B_to (y := true) (B_lt Tryz.underlying3 _ _) (decide_eq_true (by omega)))) rfl (P3 6 1 5 rfl rfl rfl) fun a1 H1 => ?_
    clear H0
    refine h_end ?_
    repeat (go_not_at_region 4; go_step)
    refine wp_cond_true (H1.ev (x := .tmp 6) rfl) ?_
    repeat (go_not_at_region 4; go_step)
    refine wp_region_lit ?_
    refine h_op H1 rfl (wn rfl) (R_mv H1 rfl rfl) rfl (P3 7 1 5 rfl rfl rfl) fun a2 H2 => ?_
    clear H1
    refine h_op H2 rfl (wn rfl) (R_as H2 rfl rfl) rfl (P3 2 1 5 rfl rfl rfl) fun a3 H3 => ?_
    clear H2
    refine h_end ?_
    repeat (go_not_at_region 5; go_step)
    refine wp_region_held_drew (S := fun w' => True) (by kernel_rfl) (trivial) (fun _ => ?_)
    replace hL := hL.drew
    refine a_op 0 H3 rfl rfl (by kernel_rfl) (by kernel_rfl) (by kernel_rfl) (fun _ _ _ h => h) (wn rfl) (fun w hL => R_mv H3 rfl rfl) (trivial) rfl (P4 8 2 1 5 rfl rfl rfl rfl) fun a4 H4 => ?_
    clear H3
    refine a_op 1 H4 rfl rfl (by kernel_rfl) (by kernel_rfl) (by kernel_rfl) (fun _ _ _ h => h) (wn rfl) (fun w hL => R_mv H4 rfl rfl) (trivial) rfl (P5 9 8 2 1 5 rfl rfl rfl rfl rfl) fun a5 H5 => ?_
    clear H4
    refine a_op 2 H5 rfl rfl (by kernel_rfl) (by kernel_rfl) (by kernel_rfl) (fun _ _ _ h => h) (wn rfl) (fun w hL => R_mv H5 rfl rfl) (trivial) rfl (P6 10 9 8 2 1 5 rfl rfl rfl rfl rfl rfl) fun a6 H6 => ?_
    clear H5
    refine a_op 3 H6 rfl rfl (by kernel_rfl) (by kernel_rfl) (by kernel_rfl) (fun _ _ _ h => h) (wn rfl) (fun w hL => R_mv H6 rfl rfl) (trivial) rfl (P6 11 10 9 8 1 5 rfl rfl rfl rfl rfl rfl) fun a7 H7 => ?_
    clear H6
    refine a_op 5 H7 rfl rfl (by kernel_rfl) (by kernel_rfl) (by kernel_rfl) (fun _ _ _ h => h) (wn rfl) (fun w hL => R_nc H7 rfl rfl) (trivial) rfl (P6 13 11 10 9 1 5 rfl rfl rfl rfl rfl rfl) fun a8 H8 => ?_
    clear H7
    refine a_op 9 H8 rfl rfl (by kernel_rfl) (by kernel_rfl) (by kernel_rfl) (fun _ _ _ h => h) (wn rfl) (fun w hL => R_nc H8 rfl rfl) (trivial) rfl (P6 16 13 11 9 1 5 rfl rfl rfl rfl rfl rfl) fun a9 H9 => ?_
    clear H8
    refine a_op 6 H9 rfl rfl (by kernel_rfl) (by kernel_rfl) (by kernel_rfl) (fun _ _ _ h => h) (wn rfl) (fun w hL => R_fa H9 rfl rfl fs_s0) (trivial) rfl (P6 14 16 11 9 1 5 rfl rfl rfl rfl rfl rfl) fun a10 H10 => ?_
    clear H9
    refine a_op 10 H10 rfl rfl (by kernel_rfl) (by kernel_rfl) (by kernel_rfl) (fun _ _ _ h => h) (wn rfl) (fun w hL => R_fa H10 rfl rfl fs_s1) (trivial) rfl (P6 17 14 11 9 1 5 rfl rfl rfl rfl rfl rfl) fun a11 H11 => ?_
    clear H10
    refine a_op 7 H11 rfl rfl (by kernel_rfl) (by kernel_rfl) (by kernel_rfl) (fun _ _ _ h => h) (wn rfl) (fun w hL => R_ixa H11 rfl rfl rfl (ixl hjl)) (trivial) rfl (P5 15 17 11 1 5 rfl rfl rfl rfl rfl) fun a12 H12 => ?_
    clear H11
    refine a_all2 4 8 (by kernel_rfl) ?_ ?_
    · refine o_opS _ 4 H12 rfl rfl (wn rfl) (R_mm rfl) (hL.allocM.swap) rfl (P6 12 15 17 11 1 5 rfl rfl rfl rfl rfl rfl) fun a13 w13 H13 hL' => ⟨trivial, ?_⟩
      replace hL := hL'
      clear H12 hL'
      refine a_all1 8 (by kernel_rfl) ?_
      refine o_stS _ 8 H13 rfl rfl (wn rfl) (R_st H13 rfl rfl rfl (st_inn hL (snP_lo hjl))) (hL.setL hjl 1) fun a14 w14 H14 hL' => ⟨trivial, ?_⟩
      replace hL := hL'
      clear H13 hL'
      refine a_op 11 H14 rfl rfl (by kernel_rfl) (by kernel_rfl) (by kernel_rfl) (fun _ _ _ h => h) (wn rfl) (fun w hL => R_ixa H14 rfl rfl rfl (ixm hjl)) (trivial) rfl (P4 18 12 1 5 rfl rfl rfl rfl) fun a15 H15 => ?_
      clear H14
      refine a_all1 12 (by kernel_rfl) ?_
      refine o_stS _ 12 H15 rfl rfl (wn rfl) (R_st H15 rfl rfl rfl (st_mpi hL (snP_mp hjl))) (hL.setM hjl _) fun a16 w16 H16 hL' => ⟨trivial, ?_⟩
      replace hL := hL'
      clear H15 hL'
      refine wpAnyH_done (by kernel_rfl) ?_ _
      replace hL := hL.nextS
      obtain ⟨bs', hL⟩ := hL
      repeat (go_not_at_region 6; go_step)
      refine wp_region_lit ?_
      refine h_op H16 rfl (wn rfl) (R_bin H16 rfl rfl rfl (B_add Tryz.underlying3 _ _ (by omega) (by omega))) rfl (P3 19 1 5 rfl rfl rfl) fun a17 H17 => ?_
      clear H16
      refine h_op H17 rfl (wn rfl) (R_mv H17 rfl rfl) rfl (P2 5 1 rfl rfl) fun a18 H18 => ?_
      clear H17
      refine h_end ?_
      refine ⟨4 - (j + 1), by omega, (HI.out _ _ _).2 ⟨j + 1, bs', rfl, by omega, H18.pick _ (P2 1 5 rfl rfl), hL⟩⟩
    · refine o_stS _ 8 H12 rfl rfl (wn rfl) (R_st H12 rfl rfl rfl (st_inn hL (snP_lo hjl))) (hL.setL hjl 1) fun a13 w13 H13 hL' => ⟨trivial, ?_⟩
      replace hL := hL'
      clear H12 hL'
      refine a_all1 4 (by kernel_rfl) ?_
      refine o_opS _ 4 H13 rfl rfl (wn rfl) (R_mm rfl) (hL.allocM.swap) rfl (P5 12 17 11 1 5 rfl rfl rfl rfl rfl) fun a14 w14 H14 hL' => ⟨trivial, ?_⟩
      replace hL := hL'
      clear H13 hL'
      refine a_op 11 H14 rfl rfl (by kernel_rfl) (by kernel_rfl) (by kernel_rfl) (fun _ _ _ h => h) (wn rfl) (fun w hL => R_ixa H14 rfl rfl rfl (ixm hjl)) (trivial) rfl (P4 18 12 1 5 rfl rfl rfl rfl) fun a15 H15 => ?_
      clear H14
      refine a_all1 12 (by kernel_rfl) ?_
      refine o_stS _ 12 H15 rfl rfl (wn rfl) (R_st H15 rfl rfl rfl (st_mpi hL (snP_mp hjl))) (hL.setM hjl _) fun a16 w16 H16 hL' => ⟨trivial, ?_⟩
      replace hL := hL'
      clear H15 hL'
      refine wpAnyH_done (by kernel_rfl) ?_ _
      replace hL := hL.nextS
      obtain ⟨bs', hL⟩ := hL
      repeat (go_not_at_region 6; go_step)
      refine wp_region_lit ?_
      refine h_op H16 rfl (wn rfl) (R_bin H16 rfl rfl rfl (B_add Tryz.underlying3 _ _ (by omega) (by omega))) rfl (P3 19 1 5 rfl rfl rfl) fun a17 H17 => ?_
      clear H16
      refine h_op H17 rfl (wn rfl) (R_mv H17 rfl rfl) rfl (P2 5 1 rfl rfl) fun a18 H18 => ?_
      clear H17
      refine h_end ?_
      refine ⟨4 - (j + 1), by omega, (HI.out _ _ _).2 ⟨j + 1, bs', rfl, by omega, H18.pick _ (P2 1 5 rfl rfl), hL⟩⟩
  · repeat (go_not_at_region 3; go_step)
    refine wp_region_lit ?_
    refine h_op H0 rfl (wn rfl) (R_bin H0 rfl rfl rfl (B_to (y := false) (B_lt Tryz.underlying3 _ _) (decide_eq_false (by omega)))) rfl (P3 6 1 5 rfl rfl rfl) fun a1 H1 => ?_
    clear H0
    refine h_end ?_
    repeat (go_not_at_region 7; go_step)
    refine wp_cond_false (H1.ev (x := .tmp 6) rfl) ?_
    have e4 : j = 4 := by omega
    subst e4
    repeat (go_not_at_region 7; go_step)
    refine wp_region_lit ?_
    refine h_op H1 rfl (wn rfl) (R_mv H1 rfl rfl) rfl (P1 20 rfl) fun a2 H2 => ?_
    clear H1
    refine h_op H2 rfl (wn rfl) (R_as H2 rfl rfl) rfl (P1 0 rfl) fun a3 H3 => ?_
    clear H2
    refine h_end ?_
    repeat (go_not_at_region 999; go_step)
    exact H3.ret1 rfl rfl ⟨pn, bs, rfl, (hL.perm (mdX_four.cons _))⟩
end
end Go.Proofs.YtnjfjdfjheiocaaGreat
