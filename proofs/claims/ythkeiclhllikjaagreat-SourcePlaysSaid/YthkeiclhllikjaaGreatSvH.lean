/-
  A source takes an answer.
-/
import Derived.Test.YthkeiclhllikjaaGreatSvF
import Derived.Maps.AppendAt
import Derived.Lib.SlKeysI
set_option linter.unusedSimpArgs false
set_option linter.unusedVariables false
namespace Go.Proofs.YthkeiclhllikjaaGreat
open Go.RowKit
def openB (L : List (PItem × Nat)) (k : Int) : Bool := (lookE (opE L) k).isSome
def setA (L : List (PItem × Nat)) (k c : Int) : List (PItem × Nat) :=
 match L[(k - 1).toNat]? with
 | some p => L.set (k - 1).toNat (p.1, c.toNat)
 | none => L
def ansM (S : PSrc) (k c : Int) : PSrc × Bool := if (!(openB S.L k) || decide (c < 1)) || decide (c > 4) then (S, false) else ({ S with L := setA S.L k c }, true)
section
variable {L : List (PItem × Nat)} {k c : Int}
theorem opE_item : ∃ y, (lookE (opE L) k).getD (.agg (itC itZ)) = .agg (itC y) := by
 by_cases h : 1 ≤ k ∧ k ≤ L.length
 ·rw [opE_look h.1 h.2]
  by_cases hc : codeN L k = 0
  ·rw [if_pos hc]
   exact ⟨_, rfl⟩
  ·rw [if_neg hc]
   exact ⟨_, rfl⟩
 ·rw [opE_look_out h]
  exact ⟨_, rfl⟩
theorem openB_iff : openB L k = true ↔ (1 ≤ k ∧ k ≤ L.length) ∧ codeN L k = 0 := by
 unfold openB
 by_cases h : 1 ≤ k ∧ k ≤ L.length
 ·rw [opE_look h.1 h.2]
  by_cases hc : codeN L k = 0
  ·rw [if_pos hc]
   simp [h, hc]
  ·rw [if_neg hc]
   simp [hc]
 ·rw [opE_look_out h]
  simp [h]
theorem setA_eq (h : openB L k = true) : ∃ (i : Nat) (x : PItem), i < L.length ∧ k = ((i + 1 : Nat) : Int) ∧ setA L k c = L.set i (x, c.toNat) := by
 have h2 := (openB_iff.1 h).1
 refine ⟨(k - 1).toNat, (L[(k - 1).toNat]'(by omega)).1, by omega, by omega, ?_⟩
 unfold setA
 rw [List.getElem?_eq_getElem (by omega)]
theorem lowN_set {i : Nat} {x : PItem} {d : Nat} (hi : i < L.length) (hd : d ≠ 0) : lowN L ≤ lowN (L.set i (x, d)) := by
 rcases Nat.lt_or_ge (lowN (L.set i (x, d))) (lowN L) with h | h
 ·have h1 := codeN_low (L := L.set i (x, d))
  rw [codeN_set hi] at h1
  split at h1
  ·exact absurd h1 hd
  ·exact absurd h1 (codeN_below lowN_pos h)
 ·exact h
end
section
variable {w0 W w : World} {L : List Thg} {S : PSrc} {v : Value} {bo ba p g : Nat} {x y : PItem} {k c : Int}
theorem back4' {a b e d : Thg} (h : LV w0 (a :: b :: e :: d :: L) w) : LV w0 (d :: a :: b :: e :: L) w := h.perm (((List.perm_append_comm (l₁ := [a, b, e]) (l₂ := [d])).append_right L))
theorem LV.joinT {a b e d : Thg} {X : List Thg} (_ : LV w0 X w) (h : LV w0 (a :: b :: e :: d :: L) w) : LV w0 (a :: b :: e :: L) w := (back4' h).tail
theorem al_it : (Instr.alloc 33 true (.tuple #[])).run Tryz.prog w = .ok (.pointer (some ⟨w.heap.size, 0, none⟩)) (w.alloc (.cells (itC itZ) 33)) := by
 simp [go_sem]
 rfl
theorem st_it (h : w.heap[g]? = some (.cells (itC x) 33 (0, 0))) : (Instr.storeAt 33 (.pointer (some ⟨g, 0, none⟩)) (.agg (itC y))).run Tryz.prog w = .ok () (w.setRow g (itC y)) := by
 simp only [Instr.storeAt, Instr.sureAddr, Sem.run_bind, Sem.run_pure, Result.andThen_ok, run_storeVar_row w g 33 33 _ (itC y) h infoIt rfl (by simp only [List.all_toArray, List.all_cons, List.all_nil, Bool.and_true]; rfl)]
theorem back4 {a b e d : Thg} (h : LV w0 (a :: b :: e :: d :: L) w) : LV w0 (b :: e :: d :: a :: L) w := h.perm (((List.perm_append_comm (l₁ := [a]) (l₂ := [b, e, d])).append_right L))
set_option maxRecDepth 100000 in
set_option maxHeartbeats 2000000 in
theorem answered_any (hL : LV w0 (bk p (srC S v bo ba) 60 :: mp bo (opE S.L) :: mp ba (anE S.L) :: L) W) (hn : S.L.length < 100000) (k0 : -9223372036854775808 ≤ k) (k1 : k < 9223372036854775808) :
  Calls Tryz.prog 34 #[.pointer (some ⟨p, 0, none⟩), .int .i64 k, .int .i64 c] W fun e W' => e = .returned (.bool (ansM S k c).2) ∧
   LV w0 (bk p (srC (ansM S k c).1 v bo ba) 60 :: mp bo (opE (ansM S k c).1.L) :: mp ba (anE (ansM S k c).1.L) :: L) W' := by
 obtain ⟨z, hz⟩ : ∃ z, z = ansM S k c := ⟨_, rfl⟩
 rw [← hz]
 unfold ansM at hz
 obtain ⟨y, hy⟩ := opE_item (L := S.L) (k := k)
 have hlk := lookOk_run k0 k1 Tryz.underlying58 (zeroIt W) (hL.tail.mem_map (by simp) : MapAt W bo (opE S.L))
 rw [hy, show (lookE (opE S.L) k).isSome = openB S.L k from rfl] at hlk
 go_enter Tryz.func34, Tryz.ntmps34
 refine wp_fr (n := 56) (m := [(0, _), (1, _), (2, _)]) ⟨rfl, rfl, by intro p hp; simp only [List.mem_cons, List.not_mem_nil, or_false] at hp; rcases hp with rfl | rfl | rfl <;> rfl⟩ fun a0 H0 => ?_
 repeat (go_not_at_region 0; go_step)
 refine wp_region_lit ?_
 refine h_o H0 rfl (R_as H0 rfl rfl) (P3 0 1 2 rfl rfl rfl) fun _ H1 => ?_
 refine h_end ?_
 repeat (go_not_at_region 1; go_step)
 refine wp_region_lit ?_
 refine h_o H1 rfl (R_mv H1 rfl rfl) (P4 10 0 1 2 rfl rfl rfl rfl) fun _ H2 => ?_
 refine h_o H2 rfl (R_nc H2 rfl rfl) (P4 11 0 1 2 rfl rfl rfl rfl) fun _ H3 => ?_
 refine h_o H3 rfl (R_fa H3 rfl rfl fs_2) (P4 12 0 1 2 rfl rfl rfl rfl) fun _ H4 => ?_
 refine h_o H4 rfl (R_ld H4 rfl rfl (ld_mi (hL.cell 4))) (P4 13 0 1 2 rfl rfl rfl rfl) fun _ H5 => ?_
 refine h_o H5 rfl (R_mv H5 rfl rfl) (P5 14 13 0 1 2 rfl rfl rfl rfl rfl) fun _ H6 => ?_
 refine h_o H6 rfl (R_lk H6 rfl rfl rfl hlk) (P4 15 0 1 2 rfl rfl rfl rfl) fun _ H7 => ?_
 refine h_o H7 rfl (R_mv H7 rfl rfl) (P4 9 0 1 2 rfl rfl rfl rfl) fun _ H8 => ?_
 refine h_o H8 rfl (R_ext H8 rfl rfl rfl) (P5 16 9 0 1 2 rfl rfl rfl rfl rfl) fun _ H9 => ?_
 refine h_o H9 rfl (R_ext H9 rfl rfl rfl) (P5 17 16 0 1 2 rfl rfl rfl rfl rfl) fun _ H10 => ?_
 refine h_opS (bk W.heap.size (itC itZ) 33 :: bk p (srC S v bo ba) 60 :: mp bo (opE S.L) :: mp ba (anE S.L) :: L) H10 rfl (wn rfl) (R_alloc rfl al_it) (hL.alloc _ _) rfl (P6 7 17 16 0 1 2 rfl rfl rfl rfl rfl rfl) fun _ w11 H11 hL => ?_
 refine h_stS (bk W.heap.size (itC y) 33 :: bk p (srC S v bo ba) 60 :: mp bo (opE S.L) :: mp ba (anE S.L) :: L) H11 rfl (wn rfl) (R_st H11 rfl rfl rfl (st_it hL.at_)) (hL.row _) fun _ w12 H12 hL => ?_
 refine h_o H12 rfl (R_as H12 rfl rfl) (P4 8 0 1 2 rfl rfl rfl rfl) fun _ H13 => ?_
 refine h_end ?_
 clear hlk
 replace hL := back4 hL
 repeat (go_not_at_region 2; go_step)
 refine wp_region_lit ?_
 refine h_o H13 rfl (R_mv H13 rfl rfl) (P4 18 0 1 2 rfl rfl rfl rfl) fun _ H14 => ?_
 refine h_o H14 rfl (R_not H14 rfl rfl) (P4 19 0 1 2 rfl rfl rfl rfl) fun _ H15 => ?_
 refine h_o H15 rfl (R_mv H15 rfl rfl) (P4 20 0 1 2 rfl rfl rfl rfl) fun _ H16 => ?_
 replace H16 := H16.pick [(0, .pointer (some ⟨p, 0, none⟩)), (1, .int .i64 k), (2, .int .i64 c), (20, .bool (!(openB S.L k)))] (P4 0 1 2 20 rfl rfl rfl rfl)
 generalize ht0 : (!(openB S.L k)) = t0 at H16
 refine wpList_cut [_, _, _, _] (R := fun a' w' => Fr a' 56 [(0, .pointer (some ⟨p, 0, none⟩)), (1, .int .i64 k), (2, .int .i64 c), (24, .bool (t0 || (decide (c < 1))))] ∧ LV w0 (bk p (srC S v bo ba) 60 :: mp bo (opE S.L) :: mp ba (anE S.L) :: bk W.heap.size (itC y) 33 :: L) w') ?_ ?_
 ·cases t0
  ·refine h_op H16 rfl (H16.wt rfl rfl rfl) (R_mv H16 rfl rfl) rfl (P5 21 0 1 2 20 rfl rfl rfl rfl rfl) fun a17 H17 => ?_
   refine h_op H17 rfl (H17.wt rfl rfl rfl) (R_bin H17 rfl rfl rfl (B_lt Tryz.underlying3 _ _)) rfl (P5 22 0 1 2 20 rfl rfl rfl rfl rfl) fun _ H18 => ?_
   refine h_o H18 rfl (R_pick H18 rfl rfl rfl) (P4 23 0 1 2 rfl rfl rfl rfl) fun _ H19 => ?_
   refine h_o H19 rfl (R_mv H19 rfl rfl) (P4 24 0 1 2 rfl rfl rfl rfl) fun _ H20 => ?_
   exact h_end ⟨H20.pick _ (P4 0 1 2 24 rfl rfl rfl rfl), hL⟩
  ·refine h_skip H16 rfl (H16.wf rfl rfl rfl) rfl (P5 21 0 1 2 20 rfl rfl rfl rfl rfl) fun a17 H17 => ?_
   refine h_skip H17 rfl (H17.wf rfl rfl rfl) rfl (P5 22 0 1 2 20 rfl rfl rfl rfl rfl) fun _ H18 => ?_
   refine h_o H18 rfl (R_pick H18 rfl rfl rfl) (P4 23 0 1 2 rfl rfl rfl rfl) fun _ H19 => ?_
   refine h_o H19 rfl (R_mv H19 rfl rfl) (P4 24 0 1 2 rfl rfl rfl rfl) fun _ H20 => ?_
   exact h_end ⟨H20.pick _ (P4 0 1 2 24 rfl rfl rfl rfl), hL⟩
 clear hL H16
 rintro a21 wx ⟨H21, hL⟩
 generalize ht1 : (t0 || (decide (c < 1))) = t1 at H21
 refine wpList_cut [_, _, _] (R := fun a' w' => Fr a' 56 [(0, .pointer (some ⟨p, 0, none⟩)), (1, .int .i64 k), (2, .int .i64 c), (27, .bool (t1 || (decide (c > 4))))] ∧ LV w0 (bk p (srC S v bo ba) 60 :: mp bo (opE S.L) :: mp ba (anE S.L) :: bk W.heap.size (itC y) 33 :: L) w') ?_ ?_
 ·cases t1
  ·refine h_op H21 rfl (H21.wt rfl rfl rfl) (R_mv H21 rfl rfl) rfl (P5 25 0 1 2 24 rfl rfl rfl rfl rfl) fun a22 H22 => ?_
   refine h_op H22 rfl (H22.wt rfl rfl rfl) (R_bin H22 rfl rfl rfl (B_gt Tryz.underlying3 _ _)) rfl (P5 26 0 1 2 24 rfl rfl rfl rfl rfl) fun _ H23 => ?_
   refine h_o H23 rfl (R_pick H23 rfl rfl rfl) (P4 27 0 1 2 rfl rfl rfl rfl) fun _ H24 => ?_
   exact h_end ⟨H24.pick _ (P4 0 1 2 27 rfl rfl rfl rfl), hL⟩
  ·refine h_skip H21 rfl (H21.wf rfl rfl rfl) rfl (P5 25 0 1 2 24 rfl rfl rfl rfl rfl) fun a22 H22 => ?_
   refine h_skip H22 rfl (H22.wf rfl rfl rfl) rfl (P5 26 0 1 2 24 rfl rfl rfl rfl rfl) fun _ H23 => ?_
   refine h_o H23 rfl (R_pick H23 rfl rfl rfl) (P4 27 0 1 2 rfl rfl rfl rfl) fun _ H24 => ?_
   exact h_end ⟨H24.pick _ (P4 0 1 2 27 rfl rfl rfl rfl), hL⟩
 clear hL H21
 rintro a25 wx ⟨H25, hL⟩
 generalize ht2 : (t1 || (decide (c > 4))) = t2 at H25
 refine h_end ?_
 rw [ht0, ht1, ht2] at hz
 cases t2
 rotate_left
 ·rw [if_pos rfl] at hz
  repeat (go_not_at_region 3; go_step)
  refine wp_cond_true (H25.ev (x := .tmp 27) rfl) ?_
  repeat (go_not_at_region 3; go_step)
  refine wp_region_lit ?_
  refine h_o H25 rfl (R_as H25 rfl rfl) (P1 6 rfl) fun _ H26 => ?_
  refine h_end ?_
  repeat (go_not_at_region 999; go_step)
  refine H26.ret1 rfl rfl ?_
  rw [hz]
  exact ⟨rfl, (hL.tail.tail.tail.tail.joinT hL)⟩
 rw [if_neg (by decide)] at hz
 have hop : openB S.L k = true ∧ 1 ≤ c ∧ c ≤ 4 := by
  rw [← ht1, ← ht0] at ht2
  have e1 := (Bool.or_eq_false_iff.1 ht2).2
  have e2 := (Bool.or_eq_false_iff.1 (Bool.or_eq_false_iff.1 ht2).1)
  exact ⟨by simpa using e2.1, by simpa using e2.2, by simpa using e1⟩
 obtain ⟨hop, hc1, hc4⟩ := hop
 obtain ⟨i, x0, hi, rfl, hset⟩ := setA_eq (c := c) hop
 obtain ⟨d, rfl⟩ : ∃ d : Nat, c = d := ⟨c.toNat, by omega⟩
 rw [Int.toNat_natCast] at hset
 have hd : d ≠ 0 := by omega
 rw [hset] at hz
 have hop2 := opE_set (x := x0) hi hd
 have han2 := anE_set (x := x0) hi hd
 have hlow := lowN_set (x := x0) hi hd
 obtain ⟨M, hM⟩ : ∃ M, M = S.L.set i (x0, d) := ⟨_, rfl⟩
 have hMl : M.length = S.L.length := by rw [hM]; simp
 rw [← hM] at hz hop2 han2 hlow
 clear ht0 ht1 ht2 hset
 repeat (go_not_at_region 4; go_step)
 refine wp_cond_false (H25.ev (x := .tmp 27) rfl) ?_
 repeat (go_not_at_region 4; go_step)
 obtain ⟨Wd, hrun, hLd⟩ := drop_run (w0 := w0) k0 k1 Tryz.underlying58 0 hL.swap
 rw [hop2] at hLd
 refine wp_region_lit ?_
 refine h_o H25 rfl (R_mv H25 rfl rfl) (P4 28 0 1 2 rfl rfl rfl rfl) fun _ H26 => ?_
 refine h_o H26 rfl (R_nc H26 rfl rfl) (P4 29 0 1 2 rfl rfl rfl rfl) fun _ H27 => ?_
 refine h_o H27 rfl (R_fa H27 rfl rfl fs_2) (P4 30 0 1 2 rfl rfl rfl rfl) fun _ H28 => ?_
 refine h_o H28 rfl (R_ld H28 rfl rfl (ld_mi (hL.cell 4))) (P4 31 0 1 2 rfl rfl rfl rfl) fun _ H29 => ?_
 refine h_o H29 rfl (R_mv H29 rfl rfl) (P5 32 31 0 1 2 rfl rfl rfl rfl rfl) fun _ H30 => ?_
 refine h_noS (mp bo (opE M) :: bk p (srC S v bo ba) 60 :: mp ba (anE S.L) :: bk W.heap.size (itC y) 33 :: L) H30 rfl (wn rfl) (R_dl H30 rfl rfl rfl hrun) (hLd) fun _ w31 H31 hL => ?_
 refine h_end ?_
 repeat (go_not_at_region 5; go_step)
 obtain ⟨Wd, hrun, hLd⟩ := store_run (w0 := w0) (l := anE S.L) k0 k1 (.int .i64 (d : Nat)) Tryz.underlying48 (Nat.lt_of_le_of_lt (show (anE S.L).length ≤ S.L.length from ents_size) (by omega)) hL.third
 rw [han2] at hLd
 refine wp_region_lit ?_
 refine h_o H31 rfl (R_mv H31 rfl rfl) (P4 33 0 1 2 rfl rfl rfl rfl) fun _ H32 => ?_
 refine h_o H32 rfl (R_nc H32 rfl rfl) (P4 34 0 1 2 rfl rfl rfl rfl) fun _ H33 => ?_
 refine h_o H33 rfl (R_fa H33 rfl rfl fs_3) (P4 35 0 1 2 rfl rfl rfl rfl) fun _ H34 => ?_
 refine h_o H34 rfl (R_ld H34 rfl rfl (ld_mm (hL.tail.cell 5))) (P4 36 0 1 2 rfl rfl rfl rfl) fun _ H35 => ?_
 refine h_o H35 rfl (R_mv H35 rfl rfl) (P4 37 36 0 2 rfl rfl rfl rfl) fun _ H36 => ?_
 refine h_o H36 rfl (R_mv H36 rfl rfl) (P4 38 37 36 0 rfl rfl rfl rfl) fun _ H37 => ?_
 refine h_stS (mp ba (anE M) :: mp bo (opE M) :: bk p (srC S v bo ba) 60 :: bk W.heap.size (itC y) 33 :: L) H37 rfl (wn rfl) (R_mu H37 rfl rfl rfl rfl hrun) (hLd) fun _ w38 H38 hL => ?_
 refine h_end ?_
 replace hL := hL.third
 repeat (go_not_at_region 6; go_step)
 obtain ⟨I, hI⟩ : ∃ I : Nat → Act → World → Prop, ∀ n a' w', I n a' w' ↔ ∃ j : Nat, n = lowN M - j ∧ lowN S.L ≤ j ∧ j ≤ lowN M ∧ Fr a' 56 [(0, .pointer (some ⟨p, 0, none⟩))] ∧ LV w0 (bk p (srD S v bo ba (j : Nat) (S.L.length : Nat)) 60 :: mp ba (anE M) :: mp bo (opE M) :: bk W.heap.size (itC y) 33 :: L) w' := ⟨_, fun _ _ _ => Iff.rfl⟩
 have HI := Lib.hid hI
 clear hI
 refine wp_loop_ghost I (lowN M - lowN S.L) ((HI.out _ _ _).2 ⟨lowN S.L, rfl, Nat.le_refl _, hlow, H38.pick _ (P1 0 rfl), hL⟩) ?_
 clear hL H38
 intro n a1 wl hi
 obtain ⟨j, rfl, hj0, hj1, H0, hL⟩ := (HI.out _ _ _).1 hi
 clear hi
 have hjp : 1 ≤ j := Nat.le_trans lowN_pos hj0
 have hml := lowN_le (L := M)
 have hlk : ∀ w, LV w0 (bk p (srD S v bo ba (j : Nat) (S.L.length : Nat)) 60 :: mp ba (anE M) :: mp bo (opE M) :: bk W.heap.size (itC y) 33 :: L) w → (Instr.lookup 48 (.map (some ba)) (.int .i64 (j : Nat)) false).run Tryz.prog w = .ok (.int .i64 (codeN M j : Nat)) w := by
  intro w h
  have h2 := look_run (k := (j : Nat)) (by omega) (by omega) Tryz.underlying48 (zeroI w) (h.tail.mem_map (by simp) : MapAt w ba (anE M))
  rw [h2, anE_look]
  by_cases hc : codeN M j = 0
  ·rw [if_pos hc, hc]; rfl
  ·rw [if_neg hc]; rfl
 by_cases hcj : codeN M j = 0
 rotate_left
 ·repeat (go_not_at_region 6; go_step)
  refine wp_region_held_drew (S := fun w' => LV w0 (bk p (srD S v bo ba (j : Nat) (S.L.length : Nat)) 60 :: mp ba (anE M) :: mp bo (opE M) :: bk W.heap.size (itC y) 33 :: L) w') (by kernel_rfl) hL.drew (fun hL' => ?_)
  replace hL := hL'
  clear hL'
  refine a_opZ 0 H0 rfl rfl (by kernel_rfl) (wn rfl) (fun w hL => R_mv H0 rfl rfl) (hL) rfl (P2 39 0 rfl rfl) fun _ H1 => ?_
  refine a_opZ 4 H1 rfl rfl (by kernel_rfl) (wn rfl) (fun w hL => R_mv H1 rfl rfl) (hL) rfl (P3 43 39 0 rfl rfl rfl) fun _ H2 => ?_
  refine a_opZ 1 H2 rfl rfl (by kernel_rfl) (wn rfl) (fun w hL => R_nc H2 rfl rfl) (hL) rfl (P3 40 43 0 rfl rfl rfl) fun _ H3 => ?_
  refine a_opZ 5 H3 rfl rfl (by kernel_rfl) (wn rfl) (fun w hL => R_nc H3 rfl rfl) (hL) rfl (P3 44 40 0 rfl rfl rfl) fun _ H4 => ?_
  refine a_opZ 2 H4 rfl rfl (by kernel_rfl) (wn rfl) (fun w hL => R_fa H4 rfl rfl fs_3) (hL) rfl (P3 41 44 0 rfl rfl rfl) fun _ H5 => ?_
  refine a_opZ 6 H5 rfl rfl (by kernel_rfl) (wn rfl) (fun w hL => R_fa H5 rfl rfl fs_4) (hL) rfl (P3 45 41 0 rfl rfl rfl) fun _ H6 => ?_
  refine a_opZ 3 H6 rfl rfl (by kernel_rfl) (wn rfl) (fun w hL => R_ld H6 rfl rfl (ld_mm (hL.cell 5))) (hL) rfl (P3 42 45 0 rfl rfl rfl) fun _ H7 => ?_
  refine a_opZ 7 H7 rfl rfl (by kernel_rfl) (wn rfl) (fun w hL => R_ld H7 rfl rfl (ld_int (hL.cell 6))) (hL) rfl (P3 46 42 0 rfl rfl rfl) fun _ H8 => ?_
  refine a_opZ 8 H8 rfl rfl (by kernel_rfl) (wn rfl) (fun w hL => R_lk H8 rfl rfl rfl (hlk _ hL)) (hL) rfl (P2 47 0 rfl rfl) fun _ H9 => ?_
  refine a_opZ 9 H9 rfl rfl (by kernel_rfl) (wn rfl) (fun w hL => R_bin H9 rfl rfl rfl (B_to (y := true) (B_ne Tryz.underlying3 _ _) (bne_iff_ne.2 (by omega)))) (hL) rfl (P2 48 0 rfl rfl) fun _ H10 => ?_
  refine wpAnyH_done (by kernel_rfl) ?_ _
  have hjlt : j < lowN M := by
   rcases Nat.lt_or_ge j (lowN M) with h | h
   ·exact h
   ·exact absurd (by rw [show j = lowN M by omega]; exact codeN_low) hcj
  repeat (go_not_at_region 7; go_step)
  refine wp_cond_true (H10.ev (x := .tmp 48) rfl) ?_
  repeat (go_not_at_region 7; go_step)
  refine wp_region_lit ?_
  refine h_o H10 rfl (R_mv H10 rfl rfl) (P2 49 0 rfl rfl) fun _ H11 => ?_
  refine h_o H11 rfl (R_nc H11 rfl rfl) (P3 50 49 0 rfl rfl rfl) fun _ H12 => ?_
  refine h_o H12 rfl (R_fa H12 rfl rfl fs_4) (P3 51 49 0 rfl rfl rfl) fun _ H13 => ?_
  refine h_o H13 rfl (R_ld H13 rfl rfl (ld_int (hL.cell 6))) (P3 52 49 0 rfl rfl rfl) fun _ H14 => ?_
  refine h_o H14 rfl (R_bin H14 rfl rfl rfl (B_add Tryz.underlying3 _ _ (by omega) (by omega))) (P3 53 49 0 rfl rfl rfl) fun _ H15 => ?_
  refine h_o H15 rfl (R_nc H15 rfl rfl) (P3 54 53 0 rfl rfl rfl) fun _ H16 => ?_
  refine h_o H16 rfl (R_fa H16 rfl rfl fs_4) (P3 55 53 0 rfl rfl rfl) fun _ H17 => ?_
  refine h_stS (bk p (srD S v bo ba ((j : Int) + 1) (S.L.length : Nat)) 60 :: mp ba (anE M) :: mp bo (opE M) :: bk W.heap.size (itC y) 33 :: L) H17 rfl (wn rfl) (R_st H17 rfl rfl rfl (st_i (i := 6) hL rfl)) (hL.put 6 _) fun _ w18 H18 hL => ?_
  refine h_end ?_
  repeat (go_not_at_region 999; go_step)
  refine ⟨lowN M - (j + 1), by omega, (HI.out _ _ _).2 ⟨j + 1, rfl, by omega, hjlt, ?_, hL⟩⟩
  exact H18.pick _ (P1 0 rfl)
 ·repeat (go_not_at_region 6; go_step)
  refine wp_region_held_drew (S := fun w' => LV w0 (bk p (srD S v bo ba (j : Nat) (S.L.length : Nat)) 60 :: mp ba (anE M) :: mp bo (opE M) :: bk W.heap.size (itC y) 33 :: L) w') (by kernel_rfl) hL.drew (fun hL' => ?_)
  replace hL := hL'
  clear hL'
  refine a_opZ 0 H0 rfl rfl (by kernel_rfl) (wn rfl) (fun w hL => R_mv H0 rfl rfl) (hL) rfl (P2 39 0 rfl rfl) fun _ H1 => ?_
  refine a_opZ 4 H1 rfl rfl (by kernel_rfl) (wn rfl) (fun w hL => R_mv H1 rfl rfl) (hL) rfl (P3 43 39 0 rfl rfl rfl) fun _ H2 => ?_
  refine a_opZ 1 H2 rfl rfl (by kernel_rfl) (wn rfl) (fun w hL => R_nc H2 rfl rfl) (hL) rfl (P3 40 43 0 rfl rfl rfl) fun _ H3 => ?_
  refine a_opZ 5 H3 rfl rfl (by kernel_rfl) (wn rfl) (fun w hL => R_nc H3 rfl rfl) (hL) rfl (P3 44 40 0 rfl rfl rfl) fun _ H4 => ?_
  refine a_opZ 2 H4 rfl rfl (by kernel_rfl) (wn rfl) (fun w hL => R_fa H4 rfl rfl fs_3) (hL) rfl (P3 41 44 0 rfl rfl rfl) fun _ H5 => ?_
  refine a_opZ 6 H5 rfl rfl (by kernel_rfl) (wn rfl) (fun w hL => R_fa H5 rfl rfl fs_4) (hL) rfl (P3 45 41 0 rfl rfl rfl) fun _ H6 => ?_
  refine a_opZ 3 H6 rfl rfl (by kernel_rfl) (wn rfl) (fun w hL => R_ld H6 rfl rfl (ld_mm (hL.cell 5))) (hL) rfl (P3 42 45 0 rfl rfl rfl) fun _ H7 => ?_
  refine a_opZ 7 H7 rfl rfl (by kernel_rfl) (wn rfl) (fun w hL => R_ld H7 rfl rfl (ld_int (hL.cell 6))) (hL) rfl (P3 46 42 0 rfl rfl rfl) fun _ H8 => ?_
  refine a_opZ 8 H8 rfl rfl (by kernel_rfl) (wn rfl) (fun w hL => R_lk H8 rfl rfl rfl (hlk _ hL)) (hL) rfl (P2 47 0 rfl rfl) fun _ H9 => ?_
  refine a_opZ 9 H9 rfl rfl (by kernel_rfl) (wn rfl) (fun w hL => R_bin H9 rfl rfl rfl (B_to (y := false) (B_ne Tryz.underlying3 _ _) (by rw [hcj]; rfl))) (hL) rfl (P2 48 0 rfl rfl) fun _ H10 => ?_
  refine wpAnyH_done (by kernel_rfl) ?_ _
  have hjeq : j = lowN M := by
   rcases Nat.lt_or_ge j (lowN M) with h | h
   ·exact absurd hcj (codeN_below hjp h)
   ·omega
  repeat (go_not_at_region 8; go_step)
  refine wp_cond_false (H10.ev (x := .tmp 48) rfl) ?_
  repeat (go_not_at_region 8; go_step)
  refine wp_region_lit ?_
  refine h_o H10 rfl (R_as H10 rfl rfl) (P1 6 rfl) fun _ H11 => ?_
  refine h_end ?_
  repeat (go_not_at_region 999; go_step)
  refine H11.ret1 rfl rfl ?_
  rw [hz]
  refine ⟨rfl, ?_⟩
  show LV w0 (bk p (srC { S with L := M } v bo ba) _ :: mp bo (opE M) :: mp ba (anE M) :: L) _
  unfold srC
  rw [← hjeq, hMl]
  exact (back4' hL).tail.perm4
end
end Go.Proofs.YthkeiclhllikjaaGreat
/-
 A source takes what comes.
-/
namespace Go.Proofs.YthkeiclhllikjaaGreat
open Go.RowKit
def handleM (S : PSrc) (m : PMsg) : PSrc × Bool :=
 if ((m.kind : Int) == 2) && (m.isrc == S.src) then ansM S m.iseq m.code
 else if (((m.kind : Int) == 3) && (m.isrc == S.src)) || ((m.kind : Int) == 14) then ({ S with t := (keepT S.t ⟨m.epoch, m.nodes, m.owner⟩).1 }, (keepT S.t ⟨m.epoch, m.nodes, m.owner⟩).2)
 else (S, false)
section
variable {w0 W w : World} {L : List Thg} {S : PSrc} {v vo vs : Value} {bo ba p g : Nat} {m : PMsg} {t u : PTab}
theorem LV.only (h : LV w0 L w) {q : Thg} (hq : q ∈ L) : LV w0 [q] w := ⟨h.1, by simp, fun r hr => by rcases List.mem_singleton.1 hr with rfl; exact h.2.2 _ hq⟩
theorem LV.toLive {R : List Blk} (h : LV w0 (lift R ++ L) w) : Live w0 R w := by
 refine ⟨h.1, ?_, fun q hq => ?_⟩
 ·have h2 := h.2.1
  rw [List.map_append] at h2
  have h3 := (List.nodup_append.1 h2).1
  have e : (lift R).map (·.1) = R.map (·.1) := by simp [lift]
  rw [e] at h3
  exact h3
 ·have h2 := h.2.2 (bk q.1 q.2.1 q.2.2) (List.mem_append.2 (.inl (List.mem_map.2 ⟨q, hq, rfl⟩)))
  exact ⟨h2.1, h2.2⟩
theorem LV.gm3 {a g b d : Thg} (h : LV w0 (a :: g :: b :: d :: L) w) : LV w0 (a :: b :: d :: g :: L) w := h.perm (((List.perm_append_comm (l₁ := [g]) (l₂ := [b, d])).append_right L).cons a)
theorem LV.gm4 {a g b d : Thg} (h : LV w0 (a :: g :: b :: d :: L) w) : LV w0 (a :: b :: d :: L) w := h.swap.tail
theorem rd_row {l : List Int} {R : List Blk} (hr : RowIs 3 v (ints l) R) : ∀ w, LV w0 (lift R ++ L) w → Rd w v l := fun w h =>
 Slot.rd (w0 := w0) (L := []) (.inr hr) (by simpa using h.toLive)
theorem bx_mg : (Instr.box 37 (.agg (mcells m vo vs))).run Tryz.prog w = .ok (.pointer (some ⟨w.heap.size, 0, none⟩)) (w.alloc (.cells (mcells m vo vs) 37)) := by
 simp [go_sem]
theorem ld_tbm {g : Nat} {q : Option Addr} {l c : Nat} (h0 : w.cell? ⟨g, 17, none⟩ = some (.int .i64 t.ep)) (h1 : w.cell? ⟨g, 18, none⟩ = some (.int .i64 t.nd)) (h2 : w.cell? ⟨g, 19, none⟩ = some (.slice q l c)) : (Instr.loadAt 28 (.pointer (some ⟨g, 17, none⟩))).run Tryz.prog w = .ok (.agg (tbC t (.slice q l c))) w := by
 simp [go_sem, h0, h1, h2]
theorem st_tbo {q r : Option Addr} {l c k e : Nat} {lo la : Int} (h : LV w0 (bk p (srD S (.slice q l c) bo ba lo la) 60 :: L) w) : (Instr.storeAt 28 (.pointer (some ⟨p, 1, none⟩)) (.agg (tbC u (.slice r k e)))).run Tryz.prog w = .ok () (((w.setCell ⟨p, 1, none⟩ (.int .i64 u.ep)).setCell ⟨p, 2, none⟩ (.int .i64 u.nd)).setCell ⟨p, 3, none⟩ (.slice r k e)) := by
 have e0 := h.cell 1
 have e1 := h.cell 2
 have e2 := h.cell 3
 have z0 := h.thaw 1
 have z1 := h.thaw 2
 have z2 := h.thaw 3
 simp at e0 e1 e2
 simp [go_sem, e0, e1, e2, z0, z1, z2]
theorem LV.tbo {q r : Option Addr} {l c k e : Nat} {lo la : Int} (h : LV w0 (bk p (srD S (.slice q l c) bo ba lo la) 60 :: L) w) : LV w0 (bk p (srD { S with t := u } (.slice r k e) bo ba lo la) 60 :: L) (((w.setCell ⟨p, 1, none⟩ (.int .i64 u.ep)).setCell ⟨p, 2, none⟩ (.int .i64 u.nd)).setCell ⟨p, 3, none⟩ (.slice r k e)) :=
 ((h.put 1 _).put 2 _).put 3 _
theorem LV.front2 {R : List Thg} {a b d e : Thg} (h : LV w0 (R ++ a :: b :: d :: e :: L) w) : LV w0 (a :: b :: d :: e :: (R ++ L)) w :=
 h.perm (by
  have h1 : (R ++ ([a, b, d, e] ++ L)).Perm ([a, b, d, e] ++ (R ++ L)) := List.perm_append_comm_assoc _ _ _
  exact h1)
set_option maxRecDepth 100000 in
set_option maxHeartbeats 2000000 in
theorem handle_two (hL : LV w0 (bk p (srC S v bo ba) 60 :: mp bo (opE S.L) :: mp ba (anE S.L) :: L) W) (hv : ∀ w, LV w0 L w → Rd w v S.t.own) (hm : ∀ w, LV w0 L w → Rd w vo m.owner) (hn : S.L.length < 100000) (k0 : -9223372036854775808 ≤ m.iseq) (k1 : m.iseq < 9223372036854775808)
  (l1 : S.t.own.length ≤ 1000000000000) (l2 : m.owner.length ≤ 1000000000000) (hs : vs.oneCell' = true) :
  Calls Tryz.prog 12 #[.pointer (some ⟨p, 0, none⟩), .agg (mcells m vo vs)] W fun e W' => ∃ v' X, e = .returned (.bool (handleM S m).2) ∧
   LV w0 (bk p (srC (handleM S m).1 v' bo ba) 60 :: mp bo (opE (handleM S m).1.L) :: mp ba (anE (handleM S m).1.L) :: (X ++ L)) W' ∧ ((v' = v ∧ (handleM S m).1.t.own = S.t.own) ∨ ∀ K w, LV w0 (X ++ K) w → Rd w v' (handleM S m).1.t.own) := by
 obtain ⟨A, c, rfl⟩ := (hv W (hL.tail.tail.tail)).slc
 obtain ⟨A2, c2, rfl⟩ := (hm W (hL.tail.tail.tail)).slc
 obtain ⟨z, hz⟩ : ∃ z, z = handleM S m := ⟨_, rfl⟩
 rw [← hz]
 unfold handleM at hz
 go_enter Tryz.func12, Tryz.ntmps12
 refine wp_fr (n := 60) (m := [(0, _), (1, _)]) ⟨rfl, rfl, by intro p hp; simp only [List.mem_cons, List.not_mem_nil, or_false] at hp; rcases hp with rfl | rfl <;> rfl⟩ fun a0 H0 => ?_
 repeat (go_not_at_region 0; go_step)
 refine wp_region_lit ?_
 refine h_opS (bk W.heap.size (mcells m (.slice A2 m.owner.length c2) vs) 37 :: bk p (srC S (.slice A S.t.own.length c) bo ba) 60 :: mp bo (opE S.L) :: mp ba (anE S.L) :: L) H0 rfl (wn rfl) (R_box H0 rfl rfl bx_mg) (hL.alloc _ _) rfl (P2 3 0 rfl rfl) fun _ w1 H1 hL => ?_
 refine h_o H1 rfl (R_as H1 rfl rfl) (P2 3 0 rfl rfl) fun _ H2 => ?_
 refine h_end ?_
 replace hL := hL.swap
 repeat (go_not_at_region 1; go_step)
 refine wp_region_lit ?_
 refine h_o H2 rfl (R_mv H2 rfl rfl) (P3 6 3 0 rfl rfl rfl) fun _ H3 => ?_
 refine h_call H3 rfl (wn rfl) (R_call1 H3 rfl rfl (fun w => by simp [go_sem])) rfl ?_
 refine (none_any (hL.cell 4)).mono ?_
 rintro e wx ⟨rfl, rfl⟩
 refine ⟨_, rfl, fun a4 HH => ?_⟩
 have H4 := HH _ (P3 7 3 0 rfl rfl rfl)
 refine h_end ?_
 repeat (go_not_at_region 3; go_step)
 refine wp_cond_false (H4.ev (x := .tmp 7) rfl) ?_
 repeat (go_not_at_region 3; go_step)
 refine wp_region_lit ?_
 refine h_o H4 rfl (R_as H4 rfl rfl) (P3 5 3 0 rfl rfl rfl) fun _ H5 => ?_
 refine h_end ?_
 repeat (go_not_at_region 4; go_step)
 refine wp_region_held_drew (S := fun w' => LV w0 (bk p (srC S (.slice A S.t.own.length c) bo ba) 60 :: bk W.heap.size (mcells m (.slice A2 m.owner.length c2) vs) 37 :: mp bo (opE S.L) :: mp ba (anE S.L) :: L) w') (by kernel_rfl) hL.drew (fun hL' => ?_)
 replace hL := hL'
 clear hL'
 refine a_opZ 0 H5 rfl rfl (by kernel_rfl) (wn rfl) (fun w hL => R_fa H5 rfl rfl (fa29_0 _ _)) hL rfl (P4 9 5 3 0 rfl rfl rfl rfl) fun _ H6 => ?_
 refine a_opZ 1 H6 rfl rfl (by kernel_rfl) (wn rfl) (fun w hL => R_ld H6 rfl rfl (ld_u8 (hL.tail.cell 0))) hL rfl (P4 10 5 3 0 rfl rfl rfl rfl) fun _ H7 => ?_
 refine a_opZ 2 H7 rfl rfl (by kernel_rfl) (wn rfl) (fun w hL => R_bin H7 rfl rfl rfl (B8_eq _ _)) hL rfl (P4 11 5 3 0 rfl rfl rfl rfl) fun _ H8 => ?_
 refine a_opZ 3 H8 rfl rfl (by kernel_rfl) (wn rfl) (fun w hL => R_mv H8 rfl rfl) hL rfl (P4 12 5 3 0 rfl rfl rfl rfl) fun _ H9 => ?_
 replace H9 := H9.pick [(12, .bool ((m.kind : Int) == 2)), (5, .bool false), (3, .pointer (some ⟨W.heap.size, 0, none⟩)), (0, .pointer (some ⟨p, 0, none⟩))] (P4 12 5 3 0 rfl rfl rfl rfl)
 generalize hr0 : ((m.kind : Int) == 2) = r0 at H9
 refine a_opB  4 H9 rfl rfl (by kernel_rfl) (by kernel_rfl) (by kernel_rfl) (fun _ _ _ h => h) rfl rfl rfl (fun hb w hL => by subst hb; exact R_fa H9 rfl rfl (fa29_9 _ _)) hL rfl (P5 13 12 5 3 0 rfl rfl rfl rfl rfl) fun _ H10 => ?_
 refine a_opB  5 H10 rfl rfl (by kernel_rfl) (by kernel_rfl) (by kernel_rfl) (fun _ _ _ h => h) rfl rfl rfl (fun hb w hL => by subst hb; exact R_fa H10 rfl rfl (fi_k (by decide))) hL rfl (P5 14 12 5 3 0 rfl rfl rfl rfl rfl) fun _ H11 => ?_
 refine a_opB  6 H11 rfl rfl (by kernel_rfl) (by kernel_rfl) (by kernel_rfl) (fun _ _ _ h => h) rfl rfl rfl (fun hb w hL => by subst hb; exact R_ld H11 rfl rfl (ld_int (hL.tail.cell 9))) hL rfl (P5 15 12 5 3 0 rfl rfl rfl rfl rfl) fun _ H12 => ?_
 refine a_opB  7 H12 rfl rfl (by kernel_rfl) (by kernel_rfl) (by kernel_rfl) (fun _ _ _ h => h) rfl rfl rfl (fun hb w hL => by subst hb; exact R_mv H12 rfl rfl) hL rfl (P6 16 15 12 5 3 0 rfl rfl rfl rfl rfl rfl) fun _ H13 => ?_
 refine a_opB  8 H13 rfl rfl (by kernel_rfl) (by kernel_rfl) (by kernel_rfl) (fun _ _ _ h => h) rfl rfl rfl (fun hb w hL => by subst hb; exact R_nc H13 rfl rfl) hL rfl (P6 17 15 12 5 3 0 rfl rfl rfl rfl rfl rfl) fun _ H14 => ?_
 refine a_opB  9 H14 rfl rfl (by kernel_rfl) (by kernel_rfl) (by kernel_rfl) (fun _ _ _ h => h) rfl rfl rfl (fun hb w hL => by subst hb; exact R_fa H14 rfl rfl fs_0) hL rfl (P6 18 15 12 5 3 0 rfl rfl rfl rfl rfl rfl) fun _ H15 => ?_
 refine a_opB  10 H15 rfl rfl (by kernel_rfl) (by kernel_rfl) (by kernel_rfl) (fun _ _ _ h => h) rfl rfl rfl (fun hb w hL => by subst hb; exact R_ld H15 rfl rfl (ld_int (hL.cell 0))) hL rfl (P6 19 15 12 5 3 0 rfl rfl rfl rfl rfl rfl) fun _ H16 => ?_
 refine a_opB  11 H16 rfl rfl (by kernel_rfl) (by kernel_rfl) (by kernel_rfl) (fun _ _ _ h => h) rfl rfl rfl (fun hb w hL => by subst hb; exact R_bin H16 rfl rfl rfl (B_eq Tryz.underlying3 _ _)) hL rfl (P5 20 12 5 3 0 rfl rfl rfl rfl rfl) fun _ H17 => ?_
 refine a_opZ 12 H17 rfl rfl (by kernel_rfl) (wn rfl) (fun w hL => R_pickAnd H17 rfl rfl rfl) hL rfl (P4 21 5 3 0 rfl rfl rfl rfl) fun _ H18 => ?_
 refine a_opZ 13 H18 rfl rfl (by kernel_rfl) (wn rfl) (fun w hL => R_as H18 rfl rfl) hL rfl (P4 8 5 3 0 rfl rfl rfl rfl) fun _ H19 => ?_
 replace H19 := H19.pick [(8, .bool (r0 && (m.isrc == S.src))), (5, .bool false), (3, .pointer (some ⟨W.heap.size, 0, none⟩)), (0, .pointer (some ⟨p, 0, none⟩))] (P4 8 5 3 0 rfl rfl rfl rfl)
 generalize hr1 : (r0 && (m.isrc == S.src)) = r1 at H19
 refine wpAnyH_done (by kernel_rfl) ?_ _
 rw [hr0, hr1] at hz
 cases r1
 rotate_left
 ·rw [if_pos rfl] at hz
  repeat (go_not_at_region 5; go_step)
  refine wp_cond_true (H19.ev (x := .tmp 8) rfl) ?_
  repeat (go_not_at_region 5; go_step)
  have hA := answered_any (c := m.code) (k := m.iseq) (S := S) (v := .slice A S.t.own.length c) (bo := bo) (ba := ba) (p := p) (hL.gm3) hn k0 k1
  refine wp_region_lit ?_
  refine h_o H19 rfl (R_mv H19 rfl rfl) (P2 22 3 rfl rfl) fun _ H20 => ?_
  refine h_o H20 rfl (R_fa H20 rfl rfl (fa29_9 _ _)) (P3 23 22 3 rfl rfl rfl) fun _ H21 => ?_
  refine h_o H21 rfl (R_fa H21 rfl rfl (fi_k (by decide))) (P3 24 22 3 rfl rfl rfl) fun _ H22 => ?_
  refine h_o H22 rfl (R_ld H22 rfl rfl (ld_int (hL.tail.cell 10))) (P3 25 22 3 rfl rfl rfl) fun _ H23 => ?_
  refine h_o H23 rfl (R_fa H23 rfl rfl (fa29_6 _ _)) (P3 26 25 22 rfl rfl rfl) fun _ H24 => ?_
  refine h_o H24 rfl (R_ld H24 rfl rfl (ld_int (hL.tail.cell 6))) (P3 27 25 22 rfl rfl rfl) fun _ H25 => ?_
  refine h_call H25 rfl (wn rfl) (R_call3 H25 rfl rfl rfl rfl (fun w => by simp [go_sem])) rfl ?_
  refine hA.mono ?_
  rintro e w26 ⟨rfl, hL2⟩
  replace hL := hL2
  clear hL2 hA
  refine ⟨_, rfl, fun a26 HH => ?_⟩
  have H26 := HH _ (P1 28 rfl)
  refine h_o H26 rfl (R_as H26 rfl rfl) (P1 4 rfl) fun _ H27 => ?_
  refine h_end ?_
  repeat (go_not_at_region 999; go_step)
  refine H27.ret1 rfl rfl ?_
  rw [hz]
  have hts : (ansM S m.iseq m.code).1.t = S.t := by unfold ansM; split <;> rfl
  exact ⟨_, [], rfl, (back4' hL).tail, .inl ⟨rfl, by rw [hts]⟩⟩
 rw [if_neg (by decide)] at hz
 repeat (go_not_at_region 6; go_step)
 refine wp_cond_false (H19.ev (x := .tmp 8) rfl) ?_
 repeat (go_not_at_region 6; go_step)
 refine wp_region_held_drew (S := fun w' => LV w0 (bk p (srC S (.slice A S.t.own.length c) bo ba) 60 :: bk W.heap.size (mcells m (.slice A2 m.owner.length c2) vs) 37 :: mp bo (opE S.L) :: mp ba (anE S.L) :: L) w') (by kernel_rfl) hL.drew (fun hL' => ?_)
 replace hL := hL'
 clear hL'
 refine a_opZ 0 H19 rfl rfl (by kernel_rfl) (wn rfl) (fun w hL => R_fa H19 rfl rfl (fa29_0 _ _)) hL rfl (P4 30 5 3 0 rfl rfl rfl rfl) fun _ H20 => ?_
 refine a_opZ 1 H20 rfl rfl (by kernel_rfl) (wn rfl) (fun w hL => R_ld H20 rfl rfl (ld_u8 (hL.tail.cell 0))) hL rfl (P4 31 5 3 0 rfl rfl rfl rfl) fun _ H21 => ?_
 refine a_opZ 2 H21 rfl rfl (by kernel_rfl) (wn rfl) (fun w hL => R_bin H21 rfl rfl rfl (B8_eq _ _)) hL rfl (P4 32 5 3 0 rfl rfl rfl rfl) fun _ H22 => ?_
 refine a_opZ 3 H22 rfl rfl (by kernel_rfl) (wn rfl) (fun w hL => R_mv H22 rfl rfl) hL rfl (P4 33 5 3 0 rfl rfl rfl rfl) fun _ H23 => ?_
 replace H23 := H23.pick [(33, .bool ((m.kind : Int) == 3)), (5, .bool false), (3, .pointer (some ⟨W.heap.size, 0, none⟩)), (0, .pointer (some ⟨p, 0, none⟩))] (P4 33 5 3 0 rfl rfl rfl rfl)
 generalize hs0 : ((m.kind : Int) == 3) = s0 at H23
 refine a_opB  4 H23 rfl rfl (by kernel_rfl) (by kernel_rfl) (by kernel_rfl) (fun _ _ _ h => h) rfl rfl rfl (fun hb w hL => by subst hb; exact R_fa H23 rfl rfl (fa29_9 _ _)) hL rfl (P5 34 33 5 3 0 rfl rfl rfl rfl rfl) fun _ H24 => ?_
 refine a_opB  5 H24 rfl rfl (by kernel_rfl) (by kernel_rfl) (by kernel_rfl) (fun _ _ _ h => h) rfl rfl rfl (fun hb w hL => by subst hb; exact R_fa H24 rfl rfl (fi_k (by decide))) hL rfl (P5 35 33 5 3 0 rfl rfl rfl rfl rfl) fun _ H25 => ?_
 refine a_opB  6 H25 rfl rfl (by kernel_rfl) (by kernel_rfl) (by kernel_rfl) (fun _ _ _ h => h) rfl rfl rfl (fun hb w hL => by subst hb; exact R_ld H25 rfl rfl (ld_int (hL.tail.cell 9))) hL rfl (P5 36 33 5 3 0 rfl rfl rfl rfl rfl) fun _ H26 => ?_
 refine a_opB  7 H26 rfl rfl (by kernel_rfl) (by kernel_rfl) (by kernel_rfl) (fun _ _ _ h => h) rfl rfl rfl (fun hb w hL => by subst hb; exact R_mv H26 rfl rfl) hL rfl (P6 37 36 33 5 3 0 rfl rfl rfl rfl rfl rfl) fun _ H27 => ?_
 refine a_opB  8 H27 rfl rfl (by kernel_rfl) (by kernel_rfl) (by kernel_rfl) (fun _ _ _ h => h) rfl rfl rfl (fun hb w hL => by subst hb; exact R_nc H27 rfl rfl) hL rfl (P6 38 36 33 5 3 0 rfl rfl rfl rfl rfl rfl) fun _ H28 => ?_
 refine a_opB  9 H28 rfl rfl (by kernel_rfl) (by kernel_rfl) (by kernel_rfl) (fun _ _ _ h => h) rfl rfl rfl (fun hb w hL => by subst hb; exact R_fa H28 rfl rfl fs_0) hL rfl (P6 39 36 33 5 3 0 rfl rfl rfl rfl rfl rfl) fun _ H29 => ?_
 refine a_opB  10 H29 rfl rfl (by kernel_rfl) (by kernel_rfl) (by kernel_rfl) (fun _ _ _ h => h) rfl rfl rfl (fun hb w hL => by subst hb; exact R_ld H29 rfl rfl (ld_int (hL.cell 0))) hL rfl (P6 40 36 33 5 3 0 rfl rfl rfl rfl rfl rfl) fun _ H30 => ?_
 refine a_opB  11 H30 rfl rfl (by kernel_rfl) (by kernel_rfl) (by kernel_rfl) (fun _ _ _ h => h) rfl rfl rfl (fun hb w hL => by subst hb; exact R_bin H30 rfl rfl rfl (B_eq Tryz.underlying3 _ _)) hL rfl (P5 41 33 5 3 0 rfl rfl rfl rfl rfl) fun _ H31 => ?_
 refine a_opZ 12 H31 rfl rfl (by kernel_rfl) (wn rfl) (fun w hL => R_pickAnd H31 rfl rfl rfl) hL rfl (P4 42 5 3 0 rfl rfl rfl rfl) fun _ H32 => ?_
 refine a_opZ 13 H32 rfl rfl (by kernel_rfl) (wn rfl) (fun w hL => R_as H32 rfl rfl) hL rfl (P4 29 5 3 0 rfl rfl rfl rfl) fun _ H33 => ?_
 replace H33 := H33.pick [(29, .bool (s0 && (m.isrc == S.src))), (5, .bool false), (3, .pointer (some ⟨W.heap.size, 0, none⟩)), (0, .pointer (some ⟨p, 0, none⟩))] (P4 29 5 3 0 rfl rfl rfl rfl)
 generalize hs1 : (s0 && (m.isrc == S.src)) = s1 at H33
 refine wpAnyH_done (by kernel_rfl) ?_ _
 rw [hs0, hs1] at hz
 cases s1
 rotate_left
 ·rw [if_pos (by rfl)] at hz
  repeat (go_not_at_region 8; go_step)
  repeat (refine wp_cond_true (H33.ev (x := .tmp 29) rfl) ?_; repeat (go_not_at_region 8; go_step))
  repeat (go_not_at_region 8; go_step)
  refine wp_region_held_drew (S := fun w' => LV w0 [bk W.heap.size (mcells m (.slice A2 m.owner.length c2) vs) 37] w') (by kernel_rfl) (hL.drew.only (List.mem_cons_of_mem _ List.mem_cons_self)) (fun _ => ?_)
  replace hL := hL.drew
  refine a_opZ 0 H33 rfl rfl (by kernel_rfl) (wn rfl) (fun w hL => R_mv H33 rfl rfl) (hL.only (List.mem_cons_of_mem _ List.mem_cons_self)) rfl (P4 47 5 3 0 rfl rfl rfl rfl) fun _ H34 => ?_
  refine a_opZ 1 H34 rfl rfl (by kernel_rfl) (wn rfl) (fun w hL => R_mv H34 rfl rfl) (hL.only (List.mem_cons_of_mem _ List.mem_cons_self)) rfl (P4 48 47 5 3 rfl rfl rfl rfl) fun _ H35 => ?_
  refine a_opZ 2 H35 rfl rfl (by kernel_rfl) (wn rfl) (fun w hL => R_nc H35 rfl rfl) (hL.only (List.mem_cons_of_mem _ List.mem_cons_self)) rfl (P4 49 47 5 3 rfl rfl rfl rfl) fun _ H36 => ?_
  refine a_opZ 3 H36 rfl rfl (by kernel_rfl) (wn rfl) (fun w hL => R_fa H36 rfl rfl fs_1) (hL.only (List.mem_cons_of_mem _ List.mem_cons_self)) rfl (P4 50 47 5 3 rfl rfl rfl rfl) fun _ H37 => ?_
  refine a_opZ 5 H37 rfl rfl (by kernel_rfl) (wn rfl) (fun w hL => R_fa H37 rfl rfl (fa29_10 _ _)) (hL.only (List.mem_cons_of_mem _ List.mem_cons_self)) rfl (P4 52 50 47 5 rfl rfl rfl rfl) fun _ H38 => ?_
  refine a_opZ 6 H38 rfl rfl (by kernel_rfl) (wn rfl) (fun w hL => R_ld H38 rfl rfl (ld_tbm (t := ⟨m.epoch, m.nodes, m.owner⟩) (hL.cell 17) (hL.cell 18) (hL.cell 19))) (hL.only (List.mem_cons_of_mem _ List.mem_cons_self)) rfl (P4 53 50 47 5 rfl rfl rfl rfl) fun _ H39 => ?_
  refine a_all1 4 (by kernel_rfl) ?_
  refine o_op 4 H39 rfl rfl (wn rfl) (R_ld H39 rfl rfl (ld_tbo (t := S.t) (hL.cell 1) (hL.cell 2) (hL.cell 3))) rfl (P4 51 53 47 5 rfl rfl rfl rfl) fun _ H40 => ?_
  refine ⟨hL.only (List.mem_cons_of_mem _ List.mem_cons_self), ?_⟩
  refine a_all1 7 (by kernel_rfl) ?_
  refine o_call 7 H40 rfl rfl (wn rfl) (R_call2 H40 rfl rfl rfl (fun w => by simp [go_sem])) rfl ?_
  have hLL := hL.dropl (X := [_, _, _, _])
  refine (keep_any (t := S.t) (u := ⟨m.epoch, m.nodes, m.owner⟩) (hv _ hLL) l1 (hm _ hLL) l2).mono ?_
  rintro e w41 ⟨v', R, rfl, hr, hL3⟩
  obtain ⟨p3, c3, rfl⟩ := hr.shapeI
  replace hL := (hL.join hL3).front2
  clear hL3 hLL
  refine ⟨_, rfl, fun a41 HH => ?_⟩
  have H41 := HH _ (P3 54 47 5 rfl rfl rfl)
  refine ⟨hL.only (List.mem_cons_of_mem _ List.mem_cons_self), ?_⟩
  refine a_opZ 8 H41 rfl rfl (by kernel_rfl) (wn rfl) (fun w hL => R_mv H41 rfl rfl) (hL.only (List.mem_cons_of_mem _ List.mem_cons_self)) rfl (P3 46 47 5 rfl rfl rfl) fun _ H42 => ?_
  refine a_opZ 9 H42 rfl rfl (by kernel_rfl) (wn rfl) (fun w hL => R_ext H42 rfl rfl rfl) (hL.only (List.mem_cons_of_mem _ List.mem_cons_self)) rfl (P4 55 46 47 5 rfl rfl rfl rfl) fun _ H43 => ?_
  refine a_opZ 10 H43 rfl rfl (by kernel_rfl) (wn rfl) (fun w hL => R_ext H43 rfl rfl rfl) (hL.only (List.mem_cons_of_mem _ List.mem_cons_self)) rfl (P4 56 55 47 5 rfl rfl rfl rfl) fun _ H44 => ?_
  refine a_opZ 11 H44 rfl rfl (by kernel_rfl) (wn rfl) (fun w hL => R_nc H44 rfl rfl) (hL.only (List.mem_cons_of_mem _ List.mem_cons_self)) rfl (P4 57 56 55 5 rfl rfl rfl rfl) fun _ H45 => ?_
  refine a_opZ 12 H45 rfl rfl (by kernel_rfl) (wn rfl) (fun w hL => R_fa H45 rfl rfl fs_1) (hL.only (List.mem_cons_of_mem _ List.mem_cons_self)) rfl (P4 58 56 55 5 rfl rfl rfl rfl) fun _ H46 => ?_
  refine a_all1 13 (by kernel_rfl) ?_
  refine o_stS (bk p (srD { S with t := (keepT S.t ⟨m.epoch, m.nodes, m.owner⟩).1 } (.slice p3 (keepT S.t ⟨m.epoch, m.nodes, m.owner⟩).1.own.length c3) bo ba (lowN S.L : Nat) (S.L.length : Nat)) 60 :: bk W.heap.size (mcells m (.slice A2 m.owner.length c2) vs) 37 :: mp bo (opE S.L) :: mp ba (anE S.L) :: (lift R ++ L)) 13 H46 rfl rfl (wn rfl) (R_st H46 rfl rfl rfl (st_tbo (lo := (lowN S.L : Nat)) (la := (S.L.length : Nat)) hL)) (hL.tbo) fun a47 w47 H47 hL' => ⟨hL'.only (List.mem_cons_of_mem _ List.mem_cons_self), ?_⟩
  replace hL := hL'
  refine a_opZ 14 H47 rfl rfl (by kernel_rfl) (wn rfl) (fun w hL => R_as H47 rfl rfl) (hL.only (List.mem_cons_of_mem _ List.mem_cons_self)) rfl (P1 5 rfl) fun _ H48 => ?_
  refine wpAnyH_done (by kernel_rfl) ?_ _
  repeat (go_not_at_region 9; go_step)
  refine wp_region_lit ?_
  refine h_o H48 rfl (R_mv H48 rfl rfl) (P1 59 rfl) fun _ H49 => ?_
  refine h_o H49 rfl (R_as H49 rfl rfl) (P1 4 rfl) fun _ H50 => ?_
  refine h_end ?_
  repeat (go_not_at_region 999; go_step)
  refine H50.ret1 rfl rfl ?_
  rw [hz]
  exact ⟨_, lift R, rfl, hL.gm4, .inr fun K w h => rd_row hr w h⟩
 rw [Bool.false_or] at hz
 repeat (go_not_at_region 7; go_step)
 refine wp_cond_false (H33.ev (x := .tmp 29) rfl) ?_
 repeat (go_not_at_region 7; go_step)
 refine wp_region_lit ?_
 by_cases h14 : ((m.kind : Int) == 14) = true
 ·rw [if_pos h14] at hz
  refine h_o H33 rfl (R_fa H33 rfl rfl (fa29_0 _ _)) (P5 43 29 5 3 0 rfl rfl rfl rfl rfl) fun _ H34 => ?_
  refine h_o H34 rfl (R_ld H34 rfl rfl (ld_u8 (hL.tail.cell 0))) (P5 44 29 5 3 0 rfl rfl rfl rfl rfl) fun _ H35 => ?_
  refine h_o H35 rfl (R_bin H35 rfl rfl rfl (B_to (y := true) (B8_eq _ _) h14)) (P5 45 29 5 3 0 rfl rfl rfl rfl rfl) fun _ H36 => ?_
  refine h_o H36 rfl (R_as H36 rfl rfl) (P4 29 5 3 0 rfl rfl rfl rfl) fun _ H37 => ?_
  refine h_end ?_
  repeat (go_not_at_region 8; go_step)
  repeat (refine wp_cond_true (H37.ev (x := .tmp 29) rfl) ?_; repeat (go_not_at_region 8; go_step))
  repeat (go_not_at_region 8; go_step)
  refine wp_region_held_drew (S := fun w' => LV w0 [bk W.heap.size (mcells m (.slice A2 m.owner.length c2) vs) 37] w') (by kernel_rfl) (hL.drew.only (List.mem_cons_of_mem _ List.mem_cons_self)) (fun _ => ?_)
  replace hL := hL.drew
  refine a_opZ 0 H37 rfl rfl (by kernel_rfl) (wn rfl) (fun w hL => R_mv H37 rfl rfl) (hL.only (List.mem_cons_of_mem _ List.mem_cons_self)) rfl (P4 47 5 3 0 rfl rfl rfl rfl) fun _ H38 => ?_
  refine a_opZ 1 H38 rfl rfl (by kernel_rfl) (wn rfl) (fun w hL => R_mv H38 rfl rfl) (hL.only (List.mem_cons_of_mem _ List.mem_cons_self)) rfl (P4 48 47 5 3 rfl rfl rfl rfl) fun _ H39 => ?_
  refine a_opZ 2 H39 rfl rfl (by kernel_rfl) (wn rfl) (fun w hL => R_nc H39 rfl rfl) (hL.only (List.mem_cons_of_mem _ List.mem_cons_self)) rfl (P4 49 47 5 3 rfl rfl rfl rfl) fun _ H40 => ?_
  refine a_opZ 3 H40 rfl rfl (by kernel_rfl) (wn rfl) (fun w hL => R_fa H40 rfl rfl fs_1) (hL.only (List.mem_cons_of_mem _ List.mem_cons_self)) rfl (P4 50 47 5 3 rfl rfl rfl rfl) fun _ H41 => ?_
  refine a_opZ 5 H41 rfl rfl (by kernel_rfl) (wn rfl) (fun w hL => R_fa H41 rfl rfl (fa29_10 _ _)) (hL.only (List.mem_cons_of_mem _ List.mem_cons_self)) rfl (P4 52 50 47 5 rfl rfl rfl rfl) fun _ H42 => ?_
  refine a_opZ 6 H42 rfl rfl (by kernel_rfl) (wn rfl) (fun w hL => R_ld H42 rfl rfl (ld_tbm (t := ⟨m.epoch, m.nodes, m.owner⟩) (hL.cell 17) (hL.cell 18) (hL.cell 19))) (hL.only (List.mem_cons_of_mem _ List.mem_cons_self)) rfl (P4 53 50 47 5 rfl rfl rfl rfl) fun _ H43 => ?_
  refine a_all1 4 (by kernel_rfl) ?_
  refine o_op 4 H43 rfl rfl (wn rfl) (R_ld H43 rfl rfl (ld_tbo (t := S.t) (hL.cell 1) (hL.cell 2) (hL.cell 3))) rfl (P4 51 53 47 5 rfl rfl rfl rfl) fun _ H44 => ?_
  refine ⟨hL.only (List.mem_cons_of_mem _ List.mem_cons_self), ?_⟩
  refine a_all1 7 (by kernel_rfl) ?_
  refine o_call 7 H44 rfl rfl (wn rfl) (R_call2 H44 rfl rfl rfl (fun w => by simp [go_sem])) rfl ?_
  have hLL := hL.dropl (X := [_, _, _, _])
  refine (keep_any (t := S.t) (u := ⟨m.epoch, m.nodes, m.owner⟩) (hv _ hLL) l1 (hm _ hLL) l2).mono ?_
  rintro e w45 ⟨v', R, rfl, hr, hL3⟩
  obtain ⟨p3, c3, rfl⟩ := hr.shapeI
  replace hL := (hL.join hL3).front2
  clear hL3 hLL
  refine ⟨_, rfl, fun a45 HH => ?_⟩
  have H45 := HH _ (P3 54 47 5 rfl rfl rfl)
  refine ⟨hL.only (List.mem_cons_of_mem _ List.mem_cons_self), ?_⟩
  refine a_opZ 8 H45 rfl rfl (by kernel_rfl) (wn rfl) (fun w hL => R_mv H45 rfl rfl) (hL.only (List.mem_cons_of_mem _ List.mem_cons_self)) rfl (P3 46 47 5 rfl rfl rfl) fun _ H46 => ?_
  refine a_opZ 9 H46 rfl rfl (by kernel_rfl) (wn rfl) (fun w hL => R_ext H46 rfl rfl rfl) (hL.only (List.mem_cons_of_mem _ List.mem_cons_self)) rfl (P4 55 46 47 5 rfl rfl rfl rfl) fun _ H47 => ?_
  refine a_opZ 10 H47 rfl rfl (by kernel_rfl) (wn rfl) (fun w hL => R_ext H47 rfl rfl rfl) (hL.only (List.mem_cons_of_mem _ List.mem_cons_self)) rfl (P4 56 55 47 5 rfl rfl rfl rfl) fun _ H48 => ?_
  refine a_opZ 11 H48 rfl rfl (by kernel_rfl) (wn rfl) (fun w hL => R_nc H48 rfl rfl) (hL.only (List.mem_cons_of_mem _ List.mem_cons_self)) rfl (P4 57 56 55 5 rfl rfl rfl rfl) fun _ H49 => ?_
  refine a_opZ 12 H49 rfl rfl (by kernel_rfl) (wn rfl) (fun w hL => R_fa H49 rfl rfl fs_1) (hL.only (List.mem_cons_of_mem _ List.mem_cons_self)) rfl (P4 58 56 55 5 rfl rfl rfl rfl) fun _ H50 => ?_
  refine a_all1 13 (by kernel_rfl) ?_
  refine o_stS (bk p (srD { S with t := (keepT S.t ⟨m.epoch, m.nodes, m.owner⟩).1 } (.slice p3 (keepT S.t ⟨m.epoch, m.nodes, m.owner⟩).1.own.length c3) bo ba (lowN S.L : Nat) (S.L.length : Nat)) 60 :: bk W.heap.size (mcells m (.slice A2 m.owner.length c2) vs) 37 :: mp bo (opE S.L) :: mp ba (anE S.L) :: (lift R ++ L)) 13 H50 rfl rfl (wn rfl) (R_st H50 rfl rfl rfl (st_tbo (lo := (lowN S.L : Nat)) (la := (S.L.length : Nat)) hL)) (hL.tbo) fun a51 w51 H51 hL' => ⟨hL'.only (List.mem_cons_of_mem _ List.mem_cons_self), ?_⟩
  replace hL := hL'
  refine a_opZ 14 H51 rfl rfl (by kernel_rfl) (wn rfl) (fun w hL => R_as H51 rfl rfl) (hL.only (List.mem_cons_of_mem _ List.mem_cons_self)) rfl (P1 5 rfl) fun _ H52 => ?_
  refine wpAnyH_done (by kernel_rfl) ?_ _
  repeat (go_not_at_region 9; go_step)
  refine wp_region_lit ?_
  refine h_o H52 rfl (R_mv H52 rfl rfl) (P1 59 rfl) fun _ H53 => ?_
  refine h_o H53 rfl (R_as H53 rfl rfl) (P1 4 rfl) fun _ H54 => ?_
  refine h_end ?_
  repeat (go_not_at_region 999; go_step)
  refine H54.ret1 rfl rfl ?_
  rw [hz]
  exact ⟨_, lift R, rfl, hL.gm4, .inr fun K w h => rd_row hr w h⟩
 ·rw [if_neg h14] at hz
  refine h_o H33 rfl (R_fa H33 rfl rfl (fa29_0 _ _)) (P3 43 29 5 rfl rfl rfl) fun _ H34 => ?_
  refine h_o H34 rfl (R_ld H34 rfl rfl (ld_u8 (hL.tail.cell 0))) (P3 44 29 5 rfl rfl rfl) fun _ H35 => ?_
  refine h_o H35 rfl (R_bin H35 rfl rfl rfl (B_to (y := false) (B8_eq _ _) (by simpa using h14))) (P3 45 29 5 rfl rfl rfl) fun _ H36 => ?_
  refine h_o H36 rfl (R_as H36 rfl rfl) (P2 29 5 rfl rfl) fun _ H37 => ?_
  refine h_end ?_
  repeat (go_not_at_region 9; go_step)
  refine wp_cond_false (H37.ev (x := .tmp 29) rfl) ?_
  repeat (go_not_at_region 9; go_step)
  refine wp_region_lit ?_
  refine h_o H37 rfl (R_mv H37 rfl rfl) (P1 59 rfl) fun _ H38 => ?_
  refine h_o H38 rfl (R_as H38 rfl rfl) (P1 4 rfl) fun _ H39 => ?_
  refine h_end ?_
  repeat (go_not_at_region 999; go_step)
  refine H39.ret1 rfl rfl ?_
  rw [hz]
  exact ⟨_, [], rfl, hL.gm4, .inl ⟨rfl, rfl⟩⟩
theorem handle_any (hL : LV w0 (bk p (srC S v bo ba) 60 :: mp bo (opE S.L) :: mp ba (anE S.L) :: L) W) (hv : ∀ w, LV w0 L w → Rd w v S.t.own) (hm : ∀ w, LV w0 L w → Rd w vo m.owner) (hn : S.L.length < 100000) (k0 : -9223372036854775808 ≤ m.iseq) (k1 : m.iseq < 9223372036854775808)
  (l1 : S.t.own.length ≤ 1000000000000) (l2 : m.owner.length ≤ 1000000000000) (hs : vs.oneCell' = true) :
  Calls Tryz.prog 12 #[.pointer (some ⟨p, 0, none⟩), .agg (mcells m vo vs)] W fun e W' => ∃ v' X, e = .returned (.bool (handleM S m).2) ∧
   LV w0 (bk p (srC (handleM S m).1 v' bo ba) 60 :: mp bo (opE (handleM S m).1.L) :: mp ba (anE (handleM S m).1.L) :: (X ++ L)) W' ∧ (∀ w, LV w0 (X ++ L) w → Rd w v' (handleM S m).1.t.own) := by
 refine (handle_two hL hv hm hn k0 k1 l1 l2 hs).mono ?_
 rintro e w' ⟨v', X, he, h, hd⟩
 refine ⟨v', X, he, h, ?_⟩
 rcases hd with ⟨rfl, hd⟩ | hd
 ·intro w h2
  rw [hd]
  exact hv w h2.dropl
 ·exact hd L
end
end Go.Proofs.YthkeiclhllikjaaGreat
/-
 Rows of structs that grow; a source's open items in their row.
-/
namespace Go.Proofs.YthkeiclhllikjaaGreat
open Go.RowKit
def PRow (e : TypeId) (size : Nat) (v : Value) (n : Nat) (xs : List Value) (X : List Thg) : Prop :=
 xs.length = n * size ∧ ((v = .slice none 0 0 ∧ n = 0 ∧ X = []) ∨ ∃ g cap cur, v = .slice (some ⟨g, 0, none⟩) n cap ∧ X = [bk g cur e] ∧ n ≤ cap ∧ cap ≤ maxLen ∧ cur.size = cap * size ∧ cur.toList.take (n * size) = xs)
section
variable {w0 W W' w : World} {L X : List Thg} {e t : TypeId} {size n m bytes : Nat} {v : Value} {xs news : List Value}
theorem PRow.nil : PRow e size (.slice none 0 0) 0 [] [] := ⟨by simp, .inl ⟨rfl, rfl, rfl⟩⟩
theorem PRow.owns (h : PRow e size v n xs X) (hL : LV w0 (X ++ L) W) : W.ownsRow w0.heap.size e size v n xs := by
 refine ⟨h.1, ?_⟩
 rcases h.2 with ⟨rfl, rfl, rfl⟩ | ⟨g, cap, cur, rfl, rfl, h1, h2, h3, h4⟩
 ·exact .inl ⟨rfl, rfl⟩
 ·exact .inr ⟨g, cap, cur, rfl, hL.ge, hL.at_, h1, h2, h3, h4⟩
theorem owned_thing (hL : LV w0 L W) (hg : W.grownBy W' none) (ho : W'.ownsRow W.heap.size e size v n xs) : ∃ X, PRow e size v n xs X ∧ LV w0 (X ++ L) W' := by
 have hb : Below W.heap.size W W' := ⟨hg.os, hg.tape, hg.output, hg.size, fun k hk => hg.block k hk (by simp)⟩
 have h2 := hL.call hb
 rcases ho.2 with ⟨rfl, rfl⟩ | ⟨g, cap, cur, rfl, hge, hgb, h3, h4, h5, h6⟩
 ·exact ⟨[], ⟨ho.1, .inl ⟨rfl, rfl, rfl⟩⟩, h2⟩
 ·refine ⟨[bk g cur e], ⟨ho.1, .inr ⟨g, cap, cur, rfl, rfl, h3, h4, h5, h6⟩⟩, h2.cons (Nat.le_trans hL.1.size hge) (fun q hq => ?_) hgb⟩
  have := Thg.lt (hL.2.2 q hq).2
  have h7 : W.heap.size ≤ g := hge
  simp only
  omega
theorem app_run {gn cn : Nat} {cur : Array Value} {i : TypeInfo} {z : Value} (hr : PRow e size v n xs X) (hL : LV w0 (X ++ L) W) (hm : bk gn cur e ∈ L) (hcur : cur.toList = news) (ht : Tryz.prog.underlying t = some (.slice e)) (hi : Tryz.prog.info? e = some i) (hz : i.zero = some z) (hsize : i.size = size) (hby : i.bytes = bytes) (hzs : z.cells.size = size) (hsz : 0 < size)
  (hl : news.length = m * size) (h1 : ∀ u ∈ news, u.oneCell' = true) (h63 : n + m ≤ 1000000) (hb2 : bytes ≤ 1000) (ty : TypeId) : ∃ v' W' X', (Builtin.append_ #[t, t] ty #[v, .slice (some ⟨gn, 0, none⟩) m cn]).run Tryz.prog W = .ok v' W' ∧ PRow e size v' (n + m) (xs ++ news) X' ∧ LV w0 (X' ++ L) W' := by
 have ho := hr.owns hL
 have hmem : bk gn cur e ∈ X ++ L := List.mem_append.2 (.inr hm)
 have hcell : ∀ j u, news[j]? = some u → W.cell? ((⟨gn, 0, none⟩ : Addr).add j) = some u := by
  intro j u hj
  have h2 := hL.cl hmem j
  rw [← hcur, Array.getElem?_toList] at hj
  have e : (⟨gn, 0, none⟩ : Addr).add j = ⟨gn, j, none⟩ := by cases j <;> simp [Addr.add]
  rw [e, h2, hj]
 have hbytes : (n + m) * bytes ≤ 140737488355328 := by
  have := Nat.mul_le_mul h63 hb2
  omega
 obtain ⟨v', W', hrun, ho2, hg, _, hloc⟩ := run_append_own_at (P := Tryz.prog) W w0.heap.size t ty e i z size bytes ht hi hz hsize hby hzs hsz v n xs ho ⟨gn, 0, none⟩ m cn news hl hcell h1 (by unfold maxLen; omega) hbytes hL.1.size
 rcases hr.2 with ⟨rfl, rfl, rfl⟩ | ⟨g, cap, c0, rfl, rfl, _, _, _, _⟩
 ·-- nothing was owned
  have hg2 : W.grownBy W' none := ⟨hg.os, hg.tape, hg.output, hg.size, fun k hk _ => hg.block k hk (by simp [Value.ownBlock])⟩
  have ho3 : W'.ownsRow W.heap.size e size v' (0 + m) (xs ++ news) := by
   refine ⟨ho2.1, ?_⟩
   rcases ho2.2 with h | ⟨g2, cap2, cur2, rfl, hbg, h2⟩
   ·exact .inl h
   ·refine .inr ⟨g2, cap2, cur2, rfl, ?_, h2⟩
    rcases hloc with h | h
    ·simp [Value.ownBlock] at h
    ·simp [Value.ownBlock] at h
     omega
  obtain ⟨X', h4, h5⟩ := owned_thing (L := L) hL hg2 ho3
  exact ⟨v', W', X', hrun, h4, h5⟩
 ·rcases ho2.2 with ⟨rfl, h0⟩ | ⟨g2, cap2, cur2, rfl, hbg, hgb, h3, h4, h5, h6⟩
  ·-- nothing came of it: nothing was there
   have hn0 : n = 0 ∧ m = 0 := by omega
   refine ⟨_, W', [], hrun, ⟨ho2.1, .inl ⟨rfl, h0, rfl⟩⟩, ?_⟩
   have h7 : LV w0 (bk g c0 e :: L) W := hL
   refine ⟨?_, h7.tail.2.1, fun q hq => ⟨(h7.tail.2.2 q hq).1, okSame (h7.tail.2.2 q hq).2 (hg.block q.1 (Thg.lt (h7.tail.2.2 q hq).2) ?_)⟩⟩
   ·refine ⟨hg.os.trans h7.1.os, hg.tape.trans h7.1.tape, hg.output.trans h7.1.output, Nat.le_trans h7.1.size hg.size, fun k hk => ?_⟩
    have hge : w0.heap.size ≤ g := h7.ge
    exact (hg.block k (Nat.lt_of_lt_of_le hk h7.1.size) (by intro e2; have e3 : k = g := Option.some.inj e2; omega)).trans (h7.1.block k hk)
   ·intro e2
    exact h7.ne q hq (Option.some.inj e2)
  ·have h7 : LV w0 (bk g c0 e :: L) W := hL
   by_cases hgg : g2 = g
   ·subst hgg
    exact ⟨_, W', [bk g2 cur2 e], hrun, ⟨ho2.1, .inr ⟨g2, cap2, cur2, rfl, rfl, h3, h4, h5, h6⟩⟩, h7.turned hg rfl hgb⟩
   ·have hnew : g2 = W.heap.size := by
     rcases hloc with h | h
     ·simp [Value.ownBlock] at h
      exact absurd h hgg
     ·simpa [Value.ownBlock] using h
    have hold : LV w0 L W' := by
     refine ⟨?_, h7.tail.2.1, fun q hq => ⟨(h7.tail.2.2 q hq).1, okSame (h7.tail.2.2 q hq).2 (hg.block q.1 (Thg.lt (h7.tail.2.2 q hq).2) ?_)⟩⟩
     ·refine ⟨hg.os.trans h7.1.os, hg.tape.trans h7.1.tape, hg.output.trans h7.1.output, Nat.le_trans h7.1.size hg.size, fun k hk => ?_⟩
      have hge : w0.heap.size ≤ g := h7.ge
      exact (hg.block k (Nat.lt_of_lt_of_le hk h7.1.size) (by intro e2; have e3 : k = g := Option.some.inj e2; omega)).trans (h7.1.block k hk)
     ·intro e2
      exact h7.ne q hq (Option.some.inj e2)
    refine ⟨_, W', [bk g2 cur2 e], hrun, ⟨ho2.1, .inr ⟨g2, cap2, cur2, rfl, rfl, h3, h4, h5, h6⟩⟩, hold.cons (Nat.le_trans h7.1.size (by simp only; omega)) (fun q hq => ?_) hgb⟩
    have := Thg.lt (h7.tail.2.2 q hq).2
    simp only
    omega
end
theorem R_app {P : Program} {o : Oper} {a : Act} {w w' : World} {n : Nat} {m : List (Nat × Value)} {v : Value} {x y : Operand} {t u : TypeId} {vx vy : Value} (H : Fr a n m) (ho : o.op = .call { callee := .builtin .append, args := #[x, y], argTypes := #[t, u] }) (hx : ev1 m x = some vx) (hy : ev1 m y = some vy) (hl : (Builtin.append_ #[t, u] o.type #[vx, vy]).run P w = .ok v w') : (execOp a.eval o).run P w = .ok (.value v) w' := by
 have e1 := H.ev hx
 have e2 := H.ev hy
 unfold execOp
 rw [ho]
 generalize a.eval = ρ at *
 simp only [resolve, invoke, builtin, Sem.run_bind, Sem.run_pure, Result.andThen_ok, List.map_toArray, List.map_cons, List.map_nil, e1, e2, hl]
def opItems (L : List (PItem × Nat)) : List PItem := (L.filter fun p => p.2 == 0).map (·.1)
section
variable {L : List (PItem × Nat)}
theorem ents_vals : ∀ {n : Nat}, n ≤ L.length → (ents (opF L) n).map (·.2) = (opItems (L.take n)).map fun x => Value.agg (itC x)
 | 0, _ => rfl
 | n + 1, h => by
  unfold ents
  rw [List.map_append, ents_vals (by omega), List.take_add_one, List.getElem?_eq_getElem (by omega)]
  unfold opItems
  rw [List.filter_append, List.map_append, List.map_append]
  congr 1
  have hf : opF L n = if (L[n]'(by omega)).2 = 0 then some (.agg (itC (L[n]'(by omega)).1)) else none := by
   unfold opF
   rw [List.getElem?_eq_getElem (by omega)]
  rw [hf]
  by_cases hc : (L[n]'(by omega)).2 = 0
  ·simp [hc]
  ·simp [hc]
theorem opE_vals : (opE L).map (·.2) = (opItems L).map fun x => Value.agg (itC x) := by
 unfold opE
 rw [ents_vals (Nat.le_refl _), List.take_length]
theorem opE_len : (opE L).length = (opItems L).length := by
 have h := congrArg List.length (opE_vals (L := L))
 simpa using h
theorem ents_rise {f : Nat → Option Value} : ∀ {n : Nat}, (ents f n).Pairwise fun p q => p.1 < q.1
 | 0 => List.Pairwise.nil
 | n + 1 => by
  unfold ents
  refine List.pairwise_append.2 ⟨ents_rise, ?_, fun p hp q hq => ?_⟩
  ·cases f n <;> simp
  ·cases hf : f n with
   | none => rw [hf] at hq; cases hq
   | some v =>
    rw [hf] at hq
    rcases List.mem_singleton.1 hq with rfl
    have := ents_le p hp
    simp only
    omega
theorem look_at {l : Ents} (h : l.Pairwise fun p q => p.1 < q.1) {j : Nat} (hj : j < l.length) : lookE l (l[j]).1 = some (l[j]).2 := by
 induction l generalizing j with
 | nil => simp at hj
 | cons x r ih =>
  obtain ⟨h1, h2⟩ := List.pairwise_cons.1 h
  unfold lookE
  rw [List.find?_cons]
  cases j with
  | zero => simp
  | succ j =>
   have hj2 : j < r.length := by simpa using hj
   have h3 := h1 _ (List.getElem_mem hj2)
   have h4 : (x.1 == ((x :: r)[j + 1]).1) = false := beq_eq_false_iff_ne.2 (by simp only [List.getElem_cons_succ]; omega)
   rw [h4]
   have := ih h2 hj2
   unfold lookE at this
   simpa using this
theorem opE_at {j : Nat} (hj : j < (opE L).length) : ∃ k : Int, (opE L)[j].1 = k ∧ 1 ≤ k ∧ k ≤ L.length ∧ lookE (opE L) k = some (.agg (itC ((opItems L)[j]'(by rw [← opE_len]; exact hj)))) := by
 have h1 := look_at (l := opE L) ents_rise hj
 have h2 := ents_le _ (List.getElem_mem hj : (opE L)[j] ∈ ents (opF L) L.length)
 refine ⟨_, rfl, h2.1, h2.2, ?_⟩
 rw [h1]
 have h3 : ((opE L).map (·.2))[j]? = ((opItems L).map fun x => Value.agg (itC x))[j]? := by rw [opE_vals]
 rw [List.getElem?_map, List.getElem?_map, List.getElem?_eq_getElem hj, List.getElem?_eq_getElem (by rw [← opE_len]; exact hj)] at h3
 simpa using h3
theorem intKeys_mapD (l : Ents) : intKeys (mapD l) = l.map (·.1) := by
 unfold mapD intKeys
 simp [intOf, List.map_map, Function.comp_def]
end
def pkt (S : PSrc) (x : PItem) : Option (Int × Int × ByteArray) :=
 match dataM (itm { x with low := (lowN S.L : Nat) }) with
 | .ok d => if (ownT S.t (partS S.t { x with low := (lowN S.L : Nat) })).2 then some (4 + S.src, (ownT S.t (partS S.t { x with low := (lowN S.L : Nat) })).1, d) else none
 | .error _ => none
def pktsM (S : PSrc) : List (Int × Int × ByteArray) := (opItems S.L).filterMap (pkt S)
abbrev pkC (p : Int × Int × ByteArray) : List Value := [.int .i64 p.1, .int .i64 p.2.1, .string p.2.2]
def pkF (l : List (Int × Int × ByteArray)) : List Value := l.flatMap pkC
theorem pkF_app (l : List (Int × Int × ByteArray)) (p : Int × Int × ByteArray) : pkF (l ++ [p]) = pkF l ++ pkC p := by
 unfold pkF
 simp
end Go.Proofs.YthkeiclhllikjaaGreat
