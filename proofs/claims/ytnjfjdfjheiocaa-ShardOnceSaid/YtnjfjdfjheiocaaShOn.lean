/-
  ShardOnce: the law's walk.
-/
import Derived.Test.YtnjfjdfjheiocaaShZ
set_option linter.unusedSimpArgs false
set_option linter.unusedVariables false
namespace Go.Proofs.Ytnjfjdfjheiocaa
open Go.RowKit
section
variable {w0 W w : World} {L X X1 Xa Xb R : List Thg} {A B : Adr} {S T : PSt} {a : Addr} {n c j : Nat}
theorem LV.p1 (h : LV w0 (X1 ++ stT A S (stT B T (Xa ++ Xb))) w) : LV w0 (Xa ++ (X1 ++ stT A S (stT B T Xb))) w :=
  h.perm (((((List.perm_append_comm_assoc (stT B T []) Xa Xb).append_left (stT A S [])).trans (List.perm_append_comm_assoc (stT A S []) Xa (stT B T Xb))).append_left X1).trans (List.perm_append_comm_assoc X1 Xa (stT A S (stT B T Xb))))
theorem LV.p2 (h : LV w0 (X ++ (X1 ++ stT A S (stT B T Xb))) w) : LV w0 (stT A S (stT B T (X ++ Xb))) w :=
  (LV.dropl (h.perm (List.perm_append_comm_assoc X X1 _))).perm ((List.perm_append_comm_assoc X (stT A S []) (stT B T Xb)).trans ((List.perm_append_comm_assoc X (stT B T []) Xb).append_left (stT A S [])))
theorem LV.sw (h : LV w0 (stT A S (stT B T (Xa ++ Xb))) w) : LV w0 (stT A S (stT B T (Xb ++ Xa))) w :=
  h.perm ((List.perm_append_comm (l₁ := Xa) (l₂ := Xb)).append_left (stT A S (stT B T [])))
theorem sameS_refl : sameS S S = true := by simp [sameS]
theorem LV.sw' {Y : List Thg} (h : LV w0 (Y ++ stT A S (stT B T (Xa ++ Xb))) w) : LV w0 (Y ++ stT A S (stT B T (Xb ++ Xa))) w :=
  h.perm (((List.perm_append_comm (l₁ := Xa) (l₂ := Xb)).append_left (stT A S (stT B T []))).append_left Y)
theorem LV.ab (h : LV w0 (stT A S (stT B T L)) w) : LV w0 (stT B T (stT A S L)) w := LV.two (X := []) h
theorem B_remP {A B : Operand} {z : Int} {n : Nat} (h0 : 0 < n) (h1 : n < 1000000) : ((do eqGuard .rem 3 A B (.int .i64 z) (.int .i64 (n : Nat)); binOp .rem 3 (.int .i64 z) (.int .i64 (n : Nat))) : Sem Value).run Try.prog w = .ok (.int .i64 (z.tmod n)) w := by
  have h2 := Int.tmod_lt_of_pos z (show (0 : Int) < n by omega)
  have h3 := Int.lt_tmod_of_pos z (show (0 : Int) < n by omega)
  have e : IntKind.wrap .i64 (z.tmod n) = z.tmod n := i64_id (by omega) (by omega)
  have e2 : (n : Int) ≠ 0 := by omega
  have e3 : ¬ n = 0 := by omega
  simp [go_sem, e, e2, e3]
theorem doM_outs (S : PSt) (x : PItem) : (doM S x).2.1.length ≤ S.M.length := by
  unfold doM
  split
  · exact Nat.zero_le _
  · split
    · unfold lmarkM
      split
      · exact Nat.zero_le _
      · split
        · exact Nat.zero_le _
        · exact List.length_filter_le _ _
    · exact Nat.zero_le _
theorem apply_outs (S : PSt) (x : PItem) : (applyM S x).1.2.1.length ≤ S.M.length := by
  by_cases h : Sn S x
  · rw [(apply_sn h).1]
    exact Nat.zero_le _
  · rw [apply_do h]
    exact doM_outs S x
set_option maxRecDepth 100000 in
set_option maxHeartbeats 4000000 in
theorem once_any {v v2 : Value} {l : List PItem} {ag : List Int} (hl : RdC W 8 v (l.map itC)) (hg : RdC W 1 v2 (ag.map fun z => #[.int .i64 z])) (hll : l.length ≤ maxLen) (hgl : ag.length ≤ maxLen) (hz : ∀ z ∈ ag, -9223372036854775808 ≤ z ∧ z < 9223372036854775808) : Calls Try.prog 3 #[v, v2] W fun e W' => e = .returned (.bool true) ∧ Below W.heap.size W W' := by
  obtain ⟨q, c, rfl⟩ := hl.slc
  obtain ⟨q2, c2, rfl⟩ := hg.slc
  rw [List.length_map] at hl hg ⊢
  rw [List.length_map]
  have hRl : ∀ w L, LV W L w → RdC w 8 (.slice q l.length c) (l.map itC) := fun w L h => hl.kept h.1.block
  have hRg : ∀ w L, LV W L w → RdC w 1 (.slice q2 ag.length c2) (ag.map fun z => #[.int .i64 z]) := fun w L h => hg.kept h.1.block
  have hgr := great_any hl hll
  clear hl hg
  have hL := LV.init W
  go_enter Try.func3, Try.ntmps3
  refine wp_fr (n := 114) (m := [(0, _), (1, _)]) ⟨rfl, rfl, by intro p hp; simp only [List.mem_cons, List.not_mem_nil, or_false] at hp; rcases hp with rfl | rfl <;> rfl⟩ fun a0 H0 => ?_
  repeat (go_not_at_region 0; go_step)
  refine wp_region_lit ?_
  refine h_op H0 rfl (wn rfl) (R_as H0 rfl rfl) rfl (P2 0 1 rfl rfl) fun a1 H1 => ?_
  clear H0
  refine h_end ?_
  repeat (go_not_at_region 1; go_step)
  refine wp_region_lit ?_
  refine h_op H1 rfl (wn rfl) (R_mv H1 rfl rfl) rfl (P3 20 0 1 rfl rfl rfl) fun a2 H2 => ?_
  clear H1
  refine h_call H2 rfl (wn rfl) (R_call1 H2 rfl rfl (fun w => by simp [go_sem])) rfl ?_
  refine hgr.mono ?_
  rintro e w3 ⟨b0, rfl, hw, hb0⟩
  replace hL := hL.eqw hw
  clear hw hgr
  refine ⟨_, rfl, fun a3 HH => ?_⟩
  have H3 := HH _ (P3 21 0 1 rfl rfl rfl)
  clear HH H2
  refine h_op H3 rfl (wn rfl) (R_mv H3 rfl rfl) rfl (P3 22 0 1 rfl rfl rfl) fun a4 H4 => ?_
  clear H3
  replace H4 := H4.pick [(0, .slice q l.length c), (1, .slice q2 ag.length c2), (22, .bool b0)] (P3 0 1 22 rfl rfl rfl)
  generalize ht0 : b0 = t0 at H4
  refine wpList_cut [_, _, _, _] (R := fun a' w' => Fr a' 114 [(0, .slice q l.length c), (1, .slice q2 ag.length c2), (26, .bool (t0 || (decide ((ag.length : Int) > 300))))] ∧ LV W [] w') ?_ ?_
  · cases t0
    · refine h_op H4 rfl (H4.wt rfl rfl rfl) (R_mv H4 rfl rfl) rfl (P4 23 0 1 22 rfl rfl rfl rfl) fun a5 H5 => ?_
      clear H4
      refine h_op H5 rfl (H5.wt rfl rfl rfl) (R_lenS H5 rfl rfl Try.underlying23) rfl (P4 24 0 1 22 rfl rfl rfl rfl) fun a6 H6 => ?_
      clear H5
      refine h_op H6 rfl (H6.wt rfl rfl rfl) (R_bin H6 rfl rfl rfl (B_gt Try.underlying3 _ _)) rfl (P4 25 0 1 22 rfl rfl rfl rfl) fun a7 H7 => ?_
      clear H6
      refine h_op H7 rfl (wn rfl) (R_pick H7 rfl rfl rfl) rfl (P3 26 0 1 rfl rfl rfl) fun a8 H8 => ?_
      clear H7
      exact h_end ⟨H8.pick _ (P3 0 1 26 rfl rfl rfl), hL⟩
    · refine h_skip H4 rfl (H4.wf rfl rfl rfl) rfl (P4 23 0 1 22 rfl rfl rfl rfl) fun a5 H5 => ?_
      clear H4
      refine h_skip H5 rfl (H5.wf rfl rfl rfl) rfl (P4 24 0 1 22 rfl rfl rfl rfl) fun a6 H6 => ?_
      clear H5
      refine h_skip H6 rfl (H6.wf rfl rfl rfl) rfl (P4 25 0 1 22 rfl rfl rfl rfl) fun a7 H7 => ?_
      clear H6
      refine h_op H7 rfl (wn rfl) (R_pick H7 rfl rfl rfl) rfl (P3 26 0 1 rfl rfl rfl) fun a8 H8 => ?_
      clear H7
      exact h_end ⟨H8.pick _ (P3 0 1 26 rfl rfl rfl), hL⟩
  clear hL H4
  rintro a9 wx ⟨H9, hL⟩
  generalize ht1 : (t0 || (decide ((ag.length : Int) > 300))) = t1 at H9
  cases t1
  rotate_left
  · repeat (go_not_at_region 2; go_step)
    refine wp_cond_true (H9.ev (x := .tmp 26) rfl) ?_
    repeat (go_not_at_region 2; go_step)
    refine wp_region_lit ?_
    refine h_call H9 rfl (wn rfl) (R_call0 H9 rfl (fun w => by simp [go_sem])) rfl ?_
    refine wakes_ok.mono ?_
    rintro e w10 ⟨rfl, hb⟩
    replace hL := hL.call hb
    clear hb
    refine ⟨_, rfl, fun a10 HH => ?_⟩
    have H10 := HH _ (P1 27 rfl)
    clear HH H9
    refine h_op H10 rfl (wn rfl) (R_as H10 rfl rfl) rfl (P1 4 rfl) fun a11 H11 => ?_
    clear H10
    refine h_end ?_
    repeat (go_not_at_region 999; go_step)
    exact H11.ret1 rfl rfl ⟨rfl, hL.1⟩
  have hsm : l.length ≤ 300 ∧ (∀ x ∈ l, x.key.size ≤ 100) ∧ ag.length ≤ 300 := by
    cases t0
    · have h1 := hb0 ht0
      have h2 : ¬ ((ag.length : Int) > 300) := of_decide_eq_false ht1
      exact ⟨h1.1, h1.2, by omega⟩
    · cases ht1
  obtain ⟨hs1, hs2, hs3⟩ := hsm
  clear hb0 ht0 ht1
  repeat (go_not_at_region 3; go_step)
  refine wp_cond_false (H9.ev (x := .tmp 26) rfl) ?_
  repeat (go_not_at_region 3; go_step)
  refine wp_region_lit ?_
  refine h_call H9 rfl (wn rfl) (R_call0 H9 rfl (fun w => by simp [go_sem])) rfl ?_
  refine (shnew_any hL).mono ?_
  rintro e w10 ⟨B, rfl, hL2⟩
  clear hL
  have hL := hL2
  clear hL2
  refine ⟨_, rfl, fun a10 HH => ?_⟩
  have H10 := HH _ (P3 28 0 1 rfl rfl rfl)
  clear HH H9
  refine h_op H10 rfl (wn rfl) (R_as H10 rfl rfl) rfl (P3 5 0 1 rfl rfl rfl) fun a11 H11 => ?_
  clear H10
  refine h_end ?_
  repeat (go_not_at_region 4; go_step)
  refine wp_region_lit ?_
  refine h_call H11 rfl (wn rfl) (R_call0 H11 rfl (fun w => by simp [go_sem])) rfl ?_
  refine (shnew_any hL).mono ?_
  rintro e w12 ⟨A, rfl, hL2⟩
  clear hL
  have hL := hL2
  clear hL2
  refine ⟨_, rfl, fun a12 HH => ?_⟩
  have H12 := HH _ (P4 29 5 0 1 rfl rfl rfl rfl)
  clear HH H11
  refine h_op H12 rfl (wn rfl) (R_as H12 rfl rfl) rfl (P4 6 5 0 1 rfl rfl rfl rfl) fun a13 H13 => ?_
  clear H12
  refine h_end ?_
  repeat (go_not_at_region 5; go_step)
  refine wp_region_lit ?_
  refine h_op H13 rfl (wn rfl) (R_as H13 rfl rfl) rfl (P5 7 6 5 0 1 rfl rfl rfl rfl rfl) fun a14 H14 => ?_
  clear H13
  refine h_end ?_
  repeat (go_not_at_region 6; go_step)
  refine wp_region_lit ?_
  refine h_op H14 rfl (wn rfl) (R_as H14 rfl rfl) rfl (P6 8 7 6 5 0 1 rfl rfl rfl rfl rfl rfl) fun a15 H15 => ?_
  clear H14
  refine h_end ?_
  repeat (go_not_at_region 7; go_step)
  refine wp_region_lit ?_
  refine h_op H15 rfl (wn rfl) (R_as H15 rfl rfl) rfl (P7 9 8 7 6 5 0 1 rfl rfl rfl rfl rfl rfl rfl) fun a16 H16 => ?_
  clear H15
  refine h_end ?_
  replace hL : LV W (stT B newM (stT A newM ([] ++ []))) _ := hL.ab
  repeat (go_not_at_region 8; go_step)
  obtain ⟨I, hI⟩ : ∃ I : Nat → Act → World → Prop, ∀ n a' w', I n a' w' ↔ ∃ (i : Nat) (S : PSt) (Z : Wins) (va vb : Value) (Xa Xb : List Thg), n = l.length - i ∧ i ≤ l.length ∧ Fr a' 114 [(0, .slice q l.length c), (1, .slice q2 ag.length c2), (5, .pointer (some ⟨B.g, 0, none⟩)), (6, .pointer (some ⟨A.g, 0, none⟩)), (7, va), (8, vb), (9, .int .i64 (i : Nat))] ∧ SOk i S ∧ (∀ x ∈ l.take i, Sn S x) ∧ Z.length ≤ 300 * i ∧ PRow 46 10 va Z.length (outF Z) Xa ∧ PRow 46 10 vb Z.length (outF Z) Xb ∧ LV W (stT B S (stT A S (Xa ++ Xb))) w' := ⟨_, fun _ _ _ => Iff.rfl⟩
  have HI := Lib.hid hI
  clear hI
  refine wp_loop_ghost I l.length ((HI.out _ _ _).2 ⟨0, newM, [], _, _, [], [], rfl, Nat.zero_le _, H16.pick _ (P7 0 1 5 6 7 8 9 rfl rfl rfl rfl rfl rfl rfl), sok_new, by simp, Nat.le_refl _, PRow.nil, PRow.nil, hL⟩) ?_
  clear hL H16
  intro n a1 wl hi'
  obtain ⟨i, S, Z, va, vb, Xa, Xb, rfl, hi, H0, hok, hsn, hzl, hra, hrb, hL⟩ := (HI.out _ _ _).1 hi'
  clear hi'
  by_cases hil : i < l.length
  · repeat (go_not_at_region 8; go_step)
    refine wp_region_lit ?_
    refine h_op H0 rfl (wn rfl) (R_mv H0 rfl rfl) rfl (P8 30 0 1 5 6 7 8 9 rfl rfl rfl rfl rfl rfl rfl rfl) fun a1 H1 => ?_
    clear H0
    refine h_op H1 rfl (wn rfl) (R_mv H1 rfl rfl) rfl (P9 31 30 0 1 5 6 7 8 9 rfl rfl rfl rfl rfl rfl rfl rfl rfl) fun a2 H2 => ?_
    clear H1
    refine h_op H2 rfl (wn rfl) (R_lenS H2 rfl rfl Try.underlying22) rfl (P9 32 30 0 1 5 6 7 8 9 rfl rfl rfl rfl rfl rfl rfl rfl rfl) fun a3 H3 => ?_
    clear H2
    refine h_op H3 rfl (wn rfl) (R_bin H3 rfl rfl rfl (B_to (y := true) (B_lt Try.underlying3 _ _) (decide_eq_true (by omega)))) rfl (P8 33 0 1 5 6 7 8 9 rfl rfl rfl rfl rfl rfl rfl rfl) fun a4 H4 => ?_
    clear H3
    refine h_end ?_
    repeat (go_not_at_region 10; go_step)
    refine wp_cond_true (H4.ev (x := .tmp 33) rfl) ?_
    obtain ⟨x, hx⟩ : ∃ x, x = l[i] := ⟨_, rfl⟩
    have hxm : x ∈ l := hx ▸ List.getElem_mem hil
    have hxk : x.key.size ≤ maxLen := Nat.le_trans (hs2 x hxm) (by decide)
    have hml := hok.ml
    have hol := apply_outs S x
    have hok1 := apply_ok x hok
    obtain ⟨ad, hq, hc⟩ := (hRl wl _ hL).elem (List.length_map _) hil
    rw [List.getElem_map, ← hx] at hc
    repeat (go_not_at_region 10; go_step)
    refine wp_region_lit ?_
    refine h_op H4 rfl (wn rfl) (R_mv H4 rfl rfl) rfl (P8 37 0 1 5 6 7 8 9 rfl rfl rfl rfl rfl rfl rfl rfl) fun a5 H5 => ?_
    clear H4
    refine h_op H5 rfl (wn rfl) (R_mv H5 rfl rfl) rfl (P9 38 37 0 1 5 6 7 8 9 rfl rfl rfl rfl rfl rfl rfl rfl rfl) fun a6 H6 => ?_
    clear H5
    refine h_op H6 rfl (wn rfl) (R_mv H6 rfl rfl) rfl (P10 39 38 37 0 1 5 6 7 8 9 rfl rfl rfl rfl rfl rfl rfl rfl rfl rfl) fun a7 H7 => ?_
    clear H6
    refine h_op H7 rfl (wn rfl) (R_ixa H7 rfl rfl rfl (by rw [hq]; exact ix_itA hil)) rfl (P9 40 37 0 1 5 6 7 8 9 rfl rfl rfl rfl rfl rfl rfl rfl rfl) fun a8 H8 => ?_
    clear H7
    refine h_op H8 rfl (wn rfl) (R_ld H8 rfl rfl (ld_itA hc)) rfl (P9 41 37 0 1 5 6 7 8 9 rfl rfl rfl rfl rfl rfl rfl rfl rfl) fun a9 H9 => ?_
    clear H8
    refine h_call H9 rfl (wn rfl) (R_call2 H9 rfl rfl rfl (fun w => by simp [go_sem])) rfl ?_
    refine (apply_any (x := x) hL hxk (by omega) (fun j => by have := hok.cl j; omega)).mono ?_
    rintro e w10 ⟨v1, X1, rfl, hr1, hL2⟩
    clear hL
    have hL := hL2.p1
    clear hL2
    refine ⟨_, rfl, fun a10 HH => ?_⟩
    have H10 := HH _ (P8 42 0 1 5 6 7 8 9 rfl rfl rfl rfl rfl rfl rfl rfl)
    clear HH H9
    refine h_op H10 rfl (wn rfl) (R_mv H10 rfl rfl) rfl (P8 36 0 1 5 6 7 8 9 rfl rfl rfl rfl rfl rfl rfl rfl) fun a11 H11 => ?_
    clear H10
    refine h_op H11 rfl (wn rfl) (R_ext H11 rfl rfl rfl) rfl (P9 43 36 0 1 5 6 7 8 9 rfl rfl rfl rfl rfl rfl rfl rfl rfl) fun a12 H12 => ?_
    clear H11
    refine h_op H12 rfl (wn rfl) (R_ext H12 rfl rfl rfl) rfl (P10 44 43 36 0 1 5 6 7 8 9 rfl rfl rfl rfl rfl rfl rfl rfl rfl rfl) fun a13 H13 => ?_
    clear H12
    refine h_op H13 rfl (wn rfl) (R_ext H13 rfl rfl rfl) rfl (P10 45 44 43 0 1 5 6 7 8 9 rfl rfl rfl rfl rfl rfl rfl rfl rfl rfl) fun a14 H14 => ?_
    clear H13
    refine h_op H14 rfl (wn rfl) (R_as H14 rfl rfl) rfl (P10 10 45 44 0 1 5 6 7 8 9 rfl rfl rfl rfl rfl rfl rfl rfl rfl rfl) fun a15 H15 => ?_
    clear H14
    refine h_op H15 rfl (wn rfl) (R_as H15 rfl rfl) rfl (P10 11 10 45 0 1 5 6 7 8 9 rfl rfl rfl rfl rfl rfl rfl rfl rfl rfl) fun a16 H16 => ?_
    clear H15
    refine h_op H16 rfl (wn rfl) (R_as H16 rfl rfl) rfl (P10 12 11 10 0 1 5 6 7 8 9 rfl rfl rfl rfl rfl rfl rfl rfl rfl rfl) fun a17 H17 => ?_
    clear H16
    refine h_end ?_
    repeat (go_not_at_region 11; go_step)
    refine wp_region_lit ?_
    refine h_op H17 rfl (wn rfl) (R_mv H17 rfl rfl) rfl (P11 46 12 11 10 0 1 5 6 7 8 9 rfl rfl rfl rfl rfl rfl rfl rfl rfl rfl rfl) fun a18 H18 => ?_
    clear H17
    refine h_op H18 rfl (wn rfl) (R_mv H18 rfl rfl) rfl (P11 47 46 12 10 0 1 5 6 7 8 9 rfl rfl rfl rfl rfl rfl rfl rfl rfl rfl rfl) fun a19 H19 => ?_
    clear H18
    obtain ⟨va2, W2, Xa2, hrun2, hra2, hL2⟩ := app_outs hra hr1 hL (by omega) 28
    refine h_opS _ H19 rfl (wn rfl) (R_app H19 rfl rfl rfl hrun2) (hL2) rfl (P10 48 12 10 0 1 5 6 7 8 9 rfl rfl rfl rfl rfl rfl rfl rfl rfl rfl) fun a20 w20 H20 hL' => ?_
    replace hL := hL'
    clear H19 hL'
    refine h_op H20 rfl (wn rfl) (R_as H20 rfl rfl) rfl (P9 7 12 10 0 1 5 6 8 9 rfl rfl rfl rfl rfl rfl rfl rfl rfl) fun a21 H21 => ?_
    clear H20
    refine h_end ?_
    replace hL := hL.p2
    clear hra hr1
    repeat (go_not_at_region 12; go_step)
    refine wp_region_lit ?_
    refine h_op H21 rfl (wn rfl) (R_mv H21 rfl rfl) rfl (P9 49 7 10 0 1 5 6 8 9 rfl rfl rfl rfl rfl rfl rfl rfl rfl) fun a22 H22 => ?_
    clear H21
    refine h_end ?_
    obtain ⟨S1, hS1⟩ : ∃ S1, S1 = (applyM S x).2 := ⟨_, rfl⟩
    obtain ⟨Z1, hZ1⟩ : ∃ Z1, Z1 = Z ++ (applyM S x).1.2.1 := ⟨_, rfl⟩
    rw [← hZ1] at hra2
    rw [← hS1] at hL hok1
    have hzl1 : Z1.length ≤ 300 * (i + 1) := by rw [hZ1, List.length_append]; omega
    have hsn1 : ∀ y ∈ l.take (i + 1), Sn S1 y := by
      intro y hy
      rw [List.take_succ_eq_append_getElem hil, List.mem_append, List.mem_singleton, ← hx] at hy
      rw [hS1]
      rcases hy with hy | rfl
      · exact sn_keep (hsn y hy) x
      · exact sn_self S y
    repeat (go_not_at_region 13; go_step)
    refine wp_cut (fun a' w' => ∃ (vb2 : Value) (Xb2 : List Thg), Fr a' 114 [(0, .slice q l.length c), (1, .slice q2 ag.length c2), (5, .pointer (some ⟨B.g, 0, none⟩)), (6, .pointer (some ⟨A.g, 0, none⟩)), (7, va2), (8, vb2), (9, .int .i64 (i : Nat))] ∧ PRow 46 10 vb2 Z1.length (outF Z1) Xb2 ∧ LV W (stT B S1 (stT A S1 (Xa2 ++ Xb2))) w') ?_ ?_
    rotate_left
    · intro J K' hJ hM
      by_cases hs : Sn S x
      · have e1 := apply_sn hs
        rw [e1.2.1] at H22
        refine wp_cond (t := false) (H22.ev (x := .tmp 49) rfl) ?_
        simp only [Bool.false_eq_true, if_false]
        refine wp_skip ?_
        have eS : S1 = S := by rw [hS1, e1.2.2]
        have eZ : Z1 = Z := by rw [hZ1, e1.1, List.append_nil]
        exact hM _ _ (Met.intro (hJ _ _ ⟨vb, Xb, H22.pick _ (P7 0 1 5 6 7 8 9 rfl rfl rfl rfl rfl rfl rfl), by rw [eZ]; exact hrb, by rw [eS] at hL ⊢; exact hL⟩))
      · have e1 := fresh_iff.2 hs
        rw [e1] at H22
        refine wp_cond (t := true) (H22.ev (x := .tmp 49) rfl) ?_
        simp only [if_true]
        obtain ⟨ad3, hq3, hc3⟩ := (hRl w20 _ hL).elem (List.length_map _) hil
        rw [List.getElem_map, ← hx] at hc3
        repeat (go_not_at_region 13; go_step)
        refine wp_region_lit ?_
        refine h_op H22 rfl (wn rfl) (R_mv H22 rfl rfl) rfl (P9 51 7 10 0 1 5 6 8 9 rfl rfl rfl rfl rfl rfl rfl rfl rfl) fun a23 H23 => ?_
        clear H22
        refine h_op H23 rfl (wn rfl) (R_mv H23 rfl rfl) rfl (P10 52 51 7 10 0 1 5 6 8 9 rfl rfl rfl rfl rfl rfl rfl rfl rfl rfl) fun a24 H24 => ?_
        clear H23
        refine h_op H24 rfl (wn rfl) (R_mv H24 rfl rfl) rfl (P11 53 52 51 7 10 0 1 5 6 8 9 rfl rfl rfl rfl rfl rfl rfl rfl rfl rfl rfl) fun a25 H25 => ?_
        clear H24
        refine h_op H25 rfl (wn rfl) (R_ixa H25 rfl rfl rfl (by rw [hq3]; exact ix_itA hil)) rfl (P10 54 51 7 10 0 1 5 6 8 9 rfl rfl rfl rfl rfl rfl rfl rfl rfl rfl) fun a26 H26 => ?_
        clear H25
        refine h_op H26 rfl (wn rfl) (R_ld H26 rfl rfl (ld_itA hc3)) rfl (P10 55 51 7 10 0 1 5 6 8 9 rfl rfl rfl rfl rfl rfl rfl rfl rfl rfl) fun a27 H27 => ?_
        clear H26
        refine h_call H27 rfl (wn rfl) (R_call2 H27 rfl rfl rfl (fun w => by simp [go_sem])) rfl ?_
        refine (apply_any (x := x) hL.ab hxk (by omega) (fun j => by have := hok.cl j; omega)).mono ?_
        rintro e w28 ⟨v3, X3, rfl, hr3, hL2⟩
        clear hL
        rw [← hS1] at hL2
        have hL := (LV.sw' hL2).p1
        clear hL2
        refine ⟨_, rfl, fun a28 HH => ?_⟩
        have H28 := HH _ (P9 56 7 10 0 1 5 6 8 9 rfl rfl rfl rfl rfl rfl rfl rfl rfl)
        clear HH H27
        refine h_op H28 rfl (wn rfl) (R_mv H28 rfl rfl) rfl (P9 50 7 10 0 1 5 6 8 9 rfl rfl rfl rfl rfl rfl rfl rfl rfl) fun a29 H29 => ?_
        clear H28
        refine h_op H29 rfl (wn rfl) (R_ext H29 rfl rfl rfl) rfl (P10 57 50 7 10 0 1 5 6 8 9 rfl rfl rfl rfl rfl rfl rfl rfl rfl rfl) fun a30 H30 => ?_
        clear H29
        refine h_op H30 rfl (wn rfl) (R_ext H30 rfl rfl rfl) rfl (P11 58 57 50 7 10 0 1 5 6 8 9 rfl rfl rfl rfl rfl rfl rfl rfl rfl rfl rfl) fun a31 H31 => ?_
        clear H30
        refine h_op H31 rfl (wn rfl) (R_ext H31 rfl rfl rfl) rfl (P11 59 58 57 7 10 0 1 5 6 8 9 rfl rfl rfl rfl rfl rfl rfl rfl rfl rfl rfl) fun a32 H32 => ?_
        clear H31
        refine h_op H32 rfl (wn rfl) (R_as H32 rfl rfl) rfl (P11 13 59 58 7 10 0 1 5 6 8 9 rfl rfl rfl rfl rfl rfl rfl rfl rfl rfl rfl) fun a33 H33 => ?_
        clear H32
        refine h_op H33 rfl (wn rfl) (R_as H33 rfl rfl) rfl (P11 14 13 59 7 10 0 1 5 6 8 9 rfl rfl rfl rfl rfl rfl rfl rfl rfl rfl rfl) fun a34 H34 => ?_
        clear H33
        refine h_op H34 rfl (wn rfl) (R_as H34 rfl rfl) rfl (P11 15 14 13 7 10 0 1 5 6 8 9 rfl rfl rfl rfl rfl rfl rfl rfl rfl rfl rfl) fun a35 H35 => ?_
        clear H34
        refine h_end ?_
        repeat (go_not_at_region 14; go_step)
        refine wp_region_lit ?_
        refine h_op H35 rfl (wn rfl) (R_mv H35 rfl rfl) rfl (P12 60 15 14 13 7 10 0 1 5 6 8 9 rfl rfl rfl rfl rfl rfl rfl rfl rfl rfl rfl rfl) fun a36 H36 => ?_
        clear H35
        refine h_op H36 rfl (wn rfl) (R_mv H36 rfl rfl) rfl (P12 61 60 15 13 7 10 0 1 5 6 8 9 rfl rfl rfl rfl rfl rfl rfl rfl rfl rfl rfl rfl) fun a37 H37 => ?_
        clear H36
        obtain ⟨vb2, W3, Xb2, hrun3, hrb2, hL2⟩ := app_outs hrb hr3 hL (by omega) 28
        refine h_opS _ H37 rfl (wn rfl) (R_app H37 rfl rfl rfl hrun3) (hL2) rfl (P11 62 15 13 7 10 0 1 5 6 8 9 rfl rfl rfl rfl rfl rfl rfl rfl rfl rfl rfl) fun a38 w38 H38 hL' => ?_
        replace hL := hL'
        clear H37 hL'
        refine h_op H38 rfl (wn rfl) (R_as H38 rfl rfl) rfl (P10 8 15 13 7 10 0 1 5 6 9 rfl rfl rfl rfl rfl rfl rfl rfl rfl rfl) fun a39 H39 => ?_
        clear H38
        refine h_end ?_
        replace hL := hL.p2
        rw [← hZ1] at hrb2
        rw [e1] at H39
        repeat (go_not_at_region 15; go_step)
        refine wp_region_lit ?_
        refine h_op H39 rfl (wn rfl) (R_mv H39 rfl rfl) rfl (P10 63 8 15 7 10 0 1 5 6 9 rfl rfl rfl rfl rfl rfl rfl rfl rfl rfl) fun a40 H40 => ?_
        clear H39
        refine h_op H40 rfl (wn rfl) (R_mv H40 rfl rfl) rfl (P10 64 63 8 15 7 0 1 5 6 9 rfl rfl rfl rfl rfl rfl rfl rfl rfl rfl) fun a41 H41 => ?_
        clear H40
        refine h_op H41 rfl (wn rfl) (R_bin H41 rfl rfl rfl (B_to (y := false) (B_ne Try.underlying3 _ _) (by simp))) rfl (P9 65 8 15 7 0 1 5 6 9 rfl rfl rfl rfl rfl rfl rfl rfl rfl) fun a42 H42 => ?_
        clear H41
        refine h_op H42 rfl (wn rfl) (R_mv H42 rfl rfl) rfl (P9 66 8 15 7 0 1 5 6 9 rfl rfl rfl rfl rfl rfl rfl rfl rfl) fun a43 H43 => ?_
        clear H42
        refine h_op H43 rfl (H43.wt rfl rfl rfl) (R_mv H43 rfl rfl) rfl (P9 67 66 8 7 0 1 5 6 9 rfl rfl rfl rfl rfl rfl rfl rfl rfl) fun a44 H44 => ?_
        clear H43
        refine h_op H44 rfl (H44.wt rfl rfl rfl) (R_not H44 rfl rfl) rfl (P9 68 66 8 7 0 1 5 6 9 rfl rfl rfl rfl rfl rfl rfl rfl rfl) fun a45 H45 => ?_
        clear H44
        refine h_op H45 rfl (wn rfl) (R_pick H45 rfl rfl rfl) rfl (P8 69 8 7 0 1 5 6 9 rfl rfl rfl rfl rfl rfl rfl rfl) fun a46 H46 => ?_
        clear H45
        refine h_end ?_
        repeat (go_not_at_region 16; go_step)
        refine wp_cond_false (H46.ev (x := .tmp 69) rfl) ?_
        refine wp_skip ?_
        exact hM _ _ (Met.intro (hJ _ _ ⟨vb2, Xb2, H46.pick _ (P7 0 1 5 6 7 8 9 rfl rfl rfl rfl rfl rfl rfl), hrb2, (LV.sw hL).ab⟩))
    clear hL hrb H22
    intro ac wc hcut
    obtain ⟨vb2, Xb2, H0, hrb2, hL⟩ := hcut
    repeat (go_not_at_region 17; go_step)
    refine wp_region_lit ?_
    refine h_op H0 rfl (wn rfl) (R_mv H0 rfl rfl) rfl (P8 70 0 1 5 6 7 8 9 rfl rfl rfl rfl rfl rfl rfl rfl) fun a1 H1 => ?_
    clear H0
    refine h_op H1 rfl (wn rfl) (R_mv H1 rfl rfl) rfl (P9 71 70 0 1 5 6 7 8 9 rfl rfl rfl rfl rfl rfl rfl rfl rfl) fun a2 H2 => ?_
    clear H1
    refine h_op H2 rfl (wn rfl) (R_lenS H2 rfl rfl Try.underlying23) rfl (P9 72 70 0 1 5 6 7 8 9 rfl rfl rfl rfl rfl rfl rfl rfl rfl) fun a3 H3 => ?_
    clear H2
    refine h_op H3 rfl (wn rfl) (R_bin H3 rfl rfl rfl (B_lt Try.underlying3 _ _)) rfl (P8 73 0 1 5 6 7 8 9 rfl rfl rfl rfl rfl rfl rfl rfl) fun a4 H4 => ?_
    clear H3
    refine h_end ?_
    by_cases hia : i < ag.length
    rotate_left
    · rw [decide_eq_false (show ¬ ((i : Int) < (ag.length : Nat)) by omega)] at H4
      repeat (go_not_at_region 9; go_step)
      refine wp_cond_false (H4.ev (x := .tmp 73) rfl) ?_
      repeat (go_not_at_region 9; go_step)
      refine wp_region_lit ?_
      refine h_op H4 rfl (wn rfl) (R_mv H4 rfl rfl) rfl (P8 34 0 1 5 6 7 8 9 rfl rfl rfl rfl rfl rfl rfl rfl) fun a5 H5 => ?_
      clear H4
      refine h_op H5 rfl (wn rfl) (R_bin H5 rfl rfl rfl (B_add Try.underlying3 _ _ (by omega) (by omega))) rfl (P8 35 0 1 5 6 7 8 9 rfl rfl rfl rfl rfl rfl rfl rfl) fun a6 H6 => ?_
      clear H5
      refine h_op H6 rfl (wn rfl) (R_as H6 rfl rfl) rfl (P7 9 0 1 5 6 7 8 rfl rfl rfl rfl rfl rfl rfl) fun a7 H7 => ?_
      clear H6
      refine h_end ?_
      exact ⟨l.length - (i + 1), by omega, (HI.out _ _ _).2 ⟨i + 1, S1, Z1, va2, vb2, Xa2, Xb2, rfl, by omega, H7.pick _ (P7 0 1 5 6 7 8 9 rfl rfl rfl rfl rfl rfl rfl), hok1, hsn1, hzl1, hra2, hrb2, hL⟩⟩
    rw [decide_eq_true (show ((i : Int) < (ag.length : Nat)) by omega)] at H4
    repeat (go_not_at_region 18; go_step)
    refine wp_cond_true (H4.ev (x := .tmp 73) rfl) ?_
    obtain ⟨ad4, hq4, hc4⟩ := (hRg wc _ hL).elem (List.length_map _) hia
    rw [List.getElem_map] at hc4
    obtain ⟨z, hz0⟩ : ∃ z, z = ag[i] := ⟨_, rfl⟩
    rw [← hz0] at hc4
    have m1 := Int.tmod_lt_of_pos z (show (0 : Int) < (i + 1 : Nat) by omega)
    have m2 := Int.lt_tmod_of_pos z (show (0 : Int) < (i + 1 : Nat) by omega)
    obtain ⟨k0, hk0⟩ : ∃ k0, k0 = z.tmod (i + 1 : Nat) := ⟨_, rfl⟩
    rw [← hk0] at m1 m2
    repeat (go_not_at_region 18; go_step)
    refine wp_region_lit ?_
    refine h_op H4 rfl (wn rfl) (R_mv H4 rfl rfl) rfl (P8 74 0 1 5 6 7 8 9 rfl rfl rfl rfl rfl rfl rfl rfl) fun a5 H5 => ?_
    clear H4
    refine h_op H5 rfl (wn rfl) (R_mv H5 rfl rfl) rfl (P9 75 74 0 1 5 6 7 8 9 rfl rfl rfl rfl rfl rfl rfl rfl rfl) fun a6 H6 => ?_
    clear H5
    refine h_op H6 rfl (wn rfl) (R_ixa H6 rfl rfl rfl (ix_in hq4 hia)) rfl (P8 76 0 1 5 6 7 8 9 rfl rfl rfl rfl rfl rfl rfl rfl) fun a7 H7 => ?_
    clear H6
    refine h_op H7 rfl (wn rfl) (R_ld H7 rfl rfl (ld_inA hc4)) rfl (P8 77 0 1 5 6 7 8 9 rfl rfl rfl rfl rfl rfl rfl rfl) fun a8 H8 => ?_
    clear H7
    refine h_op H8 rfl (wn rfl) (R_mv H8 rfl rfl) rfl (P9 78 77 0 1 5 6 7 8 9 rfl rfl rfl rfl rfl rfl rfl rfl rfl) fun a9 H9 => ?_
    clear H8
    refine h_op H9 rfl (wn rfl) (R_bin H9 rfl rfl rfl (B_add Try.underlying3 _ _ (by omega) (by omega))) rfl (P9 79 77 0 1 5 6 7 8 9 rfl rfl rfl rfl rfl rfl rfl rfl rfl) fun a10 H10 => ?_
    clear H9
    refine h_op H10 rfl (wn rfl) (R_bin H10 rfl rfl rfl (B_remP (n := i + 1) (by omega) (by omega))) rfl (P8 80 0 1 5 6 7 8 9 rfl rfl rfl rfl rfl rfl rfl rfl) fun a11 H11 => ?_
    clear H10
    refine h_op H11 rfl (wn rfl) (R_as H11 rfl rfl) rfl (P8 16 0 1 5 6 7 8 9 rfl rfl rfl rfl rfl rfl rfl rfl) fun a12 H12 => ?_
    clear H11
    refine h_end ?_
    rw [← hk0] at H12
    repeat (go_not_at_region 19; go_step)
    refine wp_region_lit ?_
    refine h_op H12 rfl (wn rfl) (R_mv H12 rfl rfl) rfl (P9 81 16 0 1 5 6 7 8 9 rfl rfl rfl rfl rfl rfl rfl rfl rfl) fun a13 H13 => ?_
    clear H12
    refine h_op H13 rfl (wn rfl) (R_bin H13 rfl rfl rfl (B_lt Try.underlying3 _ _)) rfl (P9 82 16 0 1 5 6 7 8 9 rfl rfl rfl rfl rfl rfl rfl rfl rfl) fun a14 H14 => ?_
    clear H13
    refine h_end ?_
    repeat (go_not_at_region 20; go_step)
    refine wp_cut (fun a' w' => ∃ k : Nat, k ≤ i ∧ Fr a' 114 [(0, .slice q l.length c), (1, .slice q2 ag.length c2), (5, .pointer (some ⟨B.g, 0, none⟩)), (6, .pointer (some ⟨A.g, 0, none⟩)), (7, va2), (8, vb2), (9, .int .i64 (i : Nat)), (16, .int .i64 (k : Nat))] ∧ LV W (stT B S1 (stT A S1 (Xa2 ++ Xb2))) w') ?_ ?_
    rotate_left
    · intro J K' hJ hM
      by_cases hk : k0 < 0
      · rw [decide_eq_true hk] at H14
        refine wp_cond (t := true) (H14.ev (x := .tmp 82) rfl) ?_
        simp only [if_true]
        repeat (go_not_at_region 20; go_step)
        refine wp_region_lit ?_
        refine h_op H14 rfl (wn rfl) (R_mv H14 rfl rfl) rfl (P9 83 16 0 1 5 6 7 8 9 rfl rfl rfl rfl rfl rfl rfl rfl rfl) fun a15 H15 => ?_
        clear H14
        refine h_op H15 rfl (wn rfl) (R_mv H15 rfl rfl) rfl (P10 84 83 16 0 1 5 6 7 8 9 rfl rfl rfl rfl rfl rfl rfl rfl rfl rfl) fun a16 H16 => ?_
        clear H15
        refine h_op H16 rfl (wn rfl) (R_bin H16 rfl rfl rfl (B_add Try.underlying3 _ _ (by omega) (by omega))) rfl (P9 85 16 0 1 5 6 7 8 9 rfl rfl rfl rfl rfl rfl rfl rfl rfl) fun a17 H17 => ?_
        clear H16
        refine h_op H17 rfl (wn rfl) (R_bin H17 rfl rfl rfl (B_add Try.underlying3 _ _ (by omega) (by omega))) rfl (P9 86 16 0 1 5 6 7 8 9 rfl rfl rfl rfl rfl rfl rfl rfl rfl) fun a18 H18 => ?_
        clear H17
        refine h_op H18 rfl (wn rfl) (R_as H18 rfl rfl) rfl (P8 16 0 1 5 6 7 8 9 rfl rfl rfl rfl rfl rfl rfl rfl) fun a19 H19 => ?_
        clear H18
        refine h_end ?_
        obtain ⟨k, hkk⟩ : ∃ k : Nat, k0 + (i : Nat) + 1 = (k : Int) := ⟨(k0 + (i : Nat) + 1).toNat, by omega⟩
        rw [hkk] at H19
        exact hM _ _ (Met.intro (hJ _ _ ⟨k, by omega, H19.pick _ (P8 0 1 5 6 7 8 9 16 rfl rfl rfl rfl rfl rfl rfl rfl), hL⟩))
      · rw [decide_eq_false hk] at H14
        refine wp_cond (t := false) (H14.ev (x := .tmp 82) rfl) ?_
        simp only [Bool.false_eq_true, if_false]
        refine wp_skip ?_
        obtain ⟨k, hkk⟩ : ∃ k : Nat, k0 = (k : Int) := ⟨k0.toNat, by omega⟩
        rw [hkk] at H14
        exact hM _ _ (Met.intro (hJ _ _ ⟨k, by omega, H14.pick _ (P8 0 1 5 6 7 8 9 16 rfl rfl rfl rfl rfl rfl rfl rfl), hL⟩))
    clear hL H14
    intro ac2 wd hcut
    obtain ⟨k, hki, H0, hL⟩ := hcut
    have hkl : k < l.length := by omega
    have hsk : Sn S1 l[k] := hsn1 _ (by rw [List.mem_take_iff_getElem]; exact ⟨k, by omega, rfl⟩)
    have es := apply_sn hsk
    have hyk : (l[k]).key.size ≤ maxLen := Nat.le_trans (hs2 _ (List.getElem_mem hkl)) (by decide)
    obtain ⟨ad5, hq5, hc5⟩ := (hRl wd _ hL).elem (List.length_map _) hkl
    rw [List.getElem_map] at hc5
    repeat (go_not_at_region 21; go_step)
    refine wp_region_lit ?_
    refine h_op H0 rfl (wn rfl) (R_mv H0 rfl rfl) rfl (P9 88 0 1 5 6 7 8 9 16 rfl rfl rfl rfl rfl rfl rfl rfl rfl) fun a1 H1 => ?_
    clear H0
    refine h_op H1 rfl (wn rfl) (R_mv H1 rfl rfl) rfl (P10 89 88 0 1 5 6 7 8 9 16 rfl rfl rfl rfl rfl rfl rfl rfl rfl rfl) fun a2 H2 => ?_
    clear H1
    refine h_op H2 rfl (wn rfl) (R_mv H2 rfl rfl) rfl (P10 90 89 88 0 1 5 6 7 8 9 rfl rfl rfl rfl rfl rfl rfl rfl rfl rfl) fun a3 H3 => ?_
    clear H2
    refine h_op H3 rfl (wn rfl) (R_ixa H3 rfl rfl rfl (by rw [hq5]; exact ix_itA hkl)) rfl (P9 91 88 0 1 5 6 7 8 9 rfl rfl rfl rfl rfl rfl rfl rfl rfl) fun a4 H4 => ?_
    clear H3
    refine h_op H4 rfl (wn rfl) (R_ld H4 rfl rfl (ld_itA hc5)) rfl (P9 92 88 0 1 5 6 7 8 9 rfl rfl rfl rfl rfl rfl rfl rfl rfl) fun a5 H5 => ?_
    clear H4
    refine h_call H5 rfl (wn rfl) (R_call2 H5 rfl rfl rfl (fun w => by simp [go_sem])) rfl ?_
    refine (apply_any (x := l[k]) hL hyk (by have := hok1.ml; omega) (fun j => by have := hok1.cl j; omega)).mono ?_
    rintro e w6 ⟨v5, X5, he5, hr5, hL2⟩
    clear hL
    rw [es.2.1] at he5
    subst he5
    rw [es.1] at hr5
    rw [es.2.2] at hL2
    have hL := hL2.dropl
    clear hL2
    obtain ⟨q5, c5, rfl, _⟩ := prow_out hr5
    refine ⟨_, rfl, fun a6 HH => ?_⟩
    have H6 := HH _ (P8 93 0 1 5 6 7 8 9 rfl rfl rfl rfl rfl rfl rfl rfl)
    clear HH H5
    refine h_op H6 rfl (wn rfl) (R_mv H6 rfl rfl) rfl (P8 87 0 1 5 6 7 8 9 rfl rfl rfl rfl rfl rfl rfl rfl) fun a7 H7 => ?_
    clear H6
    refine h_op H7 rfl (wn rfl) (R_ext H7 rfl rfl rfl) rfl (P9 94 87 0 1 5 6 7 8 9 rfl rfl rfl rfl rfl rfl rfl rfl rfl) fun a8 H8 => ?_
    clear H7
    refine h_op H8 rfl (wn rfl) (R_ext H8 rfl rfl rfl) rfl (P10 95 94 87 0 1 5 6 7 8 9 rfl rfl rfl rfl rfl rfl rfl rfl rfl rfl) fun a9 H9 => ?_
    clear H8
    refine h_op H9 rfl (wn rfl) (R_ext H9 rfl rfl rfl) rfl (P10 96 95 94 0 1 5 6 7 8 9 rfl rfl rfl rfl rfl rfl rfl rfl rfl rfl) fun a10 H10 => ?_
    clear H9
    refine h_op H10 rfl (wn rfl) (R_as H10 rfl rfl) rfl (P9 96 95 0 1 5 6 7 8 9 rfl rfl rfl rfl rfl rfl rfl rfl rfl) fun a11 H11 => ?_
    clear H10
    refine h_op H11 rfl (wn rfl) (R_as H11 rfl rfl) rfl (P9 18 96 0 1 5 6 7 8 9 rfl rfl rfl rfl rfl rfl rfl rfl rfl) fun a12 H12 => ?_
    clear H11
    refine h_op H12 rfl (wn rfl) (R_as H12 rfl rfl) rfl (P9 19 18 0 1 5 6 7 8 9 rfl rfl rfl rfl rfl rfl rfl rfl rfl) fun a13 H13 => ?_
    clear H12
    refine h_end ?_
    repeat (go_not_at_region 22; go_step)
    refine wp_region_lit ?_
    refine h_op H13 rfl (wn rfl) (R_mv H13 rfl rfl) rfl (P9 97 18 0 1 5 6 7 8 9 rfl rfl rfl rfl rfl rfl rfl rfl rfl) fun a14 H14 => ?_
    clear H13
    refine h_op H14 rfl (wn rfl) (R_mv H14 rfl rfl) rfl (P9 98 18 0 1 5 6 7 8 9 rfl rfl rfl rfl rfl rfl rfl rfl rfl) fun a15 H15 => ?_
    clear H14
    refine h_op H15 rfl (H15.wt rfl rfl rfl) (R_mv H15 rfl rfl) rfl (P9 99 98 0 1 5 6 7 8 9 rfl rfl rfl rfl rfl rfl rfl rfl rfl) fun a16 H16 => ?_
    clear H15
    refine h_op H16 rfl (H16.wt rfl rfl rfl) (R_lenS H16 rfl rfl Try.underlying28) rfl (P9 100 98 0 1 5 6 7 8 9 rfl rfl rfl rfl rfl rfl rfl rfl rfl) fun a17 H17 => ?_
    clear H16
    refine h_op H17 rfl (H17.wt rfl rfl rfl) (R_bin H17 rfl rfl rfl (B_to (y := false) (B_ne Try.underlying3 _ _) rfl)) rfl (P9 101 98 0 1 5 6 7 8 9 rfl rfl rfl rfl rfl rfl rfl rfl rfl) fun a18 H18 => ?_
    clear H17
    refine h_op H18 rfl (wn rfl) (R_pick H18 rfl rfl rfl) rfl (P8 102 0 1 5 6 7 8 9 rfl rfl rfl rfl rfl rfl rfl rfl) fun a19 H19 => ?_
    clear H18
    refine h_end ?_
    repeat (go_not_at_region 9; go_step)
    refine wp_cond_false (H19.ev (x := .tmp 102) rfl) ?_
    repeat (go_not_at_region 9; go_step)
    refine wp_region_lit ?_
    refine h_op H19 rfl (wn rfl) (R_mv H19 rfl rfl) rfl (P8 34 0 1 5 6 7 8 9 rfl rfl rfl rfl rfl rfl rfl rfl) fun a20 H20 => ?_
    clear H19
    refine h_op H20 rfl (wn rfl) (R_bin H20 rfl rfl rfl (B_add Try.underlying3 _ _ (by omega) (by omega))) rfl (P8 35 0 1 5 6 7 8 9 rfl rfl rfl rfl rfl rfl rfl rfl) fun a21 H21 => ?_
    clear H20
    refine h_op H21 rfl (wn rfl) (R_as H21 rfl rfl) rfl (P7 9 0 1 5 6 7 8 rfl rfl rfl rfl rfl rfl rfl) fun a22 H22 => ?_
    clear H21
    refine h_end ?_
    exact ⟨l.length - (i + 1), by omega, (HI.out _ _ _).2 ⟨i + 1, S1, Z1, va2, vb2, Xa2, Xb2, rfl, by omega, H22.pick _ (P7 0 1 5 6 7 8 9 rfl rfl rfl rfl rfl rfl rfl), hok1, hsn1, hzl1, hra2, hrb2, hL⟩⟩
  · repeat (go_not_at_region 8; go_step)
    refine wp_region_lit ?_
    refine h_op H0 rfl (wn rfl) (R_mv H0 rfl rfl) rfl (P8 30 0 1 5 6 7 8 9 rfl rfl rfl rfl rfl rfl rfl rfl) fun a1 H1 => ?_
    clear H0
    refine h_op H1 rfl (wn rfl) (R_mv H1 rfl rfl) rfl (P9 31 30 0 1 5 6 7 8 9 rfl rfl rfl rfl rfl rfl rfl rfl rfl) fun a2 H2 => ?_
    clear H1
    refine h_op H2 rfl (wn rfl) (R_lenS H2 rfl rfl Try.underlying22) rfl (P9 32 30 0 1 5 6 7 8 9 rfl rfl rfl rfl rfl rfl rfl rfl rfl) fun a3 H3 => ?_
    clear H2
    refine h_op H3 rfl (wn rfl) (R_bin H3 rfl rfl rfl (B_to (y := false) (B_lt Try.underlying3 _ _) (decide_eq_false (by omega)))) rfl (P8 33 0 1 5 6 7 8 9 rfl rfl rfl rfl rfl rfl rfl rfl) fun a4 H4 => ?_
    clear H3
    refine h_end ?_
    repeat (go_not_at_region 24; go_step)
    refine wp_cond_false (H4.ev (x := .tmp 33) rfl) ?_
    have hml := hok.ml
    obtain ⟨qa, ca, rfl, hca⟩ := prow_out hra
    obtain ⟨qb, cb, rfl, hcb⟩ := prow_out hrb
    repeat (go_not_at_region 24; go_step)
    refine wp_region_lit ?_
    refine h_op H4 rfl (wn rfl) (R_mv H4 rfl rfl) rfl (P4 103 5 6 8 rfl rfl rfl rfl) fun a5 H5 => ?_
    clear H4
    refine h_op H5 rfl (wn rfl) (R_mv H5 rfl rfl) rfl (P4 104 103 5 6 rfl rfl rfl rfl) fun a6 H6 => ?_
    clear H5
    refine h_call H6 rfl (wn rfl) (R_call2 H6 rfl rfl rfl (fun w => by simp [go_sem])) rfl ?_
    refine (rsame_any hL (fun w h => hca W _ w (LV.p1 (X1 := []) h)) (fun w h => hcb W _ w (LV.p1 (X1 := []) (LV.sw h))) (by omega) (by omega)).mono ?_
    rintro e w7 ⟨he, hL2⟩
    rw [decide_eq_true rfl] at he
    subst he
    clear hL
    have hL := hL2
    clear hL2
    refine ⟨_, rfl, fun a7 HH => ?_⟩
    have H7 := HH _ (P3 105 5 6 rfl rfl rfl)
    clear HH H6
    refine h_op H7 rfl (wn rfl) (R_mv H7 rfl rfl) rfl (P3 106 5 6 rfl rfl rfl) fun a8 H8 => ?_
    clear H7
    refine h_op H8 rfl (H8.wt rfl rfl rfl) (R_mv H8 rfl rfl) rfl (P3 107 106 6 rfl rfl rfl) fun a9 H9 => ?_
    clear H8
    refine h_op H9 rfl (H9.wt rfl rfl rfl) (R_mv H9 rfl rfl) rfl (P3 108 107 106 rfl rfl rfl) fun a10 H10 => ?_
    clear H9
    refine h_call H10 rfl (H10.wt rfl rfl rfl) (R_call2 H10 rfl rfl rfl (fun w => by simp [go_sem])) rfl ?_
    refine (shsame_any hL (by omega) (by omega) (fun j => hok.cd (by omega) j) (fun j => hok.cd (by omega) j)).mono ?_
    rintro e w11 ⟨he, hL2⟩
    rw [sameS_refl] at he
    subst he
    clear hL
    have hL := hL2
    clear hL2
    refine ⟨_, rfl, fun a11 HH => ?_⟩
    have H11 := HH _ (P2 109 106 rfl rfl)
    clear HH H10
    refine h_op H11 rfl (wn rfl) (R_pick H11 rfl rfl rfl) rfl (P1 110 rfl) fun a12 H12 => ?_
    clear H11
    refine h_op H12 rfl (wn rfl) (R_mv H12 rfl rfl) rfl (P1 111 rfl) fun a13 H13 => ?_
    clear H12
    refine h_call H13 rfl (H13.wt rfl rfl rfl) (R_call0 H13 rfl (fun w => by simp [go_sem])) rfl ?_
    refine wakes_ok.mono ?_
    rintro e w14 ⟨rfl, hb⟩
    replace hL := hL.call hb
    clear hb
    refine ⟨_, rfl, fun a14 HH => ?_⟩
    have H14 := HH _ (P2 112 111 rfl rfl)
    clear HH H13
    refine h_op H14 rfl (wn rfl) (R_pick H14 rfl rfl rfl) rfl (P1 113 rfl) fun a15 H15 => ?_
    clear H14
    refine h_op H15 rfl (wn rfl) (R_as H15 rfl rfl) rfl (P1 4 rfl) fun a16 H16 => ?_
    clear H15
    refine h_end ?_
    repeat (go_not_at_region 999; go_step)
    exact H16.ret1 rfl rfl ⟨rfl, hL.1⟩
end
end Go.Proofs.Ytnjfjdfjheiocaa
