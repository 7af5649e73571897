/-
  SourceAnyRow: its walk.
-/
import Derived.Test.YthkeiclhllikjaaGreatSvQ
set_option linter.unusedSimpArgs false
set_option linter.unusedVariables false
namespace Go.Proofs.YthkeiclhllikjaaGreat
open Go.RowKit
def T5 : PTab := ⟨1, 3, [0, 1, 2, 0, 1]⟩
theorem newB5 {n : Nat} (h : n < 4) : newB (n : Nat) T5 = true := by
  unfold newB
  rw [decide_eq_false (by omega), decide_eq_false (by omega), show rightT T5 = true by kernel_rfl]
  rfl
section
variable {W w : World}
theorem u8_keep {x : Nat} (h : x < 256) : IntKind.wrap .u8 ((x : Nat) : Int) = (x : Int) := by
  simp [IntKind.wrap, IntKind.signed, IntKind.bits]
  omega
theorem B8_remN {X Y : Operand} (x y : Nat) (h0 : y ≠ 0) (h2 : x < 256) : ((do eqGuard .rem 5 X Y (.int .u8 (x : Nat)) (.int .u8 (y : Nat)); binOp .rem 5 (.int .u8 (x : Nat)) (.int .u8 (y : Nat))) : Sem Value).run Tryz.prog w = .ok (.int .u8 (x % y : Nat)) w := by
  have hm : x % y ≤ x := Nat.mod_le x y
  have e : IntKind.wrap .u8 ((x % y : Nat) : Int) = ((x % y : Nat) : Int) := u8_keep (by omega)
  have hy : ¬ ((y : Int) = 0) := by omega
  simp [go_sem, hy, h0, Int.tmod_eq_emod_of_nonneg, ← Int.natCast_emod, e]
theorem B_toI {s : Sem Value} {w' : World} {x y : Int} (h : s.run Tryz.prog w = .ok (.int .i64 x) w') (e : x = y) : s.run Tryz.prog w = .ok (.int .i64 y) w' := e ▸ h
theorem bs_5 {a b c d e : Int} : (Instr.buildSlice 26 5 #[(0, .int .i64 a), (1, .int .i64 b), (2, .int .i64 c), (3, .int .i64 d), (4, .int .i64 e)]).run Tryz.prog w = .ok (.slice (some ⟨w.heap.size, 0, none⟩) 5 5) (w.alloc (.cells #[.int .i64 a, .int .i64 b, .int .i64 c, .int .i64 d, .int .i64 e] 3)) := by
  simp [go_sem]
theorem R_bs5 {P : Program} {a : Act} {w w' : World} {n : Nat} {m : List (Nat × Value)} {o : Oper} {v : Value} {t : TypeId} {k : Nat} {x0 x1 x2 x3 x4 : Operand} {v0 v1 v2 v3 v4 : Value} (H : Fr a n m) (ho : o.op = .buildSlice t k #[(0, x0), (1, x1), (2, x2), (3, x3), (4, x4)]) (h0 : ev1 m x0 = some v0) (h1 : ev1 m x1 = some v1) (h2 : ev1 m x2 = some v2) (h3 : ev1 m x3 = some v3) (h4 : ev1 m x4 = some v4) (hl : (Instr.buildSlice t k #[(0, v0), (1, v1), (2, v2), (3, v3), (4, v4)]).run P w = .ok v w') : (execOp a.eval o).run P w = .ok (.value v) w' := by
  have e0 := H.ev h0
  have e1 := H.ev h1
  have e2 := H.ev h2
  have e3 := H.ev h3
  have e4 := H.ev h4
  unfold execOp
  rw [ho]
  generalize a.eval = ρ at *
  simp only [List.map_toArray, List.map_cons, List.map_nil, e0, e1, e2, e3, e4]
  exact fr_v hl
abbrev row5 : Array Value := #[.int .i64 0, .int .i64 1, .int .i64 2, .int .i64 0, .int .i64 1]
theorem row5_is {g : Nat} : RowIs 3 (.slice (some ⟨g, 0, none⟩) 5 5) (ints T5.own) [(g, row5, 3)] := .inr ⟨g, 5, row5, rfl, rfl, Nat.le_refl _, by unfold maxLen; omega, rfl, rfl⟩
set_option maxRecDepth 100000 in
set_option maxHeartbeats 4000000 in
theorem anyRow_law {n0 turn : Nat} {l : List PItem} {cs : List Nat} {v1 v2 : Value} (hn0 : n0 < 256) (htu : turn < 256) (hl : RdC W 8 v1 (l.map itC)) (hok : ∀ x ∈ l, x.OkN) (hll : l.length ≤ maxLen) (hc : RdC W 1 v2 (cs.map u8C)) (hcs : ∀ x ∈ cs, x < 256) (hcl : cs.length ≤ maxLen) :
    Calls Tryz.prog 7 #[.int .u8 (n0 : Nat), v1, v2, .int .u8 (turn : Nat)] W fun e W' => e = .returned (.bool true) ∧ Below W.heap.size W W' := by
  have hcw : ∀ w, Below W.heap.size W w → RdC w 1 v2 (cs.map u8C) := fun w hb => hc.kept fun k hk => hb.block k hk
  have hlw : ∀ w, Below W.heap.size W w → RdC w 8 v1 (l.map itC) := fun w hb => hl.kept fun k hk => hb.block k hk
  obtain ⟨A1, c1, rfl⟩ := hl.slc
  obtain ⟨A2, c2, rfl⟩ := hc.slc
  rw [List.length_map] at hcw hlw
  rw [List.length_map, List.length_map]
  clear hl hc
  have ml : maxLen ≤ 9223372036854775807 := by unfold maxLen; omega
  have hL := LV.init W
  go_enter Tryz.func7, Tryz.ntmps7
  refine wp_fr (n := 122) (m := [(0, _), (1, _), (2, _), (3, _)]) ⟨rfl, rfl, by intro p hp; simp only [List.mem_cons, List.not_mem_nil, or_false] at hp; rcases hp with rfl | rfl | rfl | rfl <;> rfl⟩ fun a0 H0 => ?_
  repeat (go_not_at_region 0; go_step)
  refine wp_region_lit ?_
  refine h_op H0 rfl (wn rfl) (R_as H0 rfl rfl) rfl (P4 0 1 2 3 rfl rfl rfl rfl) fun a1 H1 => ?_
  clear H0
  refine h_end ?_
  repeat (go_not_at_region 1; go_step)
  refine wp_region_lit ?_
  refine h_call H1 rfl (wn rfl) (R_call0 H1 rfl (fun w => by simp [go_sem])) rfl ?_
  refine awake_ok.mono ?_
  rintro e w2 ⟨rfl, hb⟩
  replace hL := hL.call hb
  clear hb
  refine ⟨_, rfl, fun a2 HH => ?_⟩
  have H2 := HH _ (P5 21 0 1 2 3 rfl rfl rfl rfl rfl)
  clear HH H1
  refine h_op H2 rfl (wn rfl) (R_not H2 rfl rfl) rfl (P5 22 0 1 2 3 rfl rfl rfl rfl rfl) fun a3 H3 => ?_
  clear H2
  refine h_end ?_
  repeat (go_not_at_region 3; go_step)
  refine wp_cond_false (H3.ev (x := .tmp 22) rfl) ?_
  repeat (go_not_at_region 3; go_step)
  refine wp_region_lit ?_
  refine h_op H3 rfl (wn rfl) (R_mv H3 rfl rfl) rfl (P5 23 0 1 2 3 rfl rfl rfl rfl rfl) fun a4 H4 => ?_
  clear H3
  refine h_op H4 rfl (wn rfl) (R_lenS H4 rfl rfl Tryz.underlying71) rfl (P5 24 0 1 2 3 rfl rfl rfl rfl rfl) fun a5 H5 => ?_
  clear H4
  refine h_op H5 rfl (wn rfl) (R_bin H5 rfl rfl rfl (B_gt Tryz.underlying3 _ _)) rfl (P5 25 0 1 2 3 rfl rfl rfl rfl rfl) fun a6 H6 => ?_
  clear H5
  refine h_op H6 rfl (wn rfl) (R_mv H6 rfl rfl) rfl (P5 26 0 1 2 3 rfl rfl rfl rfl rfl) fun a7 H7 => ?_
  clear H6
  replace H7 := H7.pick [(0, .int .u8 (n0 : Nat)), (1, .slice A1 l.length c1), (2, .slice A2 cs.length c2), (3, .int .u8 (turn : Nat)), (26, .bool (decide ((l.length : Int) > 40)))] (P5 0 1 2 3 26 rfl rfl rfl rfl rfl)
  generalize ht0 : (decide ((l.length : Int) > 40)) = t0 at H7
  refine wpList_cut [_, _, _, _] (R := fun a' w' => Fr a' 122 [(0, .int .u8 (n0 : Nat)), (1, .slice A1 l.length c1), (2, .slice A2 cs.length c2), (3, .int .u8 (turn : Nat)), (30, .bool (t0 || (decide ((cs.length : Int) > 40))))] ∧ LV W [] w') ?_ ?_
  · cases t0
    · refine h_op H7 rfl (H7.wt rfl rfl rfl) (R_mv H7 rfl rfl) rfl (P6 27 0 1 2 3 26 rfl rfl rfl rfl rfl rfl) fun a8 H8 => ?_
      clear H7
      refine h_op H8 rfl (H8.wt rfl rfl rfl) (R_lenS H8 rfl rfl Tryz.underlying72) rfl (P6 28 0 1 2 3 26 rfl rfl rfl rfl rfl rfl) fun a9 H9 => ?_
      clear H8
      refine h_op H9 rfl (H9.wt rfl rfl rfl) (R_bin H9 rfl rfl rfl (B_gt Tryz.underlying3 _ _)) rfl (P6 29 0 1 2 3 26 rfl rfl rfl rfl rfl rfl) fun a10 H10 => ?_
      clear H9
      refine h_op H10 rfl (wn rfl) (R_pick H10 rfl rfl rfl) rfl (P5 30 0 1 2 3 rfl rfl rfl rfl rfl) fun a11 H11 => ?_
      clear H10
      exact h_end ⟨H11.pick _ (P5 0 1 2 3 30 rfl rfl rfl rfl rfl), hL⟩
    · refine h_skip H7 rfl (H7.wf rfl rfl rfl) rfl (P6 27 0 1 2 3 26 rfl rfl rfl rfl rfl rfl) fun a8 H8 => ?_
      clear H7
      refine h_skip H8 rfl (H8.wf rfl rfl rfl) rfl (P6 28 0 1 2 3 26 rfl rfl rfl rfl rfl rfl) fun a9 H9 => ?_
      clear H8
      refine h_skip H9 rfl (H9.wf rfl rfl rfl) rfl (P6 29 0 1 2 3 26 rfl rfl rfl rfl rfl rfl) fun a10 H10 => ?_
      clear H9
      refine h_op H10 rfl (wn rfl) (R_pick H10 rfl rfl rfl) rfl (P5 30 0 1 2 3 rfl rfl rfl rfl rfl) fun a11 H11 => ?_
      clear H10
      exact h_end ⟨H11.pick _ (P5 0 1 2 3 30 rfl rfl rfl rfl rfl), hL⟩
  clear hL H7
  rintro a12 wx ⟨H12, hL⟩
  generalize ht1 : (t0 || (decide ((cs.length : Int) > 40))) = t1 at H12
  refine h_end ?_
  cases t1
  rotate_left
  · repeat (go_not_at_region 4; go_step)
    refine wp_cond_true (H12.ev (x := .tmp 30) rfl) ?_
    repeat (go_not_at_region 4; go_step)
    refine wp_region_lit ?_
    refine h_op H12 rfl (wn rfl) (R_as H12 rfl rfl) rfl (P1 8 rfl) fun a13 H13 => ?_
    clear H12
    refine h_end ?_
    repeat (go_not_at_region 999; go_step)
    exact H13.ret1 rfl rfl ⟨rfl, hL.1⟩
  have hsm : l.length ≤ 40 ∧ cs.length ≤ 40 := by
    rw [← ht0] at ht1
    simp only [Bool.or_eq_false_iff, decide_eq_false_iff_not] at ht1
    omega
  clear ht0 ht1
  obtain ⟨hl40, hc40⟩ := hsm
  repeat (go_not_at_region 5; go_step)
  refine wp_cond_false (H12.ev (x := .tmp 30) rfl) ?_
  repeat (go_not_at_region 5; go_step)
  refine wp_region_lit ?_
  refine h_op H12 rfl (wn rfl) (R_as H12 rfl rfl) rfl (P5 9 0 1 2 3 rfl rfl rfl rfl rfl) fun a13 H13 => ?_
  clear H12
  refine h_end ?_
  repeat (go_not_at_region 6; go_step)
  obtain ⟨I, hI⟩ : ∃ I : Nat → Act → World → Prop, ∀ n a' w', I n a' w' ↔ ∃ j : Nat, n = l.length - j ∧ j ≤ l.length ∧ Fr a' 122 [(0, .int .u8 (n0 : Nat)), (1, .slice A1 l.length c1), (2, .slice A2 cs.length c2), (3, .int .u8 (turn : Nat)), (9, .int .i64 (j : Nat))] ∧ LV W [] w' ∧ ∀ i (h : i < l.length), i < j → l[i].key.size ≤ 3000 := ⟨_, fun _ _ _ => Iff.rfl⟩
  have HI := Lib.hid hI
  clear hI
  refine wp_loop_ghost I (l.length) ((HI.out _ _ _).2 ⟨0, rfl, Nat.zero_le _, H13.pick _ (P5 0 1 2 3 9 rfl rfl rfl rfl rfl), hL, fun i h h0 => absurd h0 (Nat.not_lt_zero _)⟩) ?_
  clear hL H13
  intro n a1 wl hi
  obtain ⟨j, rfl, hj, H0, hL, hkey⟩ := (HI.out _ _ _).1 hi
  clear hi
  by_cases hjl : j < l.length
  · repeat (go_not_at_region 6; go_step)
    refine wp_region_lit ?_
    refine h_op H0 rfl (wn rfl) (R_mv H0 rfl rfl) rfl (P6 31 0 1 2 3 9 rfl rfl rfl rfl rfl rfl) fun a1 H1 => ?_
    clear H0
    refine h_op H1 rfl (wn rfl) (R_mv H1 rfl rfl) rfl (P7 32 31 0 1 2 3 9 rfl rfl rfl rfl rfl rfl rfl) fun a2 H2 => ?_
    clear H1
    refine h_op H2 rfl (wn rfl) (R_lenS H2 rfl rfl Tryz.underlying71) rfl (P7 33 31 0 1 2 3 9 rfl rfl rfl rfl rfl rfl rfl) fun a3 H3 => ?_
    clear H2
    refine h_op H3 rfl (wn rfl) (R_bin H3 rfl rfl rfl (B_to (y := true) (B_lt Tryz.underlying3 _ _) (decide_eq_true (by omega)))) rfl (P6 34 0 1 2 3 9 rfl rfl rfl rfl rfl rfl) fun a4 H4 => ?_
    clear H3
    refine h_end ?_
    repeat (go_not_at_region 8; go_step)
    refine wp_cond_true (H4.ev (x := .tmp 34) rfl) ?_
    repeat (go_not_at_region 8; go_step)
    obtain ⟨a, hae, hel⟩ := (hlw _ hL.1).elem (List.length_map _) hjl
    subst hae
    have he4 := hel 4 (.string l[j].key) (by rw [List.getElem_map]; rfl)
    refine wp_region_lit ?_
    refine h_op H4 rfl (wn rfl) (R_mv H4 rfl rfl) rfl (P6 37 0 1 2 3 9 rfl rfl rfl rfl rfl rfl) fun a5 H5 => ?_
    clear H4
    refine h_op H5 rfl (wn rfl) (R_mv H5 rfl rfl) rfl (P7 38 37 0 1 2 3 9 rfl rfl rfl rfl rfl rfl rfl) fun a6 H6 => ?_
    clear H5
    refine h_op H6 rfl (wn rfl) (R_ixa H6 rfl rfl rfl (ix_itA hjl)) rfl (P6 39 0 1 2 3 9 rfl rfl rfl rfl rfl rfl) fun a7 H7 => ?_
    clear H6
    refine h_op H7 rfl (wn rfl) (R_fa H7 rfl rfl (fi_itA (by decide))) rfl (P6 40 0 1 2 3 9 rfl rfl rfl rfl rfl rfl) fun a8 H8 => ?_
    clear H7
    refine h_op H8 rfl (wn rfl) (R_ld H8 rfl rfl (ld_strA he4)) rfl (P6 41 0 1 2 3 9 rfl rfl rfl rfl rfl rfl) fun a9 H9 => ?_
    clear H8
    refine h_op H9 rfl (wn rfl) (R_len H9 rfl rfl Tryz.underlying9) rfl (P6 42 0 1 2 3 9 rfl rfl rfl rfl rfl rfl) fun a10 H10 => ?_
    clear H9
    refine h_op H10 rfl (wn rfl) (R_bin H10 rfl rfl rfl (B_gt Tryz.underlying3 _ _)) rfl (P6 43 0 1 2 3 9 rfl rfl rfl rfl rfl rfl) fun a11 H11 => ?_
    clear H10
    refine h_end ?_
    by_cases hk : l[j].key.size ≤ 3000
    rotate_left
    · rw [decide_eq_true (show ((l[j].key.size : Nat) : Int) > 3000 by omega)] at H11
      repeat (go_not_at_region 9; go_step)
      refine wp_cond_true (H11.ev (x := .tmp 43) rfl) ?_
      repeat (go_not_at_region 9; go_step)
      refine wp_region_lit ?_
      refine h_op H11 rfl (wn rfl) (R_as H11 rfl rfl) rfl (P1 8 rfl) fun a12 H12 => ?_
      clear H11
      refine h_end ?_
      repeat (go_not_at_region 999; go_step)
      exact H12.ret1 rfl rfl ⟨rfl, hL.1⟩
    rw [decide_eq_false (show ¬ ((l[j].key.size : Nat) : Int) > 3000 by omega)] at H11
    repeat (go_not_at_region 7; go_step)
    refine wp_cond_false (H11.ev (x := .tmp 43) rfl) ?_
    repeat (go_not_at_region 7; go_step)
    refine wp_region_lit ?_
    refine h_op H11 rfl (wn rfl) (R_mv H11 rfl rfl) rfl (P6 35 0 1 2 3 9 rfl rfl rfl rfl rfl rfl) fun a12 H12 => ?_
    clear H11
    refine h_op H12 rfl (wn rfl) (R_bin H12 rfl rfl rfl (B_add Tryz.underlying3 _ _ (by omega) (by omega))) rfl (P6 36 0 1 2 3 9 rfl rfl rfl rfl rfl rfl) fun a13 H13 => ?_
    clear H12
    refine h_op H13 rfl (wn rfl) (R_as H13 rfl rfl) rfl (P5 9 0 1 2 3 rfl rfl rfl rfl rfl) fun a14 H14 => ?_
    clear H13
    refine h_end ?_
    repeat (go_not_at_region 999; go_step)
    refine ⟨l.length - (j + 1), by omega, (HI.out _ _ _).2 ⟨j + 1, rfl, hjl, H14.pick _ (P5 0 1 2 3 9 rfl rfl rfl rfl rfl), hL, fun i h h0 => ?_⟩⟩
    rcases Nat.lt_succ_iff_lt_or_eq.1 h0 with h0 | rfl
    · exact hkey i h h0
    · exact hk
  · repeat (go_not_at_region 6; go_step)
    refine wp_region_lit ?_
    refine h_op H0 rfl (wn rfl) (R_mv H0 rfl rfl) rfl (P6 31 0 1 2 3 9 rfl rfl rfl rfl rfl rfl) fun a1 H1 => ?_
    clear H0
    refine h_op H1 rfl (wn rfl) (R_mv H1 rfl rfl) rfl (P7 32 31 0 1 2 3 9 rfl rfl rfl rfl rfl rfl rfl) fun a2 H2 => ?_
    clear H1
    refine h_op H2 rfl (wn rfl) (R_lenS H2 rfl rfl Tryz.underlying71) rfl (P7 33 31 0 1 2 3 9 rfl rfl rfl rfl rfl rfl rfl) fun a3 H3 => ?_
    clear H2
    refine h_op H3 rfl (wn rfl) (R_bin H3 rfl rfl rfl (B_to (y := false) (B_lt Tryz.underlying3 _ _) (decide_eq_false (by omega)))) rfl (P6 34 0 1 2 3 9 rfl rfl rfl rfl rfl rfl) fun a4 H4 => ?_
    clear H3
    refine h_end ?_
    repeat (go_not_at_region 10; go_step)
    refine wp_cond_false (H4.ev (x := .tmp 34) rfl) ?_
    have hkall : ∀ x ∈ l, x.Ok := fun x hx => by
      obtain ⟨i, hi, rfl⟩ := List.mem_iff_getElem.1 hx
      exact (hok _ hx).ok (hkey i hi (by omega))
    clear hkey HI
    have hn4 : n0 % 4 < 4 := Nat.mod_lt _ (by decide)
    repeat (go_not_at_region 10; go_step)
    refine wp_region_lit ?_
    refine h_op H4 rfl (wn rfl) (R_mv H4 rfl rfl) rfl (P4 44 1 2 3 rfl rfl rfl rfl) fun a5 H5 => ?_
    clear H4
    refine h_op H5 rfl (wn rfl) (R_bin H5 rfl rfl rfl (B8_remN _ 4 (by decide) hn0)) rfl (P4 45 1 2 3 rfl rfl rfl rfl) fun a6 H6 => ?_
    clear H5
    refine h_op H6 rfl (wn rfl) (R_cv H6 rfl rfl (cv_u8i (Nat.lt_of_lt_of_le hn4 (by decide)))) rfl (P4 46 1 2 3 rfl rfl rfl rfl) fun a7 H7 => ?_
    clear H6
    refine h_op H7 rfl (wn rfl) (R_as H7 rfl rfl) rfl (P4 10 1 2 3 rfl rfl rfl rfl) fun a8 H8 => ?_
    clear H7
    refine h_end ?_
    repeat (go_not_at_region 11; go_step)
    refine wp_region_lit ?_
    refine h_opS [bk (wl.heap.size) row5 3] H8 rfl (wn rfl) (R_bs5 H8 rfl rfl rfl rfl rfl rfl bs_5) (hL.alloc _ _) rfl (P5 47 10 1 2 3 rfl rfl rfl rfl rfl) fun a9 w9 H9 hL' => ?_
    replace hL := hL'
    clear H8 hL'
    refine h_op H9 rfl (wn rfl) (R_bd3 H9 rfl rfl rfl rfl (bd_tb (o := T5.own))) rfl (P5 48 10 1 2 3 rfl rfl rfl rfl rfl) fun a10 H10 => ?_
    clear H9
    refine h_opS [bk w9.heap.size (tbC ⟨0, 0, []⟩ (.slice none 0 0)) 28, bk wl.heap.size row5 3] H10 rfl (wn rfl) (R_alloc rfl al_tb) (hL.alloc _ _) rfl (P6 11 48 10 1 2 3 rfl rfl rfl rfl rfl rfl) fun a11 w11 H11 hL' => ?_
    replace hL := hL'
    clear H10 hL'
    refine h_stS [bk w9.heap.size (tbC T5 (.slice (some ⟨wl.heap.size, 0, none⟩) 5 5)) 28, bk wl.heap.size row5 3] H11 rfl (wn rfl) (R_st H11 rfl rfl rfl (st_tb (t := ⟨0, 0, []⟩) (p := none) (l := 0) (c := 0) hL.at_)) (hL.row _) fun a12 w12 H12 hL' => ?_
    replace hL := hL'
    clear H11 hL'
    refine h_end ?_
    obtain ⟨gt, hgt⟩ : ∃ g, g = w9.heap.size := ⟨_, rfl⟩
    obtain ⟨gr, hgr⟩ : ∃ g, g = wl.heap.size := ⟨_, rfl⟩
    rw [← hgt] at H12
    rw [← hgt, ← hgr] at hL
    clear hgt hgr
    repeat (go_not_at_region 12; go_step)
    refine wp_region_lit ?_
    refine h_op H12 rfl (wn rfl) (R_mv H12 rfl rfl) rfl (P6 50 11 10 1 2 3 rfl rfl rfl rfl rfl rfl) fun a13 H13 => ?_
    clear H12
    refine h_op H13 rfl (wn rfl) (R_ld H13 rfl rfl (ld_tb (t := T5) hL.at_)) rfl (P7 51 50 11 10 1 2 3 rfl rfl rfl rfl rfl rfl rfl) fun a14 H14 => ?_
    clear H13
    refine h_call H14 rfl (wn rfl) (R_call2 H14 rfl rfl rfl (fun w => by simp [go_sem])) rfl ?_
    have hrt : Rd _ (.slice (some ⟨gr, 0, none⟩) 5 5) T5.own := rd_row (L := [bk gt (tbC T5 (.slice (some ⟨gr, 0, none⟩) 5 5)) 28]) row5_is _ hL.swap
    refine (new_any (t := T5) (src := ((n0 % 4 : Nat) : Int)) hrt (by decide)).mono ?_
    rintro e w15 ⟨hA, _⟩
    obtain ⟨va, Ra, pa, oa, aa, rfl, hra, hL3⟩ := hA (newB5 hn4)
    clear hA hrt
    obtain ⟨LX, hLX⟩ : ∃ LX, LX = lift Ra ++ [bk gt (tbC T5 (.slice (some ⟨gr, 0, none⟩) 5 5)) 28, bk gr row5 3] := ⟨_, rfl⟩
    replace hL : LV W (srcs pa (⟨((n0 % 4 : Nat) : Int), T5, []⟩ : PSrc) va oa aa LX) w15 := by rw [hLX]; exact hL.joinV hL3
    clear hL3
    refine ⟨_, rfl, fun a15 HH => ?_⟩
    have H15 := HH _ (P6 52 11 10 1 2 3 rfl rfl rfl rfl rfl rfl)
    clear HH H14
    refine h_op H15 rfl (wn rfl) (R_mv H15 rfl rfl) rfl (P6 49 11 10 1 2 3 rfl rfl rfl rfl rfl rfl) fun a16 H16 => ?_
    clear H15
    refine h_op H16 rfl (wn rfl) (R_ext H16 rfl rfl rfl) rfl (P7 53 49 11 10 1 2 3 rfl rfl rfl rfl rfl rfl rfl) fun a17 H17 => ?_
    clear H16
    refine h_op H17 rfl (wn rfl) (R_ext H17 rfl rfl rfl) rfl (P7 54 53 11 10 1 2 3 rfl rfl rfl rfl rfl rfl rfl) fun a18 H18 => ?_
    clear H17
    refine h_op H18 rfl (wn rfl) (R_as H18 rfl rfl) rfl (P7 12 54 11 10 1 2 3 rfl rfl rfl rfl rfl rfl rfl) fun a19 H19 => ?_
    clear H18
    refine h_op H19 rfl (wn rfl) (R_as H19 rfl rfl) rfl (P6 12 11 10 1 2 3 rfl rfl rfl rfl rfl rfl) fun a20 H20 => ?_
    clear H19
    refine h_end ?_
    repeat (go_not_at_region 13; go_step)
    refine wp_region_lit ?_
    refine h_op H20 rfl (wn rfl) (R_mv H20 rfl rfl) rfl (P7 56 12 11 10 1 2 3 rfl rfl rfl rfl rfl rfl rfl) fun a21 H21 => ?_
    clear H20
    refine h_op H21 rfl (wn rfl) (R_ld H21 rfl rfl (ld_tb (t := T5) (hL.mem_at (g := gt) (A := (tbC T5 (.slice (some ⟨gr, 0, none⟩) 5 5))) (t := 28) (by rw [hLX]; simp)))) rfl (P7 57 56 12 10 1 2 3 rfl rfl rfl rfl rfl rfl rfl) fun a22 H22 => ?_
    clear H21
    refine h_call H22 rfl (wn rfl) (R_call2 H22 rfl rfl rfl (fun w => by simp [go_sem])) rfl ?_
    have hrt : Rd _ (.slice (some ⟨gr, 0, none⟩) 5 5) T5.own := rd_row (L := []) row5_is _ (hL.only (q := bk gr row5 3) (by rw [hLX]; simp))
    refine (new_any (t := T5) (src := ((n0 % 4 : Nat) : Int)) hrt (by decide)).mono ?_
    rintro e w23 ⟨hA, _⟩
    obtain ⟨vb, Rb, pb, ob, ab, rfl, hrb, hL3⟩ := hA (newB5 hn4)
    clear hA hrt
    have hT : TwoS W pa oa aa (⟨((n0 % 4 : Nat) : Int), T5, []⟩ : PSrc) pb ob ab (⟨((n0 % 4 : Nat) : Int), T5, []⟩ : PSrc) w23 := two_new hL (fun w h => by rw [hLX] at h; exact rd_row hra w h) hrb rfl hL3
    clear hL3 hL hLX hra hrb
    refine ⟨_, rfl, fun a23 HH => ?_⟩
    have H23 := HH _ (P6 58 12 10 1 2 3 rfl rfl rfl rfl rfl rfl)
    clear HH H22
    refine h_op H23 rfl (wn rfl) (R_mv H23 rfl rfl) rfl (P6 55 12 10 1 2 3 rfl rfl rfl rfl rfl rfl) fun a24 H24 => ?_
    clear H23
    refine h_op H24 rfl (wn rfl) (R_ext H24 rfl rfl rfl) rfl (P7 59 55 12 10 1 2 3 rfl rfl rfl rfl rfl rfl rfl) fun a25 H25 => ?_
    clear H24
    refine h_op H25 rfl (wn rfl) (R_ext H25 rfl rfl rfl) rfl (P7 60 59 12 10 1 2 3 rfl rfl rfl rfl rfl rfl rfl) fun a26 H26 => ?_
    clear H25
    refine h_op H26 rfl (wn rfl) (R_as H26 rfl rfl) rfl (P7 14 60 12 10 1 2 3 rfl rfl rfl rfl rfl rfl rfl) fun a27 H27 => ?_
    clear H26
    refine h_op H27 rfl (wn rfl) (R_as H27 rfl rfl) rfl (P6 14 12 10 1 2 3 rfl rfl rfl rfl rfl rfl) fun a28 H28 => ?_
    clear H27
    refine h_end ?_
    repeat (go_not_at_region 14; go_step)
    refine wp_region_lit ?_
    refine h_op H28 rfl (wn rfl) (R_as H28 rfl rfl) rfl (P7 16 14 12 10 1 2 3 rfl rfl rfl rfl rfl rfl rfl) fun a29 H29 => ?_
    clear H28
    refine h_end ?_
    repeat (go_not_at_region 15; go_step)
    obtain ⟨I, hI⟩ : ∃ I : Nat → Act → World → Prop, ∀ n a' w', I n a' w' ↔ ∃ (j : Nat) (S : PSrc), n = l.length - j ∧ j ≤ l.length ∧ Fr a' 122 [(1, .slice A1 l.length c1), (2, .slice A2 cs.length c2), (3, .int .u8 (turn : Nat)), (10, .int .i64 ((n0 % 4 : Nat) : Int)), (12, .pointer (some ⟨pa, 0, none⟩)), (14, .pointer (some ⟨pb, 0, none⟩)), (16, .int .i64 (j : Nat))] ∧ Fresh S ((n0 % 4 : Nat) : Int) T5 ∧ TwoS W pa oa aa S pb ob ab S w' := ⟨_, fun _ _ _ => Iff.rfl⟩
    have HI := Lib.hid hI
    clear hI
    refine wp_loop_ghost I l.length ((HI.out _ _ _).2 ⟨0, (⟨((n0 % 4 : Nat) : Int), T5, []⟩ : PSrc), rfl, Nat.zero_le _, H29.pick _ (P7 1 2 3 10 12 14 16 rfl rfl rfl rfl rfl rfl rfl), ⟨rfl, rfl, fun p hp => (by cases hp), fun p hp => (by cases hp), Nat.zero_le _⟩, hT⟩) ?_
    clear hT H29
    intro n a1 wl hi
    obtain ⟨j, S, rfl, hj, H0, hS, hT⟩ := (HI.out _ _ _).1 hi
    clear hi
    have hfew := hS.few
    by_cases hjl : j < l.length
    · repeat (go_not_at_region 15; go_step)
      refine wp_region_lit ?_
      refine h_op H0 rfl (wn rfl) (R_mv H0 rfl rfl) rfl (P8 61 1 2 3 10 12 14 16 rfl rfl rfl rfl rfl rfl rfl rfl) fun a1 H1 => ?_
      clear H0
      refine h_op H1 rfl (wn rfl) (R_mv H1 rfl rfl) rfl (P9 62 61 1 2 3 10 12 14 16 rfl rfl rfl rfl rfl rfl rfl rfl rfl) fun a2 H2 => ?_
      clear H1
      refine h_op H2 rfl (wn rfl) (R_lenS H2 rfl rfl Tryz.underlying71) rfl (P9 63 61 1 2 3 10 12 14 16 rfl rfl rfl rfl rfl rfl rfl rfl rfl) fun a3 H3 => ?_
      clear H2
      refine h_op H3 rfl (wn rfl) (R_bin H3 rfl rfl rfl (B_to (y := true) (B_lt Tryz.underlying3 _ _) (decide_eq_true (by omega)))) rfl (P8 64 1 2 3 10 12 14 16 rfl rfl rfl rfl rfl rfl rfl rfl) fun a4 H4 => ?_
      clear H3
      refine h_end ?_
      repeat (go_not_at_region 17; go_step)
      refine wp_cond_true (H4.ev (x := .tmp 64) rfl) ?_
      repeat (go_not_at_region 17; go_step)
      obtain ⟨a, hae, hel⟩ := (hlw _ hT.below).elem (List.length_map _) hjl
      subst hae
      have hld : ∀ w, Below W.heap.size W w → (Instr.loadAt 33 (.pointer (some (a.add (j * 8))))).run Tryz.prog w = .ok (.agg (itC l[j])) w := fun w hb => by
        obtain ⟨a2, hae2, hel2⟩ := (hlw _ hb).elem (List.length_map _) hjl
        cases hae2
        exact ld_itA (x := l[j]) fun k u hu => hel2 k u (by rw [List.getElem_map]; exact hu)
      refine wp_region_lit ?_
      refine h_op H4 rfl (wn rfl) (R_mv H4 rfl rfl) rfl (P8 67 1 2 3 10 12 14 16 rfl rfl rfl rfl rfl rfl rfl rfl) fun a5 H5 => ?_
      clear H4
      refine h_op H5 rfl (wn rfl) (R_mv H5 rfl rfl) rfl (P9 68 67 1 2 3 10 12 14 16 rfl rfl rfl rfl rfl rfl rfl rfl rfl) fun a6 H6 => ?_
      clear H5
      refine h_op H6 rfl (wn rfl) (R_mv H6 rfl rfl) rfl (P10 69 68 67 1 2 3 10 12 14 16 rfl rfl rfl rfl rfl rfl rfl rfl rfl rfl) fun a7 H7 => ?_
      clear H6
      refine h_op H7 rfl (wn rfl) (R_ixa H7 rfl rfl rfl (ix_itA hjl)) rfl (P9 70 67 1 2 3 10 12 14 16 rfl rfl rfl rfl rfl rfl rfl rfl rfl) fun a8 H8 => ?_
      clear H7
      refine h_op H8 rfl (wn rfl) (R_ld H8 rfl rfl (hld _ hT.below)) rfl (P9 71 67 1 2 3 10 12 14 16 rfl rfl rfl rfl rfl rfl rfl rfl rfl) fun a9 H9 => ?_
      clear H8
      refine h_call H9 rfl (wn rfl) (R_call2 H9 rfl rfl rfl (fun w => by simp [go_sem])) rfl ?_
      refine (two_send (x := l[j]) hT (by omega)).mono ?_
      rintro e w10 ⟨rfl, hT2⟩
      replace hT := hT2
      clear hT2
      refine ⟨_, rfl, fun a10 HH => ?_⟩
      have H10 := HH _ (P7 1 2 3 10 12 14 16 rfl rfl rfl rfl rfl rfl rfl)
      clear HH H9
      refine h_end ?_
      repeat (go_not_at_region 18; go_step)
      refine wp_region_lit ?_
      refine h_op H10 rfl (wn rfl) (R_mv H10 rfl rfl) rfl (P8 73 1 2 3 10 12 14 16 rfl rfl rfl rfl rfl rfl rfl rfl) fun a11 H11 => ?_
      clear H10
      refine h_op H11 rfl (wn rfl) (R_mv H11 rfl rfl) rfl (P9 74 73 1 2 3 10 12 14 16 rfl rfl rfl rfl rfl rfl rfl rfl rfl) fun a12 H12 => ?_
      clear H11
      refine h_op H12 rfl (wn rfl) (R_mv H12 rfl rfl) rfl (P10 75 74 73 1 2 3 10 12 14 16 rfl rfl rfl rfl rfl rfl rfl rfl rfl rfl) fun a13 H13 => ?_
      clear H12
      refine h_op H13 rfl (wn rfl) (R_ixa H13 rfl rfl rfl (ix_itA hjl)) rfl (P9 76 73 1 2 3 10 12 14 16 rfl rfl rfl rfl rfl rfl rfl rfl rfl) fun a14 H14 => ?_
      clear H13
      refine h_op H14 rfl (wn rfl) (R_ld H14 rfl rfl (hld _ hT.below)) rfl (P9 77 73 1 2 3 10 12 14 16 rfl rfl rfl rfl rfl rfl rfl rfl rfl) fun a15 H15 => ?_
      clear H14
      refine h_call H15 rfl (wn rfl) (R_call2 H15 rfl rfl rfl (fun w => by simp [go_sem])) rfl ?_
      refine (two_send (x := l[j]) hT.symm (by omega)).mono ?_
      rintro e w16 ⟨rfl, hT2⟩
      replace hT := hT2.symm
      clear hT2
      refine ⟨_, rfl, fun a16 HH => ?_⟩
      have H16 := HH _ (P7 1 2 3 10 12 14 16 rfl rfl rfl rfl rfl rfl rfl)
      clear HH H15
      refine h_end ?_
      repeat (go_not_at_region 16; go_step)
      refine wp_region_lit ?_
      refine h_op H16 rfl (wn rfl) (R_mv H16 rfl rfl) rfl (P8 65 1 2 3 10 12 14 16 rfl rfl rfl rfl rfl rfl rfl rfl) fun a17 H17 => ?_
      clear H16
      refine h_op H17 rfl (wn rfl) (R_bin H17 rfl rfl rfl (B_add Tryz.underlying3 _ _ (by omega) (by omega))) rfl (P8 66 1 2 3 10 12 14 16 rfl rfl rfl rfl rfl rfl rfl rfl) fun a18 H18 => ?_
      clear H17
      refine h_op H18 rfl (wn rfl) (R_as H18 rfl rfl) rfl (P7 16 1 2 3 10 12 14 rfl rfl rfl rfl rfl rfl rfl) fun a19 H19 => ?_
      clear H18
      refine h_end ?_
      repeat (go_not_at_region 999; go_step)
      exact ⟨l.length - (j + 1), by omega, (HI.out _ _ _).2 ⟨j + 1, _, rfl, hjl, H19.pick _ (P7 1 2 3 10 12 14 16 rfl rfl rfl rfl rfl rfl rfl), fresh_send hS (hkall _ (List.getElem_mem hjl)), hT⟩⟩
    · repeat (go_not_at_region 15; go_step)
      refine wp_region_lit ?_
      refine h_op H0 rfl (wn rfl) (R_mv H0 rfl rfl) rfl (P8 61 1 2 3 10 12 14 16 rfl rfl rfl rfl rfl rfl rfl rfl) fun a1 H1 => ?_
      clear H0
      refine h_op H1 rfl (wn rfl) (R_mv H1 rfl rfl) rfl (P9 62 61 1 2 3 10 12 14 16 rfl rfl rfl rfl rfl rfl rfl rfl rfl) fun a2 H2 => ?_
      clear H1
      refine h_op H2 rfl (wn rfl) (R_lenS H2 rfl rfl Tryz.underlying71) rfl (P9 63 61 1 2 3 10 12 14 16 rfl rfl rfl rfl rfl rfl rfl rfl rfl) fun a3 H3 => ?_
      clear H2
      refine h_op H3 rfl (wn rfl) (R_bin H3 rfl rfl rfl (B_to (y := false) (B_lt Tryz.underlying3 _ _) (decide_eq_false (by omega)))) rfl (P8 64 1 2 3 10 12 14 16 rfl rfl rfl rfl rfl rfl rfl rfl) fun a4 H4 => ?_
      clear H3
      refine h_end ?_
      repeat (go_not_at_region 19; go_step)
      refine wp_cond_false (H4.ev (x := .tmp 64) rfl) ?_
      repeat (go_not_at_region 19; go_step)
      refine wp_region_lit ?_
      refine h_op H4 rfl (wn rfl) (R_mv H4 rfl rfl) rfl (P6 79 2 3 10 12 14 rfl rfl rfl rfl rfl rfl) fun a5 H5 => ?_
      clear H4
      refine h_call H5 rfl (wn rfl) (R_call1 H5 rfl rfl (fun w => by simp [go_sem])) rfl ?_
      refine (two_last hT).mono ?_
      rintro e wx ⟨rfl, rfl⟩
      refine ⟨_, rfl, fun a6 HH => ?_⟩
      have H6 := HH _ (P6 80 2 3 10 12 14 rfl rfl rfl rfl rfl rfl)
      clear HH H5
      refine h_op H6 rfl (wn rfl) (R_as H6 rfl rfl) rfl (P6 17 2 3 10 12 14 rfl rfl rfl rfl rfl rfl) fun a7 H7 => ?_
      clear H6
      refine h_end ?_
      repeat (go_not_at_region 20; go_step)
      refine wp_region_lit ?_
      refine h_op H7 rfl (wn rfl) (R_as H7 rfl rfl) rfl (P7 18 17 2 3 10 12 14 rfl rfl rfl rfl rfl rfl rfl) fun a8 H8 => ?_
      clear H7
      refine h_end ?_
      clear HI
      repeat (go_not_at_region 21; go_step)
      obtain ⟨I, hI⟩ : ∃ I : Nat → Act → World → Prop, ∀ n a' w', I n a' w' ↔ ∃ (i : Nat) (Sa Sb : PSrc) (Da Db : List Nat), n = S.L.length - i ∧ i ≤ S.L.length ∧ Fr a' 122 [(2, .slice A2 cs.length c2), (3, .int .u8 (turn : Nat)), (10, .int .i64 ((n0 % 4 : Nat) : Int)), (12, .pointer (some ⟨pa, 0, none⟩)), (14, .pointer (some ⟨pb, 0, none⟩)), (17, .int .i64 (S.L.length : Nat)), (18, .int .i64 (i : Nat))] ∧ PartM S.L Sa.L (gOf cs) Da ∧ PartM S.L Sb.L (gOf cs) Db ∧ (Sa.src = ((n0 % 4 : Nat) : Int) ∧ Sa.t = T5 ∧ Sb.src = ((n0 % 4 : Nat) : Int) ∧ Sb.t = T5) ∧ (∀ q, q < i → S.L.length - 1 - q + 1 ∈ Da) ∧ (∀ q, q < i → rowQ S.L.length turn q + 1 ∈ Db) ∧ TwoS W pa oa aa Sa pb ob ab Sb w' := ⟨_, fun _ _ _ => Iff.rfl⟩
      have HI := Lib.hid hI
      clear hI
      refine wp_loop_ghost I S.L.length ((HI.out _ _ _).2 ⟨0, S, S, [], [], rfl, Nat.zero_le _, H8.pick _ (P7 2 3 10 12 14 17 18 rfl rfl rfl rfl rfl rfl rfl), part_nil hS.open_, part_nil hS.open_, ⟨hS.src, hS.t, hS.src, hS.t⟩, fun q hq => absurd hq (Nat.not_lt_zero _), fun q hq => absurd hq (Nat.not_lt_zero _), hT⟩) ?_
      clear hT H8
      intro n a1 wl hi
      obtain ⟨i, Sa, Sb, Da, Db, rfl, hi2, H0, hpa, hpb, ⟨hsa, hta, hsb, htb⟩, hda, hdb, hT⟩ := (HI.out _ _ _).1 hi
      clear hi
      have la := hpa.1
      have lb := hpb.1
      by_cases hil : i < S.L.length
      · repeat (go_not_at_region 21; go_step)
        refine wp_region_lit ?_
        refine h_op H0 rfl (wn rfl) (R_mv H0 rfl rfl) rfl (P8 81 2 3 10 12 14 17 18 rfl rfl rfl rfl rfl rfl rfl rfl) fun a1 H1 => ?_
        clear H0
        refine h_op H1 rfl (wn rfl) (R_mv H1 rfl rfl) rfl (P9 82 81 2 3 10 12 14 17 18 rfl rfl rfl rfl rfl rfl rfl rfl rfl) fun a2 H2 => ?_
        clear H1
        refine h_op H2 rfl (wn rfl) (R_bin H2 rfl rfl rfl (B_to (y := true) (B_lt Tryz.underlying3 _ _) (decide_eq_true (by omega)))) rfl (P8 83 2 3 10 12 14 17 18 rfl rfl rfl rfl rfl rfl rfl rfl) fun a3 H3 => ?_
        clear H2
        refine h_end ?_
        repeat (go_not_at_region 23; go_step)
        refine wp_cond_true (H3.ev (x := .tmp 83) rfl) ?_
        have hmod : ∀ z, z % S.L.length < S.L.length := fun z => Nat.mod_lt _ (by omega)
        have hrq : rowQ S.L.length turn i < S.L.length := by unfold rowQ; split <;> exact hmod _
        repeat (go_not_at_region 23; go_step)
        refine wp_region_lit ?_
        refine h_op H3 rfl (wn rfl) (R_mv H3 rfl rfl) rfl (P8 86 2 3 10 12 14 17 18 rfl rfl rfl rfl rfl rfl rfl rfl) fun a4 H4 => ?_
        clear H3
        refine h_op H4 rfl (wn rfl) (R_mv H4 rfl rfl) rfl (P9 87 86 2 3 10 12 14 17 18 rfl rfl rfl rfl rfl rfl rfl rfl rfl) fun a5 H5 => ?_
        clear H4
        refine h_op H5 rfl (wn rfl) (R_bin H5 rfl rfl rfl (B_toI (y := ((S.L.length - 1 - i + 1 : Nat) : Int)) (B_subI _ _ (by omega) (by omega)) (by omega))) rfl (P8 88 2 3 10 12 14 17 18 rfl rfl rfl rfl rfl rfl rfl rfl) fun a6 H6 => ?_
        clear H5
        refine h_op H6 rfl (wn rfl) (R_as H6 rfl rfl) rfl (P8 19 2 3 10 12 14 17 18 rfl rfl rfl rfl rfl rfl rfl rfl) fun a7 H7 => ?_
        clear H6
        refine h_end ?_
        have hm1 := hmod (i * 7 + turn)
        repeat (go_not_at_region 24; go_step)
        refine wp_region_lit ?_
        refine h_op H7 rfl (wn rfl) (R_mv H7 rfl rfl) rfl (P9 89 19 2 3 10 12 14 17 18 rfl rfl rfl rfl rfl rfl rfl rfl rfl) fun a8 H8 => ?_
        clear H7
        refine h_op H8 rfl (wn rfl) (R_bin H8 rfl rfl rfl (B_toI (y := ((i * 7 : Nat) : Int)) (B_mulI _ _ (by omega) (by omega)) (by omega))) rfl (P9 90 19 2 3 10 12 14 17 18 rfl rfl rfl rfl rfl rfl rfl rfl rfl) fun a9 H9 => ?_
        clear H8
        refine h_op H9 rfl (wn rfl) (R_mv H9 rfl rfl) rfl (P10 91 90 19 2 3 10 12 14 17 18 rfl rfl rfl rfl rfl rfl rfl rfl rfl rfl) fun a10 H10 => ?_
        clear H9
        refine h_op H10 rfl (wn rfl) (R_cv H10 rfl rfl (cv_u8i htu)) rfl (P10 92 90 19 2 3 10 12 14 17 18 rfl rfl rfl rfl rfl rfl rfl rfl rfl rfl) fun a11 H11 => ?_
        clear H10
        refine h_op H11 rfl (wn rfl) (R_bin H11 rfl rfl rfl (B_toI (y := ((i * 7 + turn : Nat) : Int)) (B_add Tryz.underlying3 _ _ (by omega) (by omega)) (by omega))) rfl (P9 93 19 2 3 10 12 14 17 18 rfl rfl rfl rfl rfl rfl rfl rfl rfl) fun a12 H12 => ?_
        clear H11
        refine h_op H12 rfl (wn rfl) (R_mv H12 rfl rfl) rfl (P10 94 93 19 2 3 10 12 14 17 18 rfl rfl rfl rfl rfl rfl rfl rfl rfl rfl) fun a13 H13 => ?_
        clear H12
        refine h_op H13 rfl (wn rfl) (R_bin H13 rfl rfl rfl (B_rem _ _ (by omega) (by omega) (by omega))) rfl (P9 95 19 2 3 10 12 14 17 18 rfl rfl rfl rfl rfl rfl rfl rfl rfl) fun a14 H14 => ?_
        clear H13
        refine h_op H14 rfl (wn rfl) (R_bin H14 rfl rfl rfl (B_toI (y := (((i * 7 + turn) % S.L.length + 1 : Nat) : Int)) (B_add Tryz.underlying3 _ _ (by omega) (by omega)) (by omega))) rfl (P9 96 19 2 3 10 12 14 17 18 rfl rfl rfl rfl rfl rfl rfl rfl rfl) fun a15 H15 => ?_
        clear H14
        refine h_op H15 rfl (wn rfl) (R_as H15 rfl rfl) rfl (P9 20 19 2 3 10 12 14 17 18 rfl rfl rfl rfl rfl rfl rfl rfl rfl) fun a16 H16 => ?_
        clear H15
        refine h_end ?_
        repeat (go_not_at_region 25; go_step)
        refine wp_region_lit ?_
        refine h_op H16 rfl (wn rfl) (R_mv H16 rfl rfl) rfl (P10 97 20 19 2 3 10 12 14 17 18 rfl rfl rfl rfl rfl rfl rfl rfl rfl rfl) fun a17 H17 => ?_
        clear H16
        refine h_op H17 rfl (wn rfl) (R_bin H17 rfl rfl rfl (B_rem _ 7 (by decide) (by decide) (by omega))) rfl (P10 98 20 19 2 3 10 12 14 17 18 rfl rfl rfl rfl rfl rfl rfl rfl rfl rfl) fun a18 H18 => ?_
        clear H17
        refine h_op H18 rfl (wn rfl) (R_bin H18 rfl rfl rfl (B_eq Tryz.underlying3 _ _)) rfl (P10 99 20 19 2 3 10 12 14 17 18 rfl rfl rfl rfl rfl rfl rfl rfl rfl rfl) fun a19 H19 => ?_
        clear H18
        refine h_end ?_
        by_cases h7 : S.L.length % 7 = 0
        · have e7 : rowQ S.L.length turn i = (i + turn) % S.L.length := by unfold rowQ; rw [if_pos h7]
          rw [h7] at H19
          repeat (go_not_at_region 26; go_step)
          refine wp_cond_true (H19.ev (x := .tmp 99) rfl) ?_
          have hm2 := hmod (i + turn)
          repeat (go_not_at_region 26; go_step)
          refine wp_region_lit ?_
          refine h_op H19 rfl (wn rfl) (R_mv H19 rfl rfl) rfl (P10 100 20 19 2 3 10 12 14 17 18 rfl rfl rfl rfl rfl rfl rfl rfl rfl rfl) fun a20 H20 => ?_
          clear H19
          refine h_op H20 rfl (wn rfl) (R_mv H20 rfl rfl) rfl (P11 101 100 20 19 2 3 10 12 14 17 18 rfl rfl rfl rfl rfl rfl rfl rfl rfl rfl rfl) fun a21 H21 => ?_
          clear H20
          refine h_op H21 rfl (wn rfl) (R_cv H21 rfl rfl (cv_u8i htu)) rfl (P11 102 100 20 19 2 3 10 12 14 17 18 rfl rfl rfl rfl rfl rfl rfl rfl rfl rfl rfl) fun a22 H22 => ?_
          clear H21
          refine h_op H22 rfl (wn rfl) (R_bin H22 rfl rfl rfl (B_toI (y := ((i + turn : Nat) : Int)) (B_add Tryz.underlying3 _ _ (by omega) (by omega)) (by omega))) rfl (P10 103 20 19 2 3 10 12 14 17 18 rfl rfl rfl rfl rfl rfl rfl rfl rfl rfl) fun a23 H23 => ?_
          clear H22
          refine h_op H23 rfl (wn rfl) (R_mv H23 rfl rfl) rfl (P11 104 103 20 19 2 3 10 12 14 17 18 rfl rfl rfl rfl rfl rfl rfl rfl rfl rfl rfl) fun a24 H24 => ?_
          clear H23
          refine h_op H24 rfl (wn rfl) (R_bin H24 rfl rfl rfl (B_rem _ _ (by omega) (by omega) (by omega))) rfl (P10 105 20 19 2 3 10 12 14 17 18 rfl rfl rfl rfl rfl rfl rfl rfl rfl rfl) fun a25 H25 => ?_
          clear H24
          refine h_op H25 rfl (wn rfl) (R_bin H25 rfl rfl rfl (B_toI (y := ((rowQ S.L.length turn i + 1 : Nat) : Int)) (B_add Tryz.underlying3 _ _ (by omega) (by omega)) (by rw [e7]; omega))) rfl (P10 106 20 19 2 3 10 12 14 17 18 rfl rfl rfl rfl rfl rfl rfl rfl rfl rfl) fun a26 H26 => ?_
          clear H25
          refine h_op H26 rfl (wn rfl) (R_as H26 rfl rfl) rfl (P9 20 19 2 3 10 12 14 17 18 rfl rfl rfl rfl rfl rfl rfl rfl rfl) fun a27 H27 => ?_
          clear H26
          refine h_end ?_
          repeat (go_not_at_region 27; go_step)
          repeat (go_not_at_region 27; go_step)
          refine wp_region_lit ?_
          refine h_op H27 rfl (wn rfl) (R_mv H27 rfl rfl) rfl (P10 107 20 19 2 3 10 12 14 17 18 rfl rfl rfl rfl rfl rfl rfl rfl rfl rfl) fun a28 H28 => ?_
          clear H27
          refine h_op H28 rfl (wn rfl) (R_mv H28 rfl rfl) rfl (P11 108 107 20 19 2 3 10 12 14 17 18 rfl rfl rfl rfl rfl rfl rfl rfl rfl rfl rfl) fun a29 H29 => ?_
          clear H28
          refine h_op H29 rfl (wn rfl) (R_mv H29 rfl rfl) rfl (P11 109 108 107 20 2 3 10 12 14 17 18 rfl rfl rfl rfl rfl rfl rfl rfl rfl rfl rfl) fun a30 H30 => ?_
          clear H29
          refine h_op H30 rfl (wn rfl) (R_mv H30 rfl rfl) rfl (P12 110 109 108 107 20 2 3 10 12 14 17 18 rfl rfl rfl rfl rfl rfl rfl rfl rfl rfl rfl rfl) fun a31 H31 => ?_
          clear H30
          refine h_call H31 rfl (wn rfl) (R_call3 H31 rfl rfl rfl rfl (fun w => by simp [go_sem])) rfl ?_
          refine (ans_any (n := ((n0 % 4 : Nat) : Int)) (k := ((S.L.length - 1 - i + 1 : Nat) : Int)) (cs := cs) (hcw _ hT.below) hcs (by omega) (by omega) (by omega)).mono ?_
          rintro e w32 ⟨rfl, hb⟩
          replace hT := hT.call hb
          clear hb
          refine ⟨_, rfl, fun a32 HH => ?_⟩
          have H32 := HH _ (P10 111 107 20 2 3 10 12 14 17 18 rfl rfl rfl rfl rfl rfl rfl rfl rfl rfl)
          clear HH H31
          refine h_call H32 rfl (wn rfl) (R_call2 H32 rfl rfl rfl (fun w => by simp [go_sem])) rfl ?_
          have hq := two_handle (m := ansMsg ((n0 % 4 : Nat) : Int) ((S.L.length - 1 - i + 1 : Nat) : Int) (codeOf cs ((S.L.length - 1 - i + 1 : Nat) : Int))) (vo := .slice none 0 0) (vs := .slice none 0 0) (hT) (fun w _ => rd_nul w) (by omega) (by show (_ : Int) ≤ ((S.L.length - 1 - i + 1 : Nat) : Int); omega) (by show (((S.L.length - 1 - i + 1 : Nat) : Int) : Int) < _; omega) (by rw [hta]; decide) (Nat.zero_le _) rfl
          rw [handle_ans hsa] at hq
          refine hq.mono ?_
          rintro e w33 ⟨rfl, hT2⟩
          replace hT := hT2
          clear hT2 hq
          refine ⟨_, rfl, fun a33 HH => ?_⟩
          have H33 := HH _ (P8 20 2 3 10 12 14 17 18 rfl rfl rfl rfl rfl rfl rfl rfl)
          clear HH H32
          refine h_end ?_
          repeat (go_not_at_region 28; go_step)
          refine wp_region_lit ?_
          refine h_op H33 rfl (wn rfl) (R_mv H33 rfl rfl) rfl (P9 113 20 2 3 10 12 14 17 18 rfl rfl rfl rfl rfl rfl rfl rfl rfl) fun a34 H34 => ?_
          clear H33
          refine h_op H34 rfl (wn rfl) (R_mv H34 rfl rfl) rfl (P10 114 113 20 2 3 10 12 14 17 18 rfl rfl rfl rfl rfl rfl rfl rfl rfl rfl) fun a35 H35 => ?_
          clear H34
          refine h_op H35 rfl (wn rfl) (R_mv H35 rfl rfl) rfl (P10 115 114 113 2 3 10 12 14 17 18 rfl rfl rfl rfl rfl rfl rfl rfl rfl rfl) fun a36 H36 => ?_
          clear H35
          refine h_op H36 rfl (wn rfl) (R_mv H36 rfl rfl) rfl (P11 116 115 114 113 2 3 10 12 14 17 18 rfl rfl rfl rfl rfl rfl rfl rfl rfl rfl rfl) fun a37 H37 => ?_
          clear H36
          refine h_call H37 rfl (wn rfl) (R_call3 H37 rfl rfl rfl rfl (fun w => by simp [go_sem])) rfl ?_
          refine (ans_any (n := ((n0 % 4 : Nat) : Int)) (k := ((rowQ S.L.length turn i + 1 : Nat) : Int)) (cs := cs) (hcw _ hT.below) hcs (by omega) (by omega) (by omega)).mono ?_
          rintro e w38 ⟨rfl, hb⟩
          replace hT := hT.call hb
          clear hb
          refine ⟨_, rfl, fun a38 HH => ?_⟩
          have H38 := HH _ (P9 117 113 2 3 10 12 14 17 18 rfl rfl rfl rfl rfl rfl rfl rfl rfl)
          clear HH H37
          refine h_call H38 rfl (wn rfl) (R_call2 H38 rfl rfl rfl (fun w => by simp [go_sem])) rfl ?_
          have hq := two_handle (m := ansMsg ((n0 % 4 : Nat) : Int) ((rowQ S.L.length turn i + 1 : Nat) : Int) (codeOf cs ((rowQ S.L.length turn i + 1 : Nat) : Int))) (vo := .slice none 0 0) (vs := .slice none 0 0) (hT.symm) (fun w _ => rd_nul w) (by omega) (by show (_ : Int) ≤ ((rowQ S.L.length turn i + 1 : Nat) : Int); omega) (by show (((rowQ S.L.length turn i + 1 : Nat) : Int) : Int) < _; omega) (by rw [htb]; decide) (Nat.zero_le _) rfl
          rw [handle_ans hsb] at hq
          refine hq.mono ?_
          rintro e w39 ⟨rfl, hT2⟩
          replace hT := hT2.symm
          clear hT2 hq
          refine ⟨_, rfl, fun a39 HH => ?_⟩
          have H39 := HH _ (P7 2 3 10 12 14 17 18 rfl rfl rfl rfl rfl rfl rfl)
          clear HH H38
          refine h_end ?_
          repeat (go_not_at_region 22; go_step)
          refine wp_region_lit ?_
          refine h_op H39 rfl (wn rfl) (R_mv H39 rfl rfl) rfl (P8 84 2 3 10 12 14 17 18 rfl rfl rfl rfl rfl rfl rfl rfl) fun a40 H40 => ?_
          clear H39
          refine h_op H40 rfl (wn rfl) (R_bin H40 rfl rfl rfl (B_add Tryz.underlying3 _ _ (by omega) (by omega))) rfl (P8 85 2 3 10 12 14 17 18 rfl rfl rfl rfl rfl rfl rfl rfl) fun a41 H41 => ?_
          clear H40
          refine h_op H41 rfl (wn rfl) (R_as H41 rfl rfl) rfl (P7 18 2 3 10 12 14 17 rfl rfl rfl rfl rfl rfl rfl) fun a42 H42 => ?_
          clear H41
          refine h_end ?_
          repeat (go_not_at_region 999; go_step)
          refine ⟨S.L.length - (i + 1), by omega, (HI.out _ _ _).2 ⟨i + 1, _, _, _, _, rfl, hil, H42.pick _ (P7 2 3 10 12 14 17 18 rfl rfl rfl rfl rfl rfl rfl), part_step hpa (i := S.L.length - 1 - i) (by omega), part_step hpb (i := rowQ S.L.length turn i) hrq, ⟨ansM_src.trans hsa, ansM_t.trans hta, ansM_src.trans hsb, ansM_t.trans htb⟩, fun q hq => ?_, fun q hq => ?_, hT⟩⟩
          · rcases Nat.lt_succ_iff_lt_or_eq.1 hq with h | rfl
            · exact List.mem_cons_of_mem _ (hda q h)
            · exact List.mem_cons_self
          · rcases Nat.lt_succ_iff_lt_or_eq.1 hq with h | rfl
            · exact List.mem_cons_of_mem _ (hdb q h)
            · exact List.mem_cons_self
        · have e7 : rowQ S.L.length turn i = (i * 7 + turn) % S.L.length := by unfold rowQ; rw [if_neg h7]
          rw [← e7, show ((((S.L.length % 7 : Nat) : Int) == 0) = false) from beq_eq_false_iff_ne.2 (by omega)] at H19
          repeat (go_not_at_region 27; go_step)
          refine wp_cond_false (H19.ev (x := .tmp 99) rfl) ?_
          repeat (go_not_at_region 27; go_step)
          repeat (go_not_at_region 27; go_step)
          refine wp_region_lit ?_
          refine h_op H19 rfl (wn rfl) (R_mv H19 rfl rfl) rfl (P10 107 20 19 2 3 10 12 14 17 18 rfl rfl rfl rfl rfl rfl rfl rfl rfl rfl) fun a20 H20 => ?_
          clear H19
          refine h_op H20 rfl (wn rfl) (R_mv H20 rfl rfl) rfl (P11 108 107 20 19 2 3 10 12 14 17 18 rfl rfl rfl rfl rfl rfl rfl rfl rfl rfl rfl) fun a21 H21 => ?_
          clear H20
          refine h_op H21 rfl (wn rfl) (R_mv H21 rfl rfl) rfl (P11 109 108 107 20 2 3 10 12 14 17 18 rfl rfl rfl rfl rfl rfl rfl rfl rfl rfl rfl) fun a22 H22 => ?_
          clear H21
          refine h_op H22 rfl (wn rfl) (R_mv H22 rfl rfl) rfl (P12 110 109 108 107 20 2 3 10 12 14 17 18 rfl rfl rfl rfl rfl rfl rfl rfl rfl rfl rfl rfl) fun a23 H23 => ?_
          clear H22
          refine h_call H23 rfl (wn rfl) (R_call3 H23 rfl rfl rfl rfl (fun w => by simp [go_sem])) rfl ?_
          refine (ans_any (n := ((n0 % 4 : Nat) : Int)) (k := ((S.L.length - 1 - i + 1 : Nat) : Int)) (cs := cs) (hcw _ hT.below) hcs (by omega) (by omega) (by omega)).mono ?_
          rintro e w24 ⟨rfl, hb⟩
          replace hT := hT.call hb
          clear hb
          refine ⟨_, rfl, fun a24 HH => ?_⟩
          have H24 := HH _ (P10 111 107 20 2 3 10 12 14 17 18 rfl rfl rfl rfl rfl rfl rfl rfl rfl rfl)
          clear HH H23
          refine h_call H24 rfl (wn rfl) (R_call2 H24 rfl rfl rfl (fun w => by simp [go_sem])) rfl ?_
          have hq := two_handle (m := ansMsg ((n0 % 4 : Nat) : Int) ((S.L.length - 1 - i + 1 : Nat) : Int) (codeOf cs ((S.L.length - 1 - i + 1 : Nat) : Int))) (vo := .slice none 0 0) (vs := .slice none 0 0) (hT) (fun w _ => rd_nul w) (by omega) (by show (_ : Int) ≤ ((S.L.length - 1 - i + 1 : Nat) : Int); omega) (by show (((S.L.length - 1 - i + 1 : Nat) : Int) : Int) < _; omega) (by rw [hta]; decide) (Nat.zero_le _) rfl
          rw [handle_ans hsa] at hq
          refine hq.mono ?_
          rintro e w25 ⟨rfl, hT2⟩
          replace hT := hT2
          clear hT2 hq
          refine ⟨_, rfl, fun a25 HH => ?_⟩
          have H25 := HH _ (P8 20 2 3 10 12 14 17 18 rfl rfl rfl rfl rfl rfl rfl rfl)
          clear HH H24
          refine h_end ?_
          repeat (go_not_at_region 28; go_step)
          refine wp_region_lit ?_
          refine h_op H25 rfl (wn rfl) (R_mv H25 rfl rfl) rfl (P9 113 20 2 3 10 12 14 17 18 rfl rfl rfl rfl rfl rfl rfl rfl rfl) fun a26 H26 => ?_
          clear H25
          refine h_op H26 rfl (wn rfl) (R_mv H26 rfl rfl) rfl (P10 114 113 20 2 3 10 12 14 17 18 rfl rfl rfl rfl rfl rfl rfl rfl rfl rfl) fun a27 H27 => ?_
          clear H26
          refine h_op H27 rfl (wn rfl) (R_mv H27 rfl rfl) rfl (P10 115 114 113 2 3 10 12 14 17 18 rfl rfl rfl rfl rfl rfl rfl rfl rfl rfl) fun a28 H28 => ?_
          clear H27
          refine h_op H28 rfl (wn rfl) (R_mv H28 rfl rfl) rfl (P11 116 115 114 113 2 3 10 12 14 17 18 rfl rfl rfl rfl rfl rfl rfl rfl rfl rfl rfl) fun a29 H29 => ?_
          clear H28
          refine h_call H29 rfl (wn rfl) (R_call3 H29 rfl rfl rfl rfl (fun w => by simp [go_sem])) rfl ?_
          refine (ans_any (n := ((n0 % 4 : Nat) : Int)) (k := ((rowQ S.L.length turn i + 1 : Nat) : Int)) (cs := cs) (hcw _ hT.below) hcs (by omega) (by omega) (by omega)).mono ?_
          rintro e w30 ⟨rfl, hb⟩
          replace hT := hT.call hb
          clear hb
          refine ⟨_, rfl, fun a30 HH => ?_⟩
          have H30 := HH _ (P9 117 113 2 3 10 12 14 17 18 rfl rfl rfl rfl rfl rfl rfl rfl rfl)
          clear HH H29
          refine h_call H30 rfl (wn rfl) (R_call2 H30 rfl rfl rfl (fun w => by simp [go_sem])) rfl ?_
          have hq := two_handle (m := ansMsg ((n0 % 4 : Nat) : Int) ((rowQ S.L.length turn i + 1 : Nat) : Int) (codeOf cs ((rowQ S.L.length turn i + 1 : Nat) : Int))) (vo := .slice none 0 0) (vs := .slice none 0 0) (hT.symm) (fun w _ => rd_nul w) (by omega) (by show (_ : Int) ≤ ((rowQ S.L.length turn i + 1 : Nat) : Int); omega) (by show (((rowQ S.L.length turn i + 1 : Nat) : Int) : Int) < _; omega) (by rw [htb]; decide) (Nat.zero_le _) rfl
          rw [handle_ans hsb] at hq
          refine hq.mono ?_
          rintro e w31 ⟨rfl, hT2⟩
          replace hT := hT2.symm
          clear hT2 hq
          refine ⟨_, rfl, fun a31 HH => ?_⟩
          have H31 := HH _ (P7 2 3 10 12 14 17 18 rfl rfl rfl rfl rfl rfl rfl)
          clear HH H30
          refine h_end ?_
          repeat (go_not_at_region 22; go_step)
          refine wp_region_lit ?_
          refine h_op H31 rfl (wn rfl) (R_mv H31 rfl rfl) rfl (P8 84 2 3 10 12 14 17 18 rfl rfl rfl rfl rfl rfl rfl rfl) fun a32 H32 => ?_
          clear H31
          refine h_op H32 rfl (wn rfl) (R_bin H32 rfl rfl rfl (B_add Tryz.underlying3 _ _ (by omega) (by omega))) rfl (P8 85 2 3 10 12 14 17 18 rfl rfl rfl rfl rfl rfl rfl rfl) fun a33 H33 => ?_
          clear H32
          refine h_op H33 rfl (wn rfl) (R_as H33 rfl rfl) rfl (P7 18 2 3 10 12 14 17 rfl rfl rfl rfl rfl rfl rfl) fun a34 H34 => ?_
          clear H33
          refine h_end ?_
          repeat (go_not_at_region 999; go_step)
          refine ⟨S.L.length - (i + 1), by omega, (HI.out _ _ _).2 ⟨i + 1, _, _, _, _, rfl, hil, H34.pick _ (P7 2 3 10 12 14 17 18 rfl rfl rfl rfl rfl rfl rfl), part_step hpa (i := S.L.length - 1 - i) (by omega), part_step hpb (i := rowQ S.L.length turn i) hrq, ⟨ansM_src.trans hsa, ansM_t.trans hta, ansM_src.trans hsb, ansM_t.trans htb⟩, fun q hq => ?_, fun q hq => ?_, hT⟩⟩
          · rcases Nat.lt_succ_iff_lt_or_eq.1 hq with h | rfl
            · exact List.mem_cons_of_mem _ (hda q h)
            · exact List.mem_cons_self
          · rcases Nat.lt_succ_iff_lt_or_eq.1 hq with h | rfl
            · exact List.mem_cons_of_mem _ (hdb q h)
            · exact List.mem_cons_self
      · repeat (go_not_at_region 21; go_step)
        refine wp_region_lit ?_
        refine h_op H0 rfl (wn rfl) (R_mv H0 rfl rfl) rfl (P8 81 2 3 10 12 14 17 18 rfl rfl rfl rfl rfl rfl rfl rfl) fun a1 H1 => ?_
        clear H0
        refine h_op H1 rfl (wn rfl) (R_mv H1 rfl rfl) rfl (P9 82 81 2 3 10 12 14 17 18 rfl rfl rfl rfl rfl rfl rfl rfl rfl) fun a2 H2 => ?_
        clear H1
        refine h_op H2 rfl (wn rfl) (R_bin H2 rfl rfl rfl (B_to (y := false) (B_lt Tryz.underlying3 _ _) (decide_eq_false (by omega)))) rfl (P8 83 2 3 10 12 14 17 18 rfl rfl rfl rfl rfl rfl rfl rfl) fun a3 H3 => ?_
        clear H2
        refine h_end ?_
        repeat (go_not_at_region 29; go_step)
        refine wp_cond_false (H3.ev (x := .tmp 83) rfl) ?_
        obtain rfl : i = S.L.length := by omega
        have hfin : Sa = Sb := by
          have e1 : Sa.L = Sb.L := part_eq hpa hpb (fun q hq => ?_) (fun q hq => ?_)
          · obtain ⟨s1, t1, L1⟩ := Sa
            obtain ⟨s2, t2, L2⟩ := Sb
            simp only at e1 hsa hsb hta htb
            rw [e1, hsa, hsb, hta, htb]
          · have h := hda (S.L.length - 1 - q) (by omega)
            rwa [show S.L.length - 1 - (S.L.length - 1 - q) = q by omega] at h
          · obtain ⟨p, hp, e⟩ := rowQ_all (m := S.L.length) (turn := turn) (k := q) (by omega) hq
            rw [← e]
            exact hdb p hp
        subst hfin
        repeat (go_not_at_region 29; go_step)
        refine wp_region_lit ?_
        refine h_op H3 rfl (wn rfl) (R_mv H3 rfl rfl) rfl (P2 119 14 rfl rfl) fun a4 H4 => ?_
        clear H3
        refine h_op H4 rfl (wn rfl) (R_mv H4 rfl rfl) rfl (P2 120 119 rfl rfl) fun a5 H5 => ?_
        clear H4
        refine h_call H5 rfl (wn rfl) (R_call2 H5 rfl rfl rfl (fun w => by simp [go_sem])) rfl ?_
        refine (two_alike hT (by omega) (by rw [hta]; decide) (part_ok hpa hS.ok) (by rw [hsa]; omega) (by rw [hsa]; omega)).mono ?_
        rintro e w6 ⟨rfl, hb⟩
        refine ⟨_, rfl, fun a6 HH => ?_⟩
        have H6 := HH _ (P1 121 rfl)
        clear HH H5
        refine h_op H6 rfl (wn rfl) (R_as H6 rfl rfl) rfl (P1 8 rfl) fun a7 H7 => ?_
        clear H6
        refine h_end ?_
        repeat (go_not_at_region 999; go_step)
        exact H7.ret1 rfl rfl ⟨rfl, hb⟩
end
end Go.Proofs.YthkeiclhllikjaaGreat
