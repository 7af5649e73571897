/-
  The open item of a number; the document's source beside the program's.
-/
import Derived.Test.YthkeiclhllikjaaGreatPlF
set_option linter.unusedSimpArgs false
set_option linter.unusedVariables false
namespace Go.Proofs.YthkeiclhllikjaaGreat
open Go.RowKit R
section
variable {w0 W w : World} {L X R : List Thg} {S : PSrc} {vo vL v : Value} {ys : List Nat} {g i j n c : Nat} {a : Addr} {q : Option Addr}
def inF (ys : List Nat) : List Value := ys.map fun y => .int .i64 (y : Nat)
theorem bs_i1 {x : Int} : (Instr.buildSlice 26 1 #[(0, .int .i64 x)]).run Tryz.prog w = .ok (.slice (some ⟨w.heap.size, 0, none⟩) 1 1) (w.alloc (.cells #[.int .i64 x] 3)) := by
 simp [go_sem]
theorem prow_int (h : PRow 3 1 (.slice q n c) n (inF ys) X) (hL : LV w0 (X ++ L) w) (hn : n = ys.length) (hj : j < ys.length) : ∃ a, q = some a ∧ w.cell? (a.add j) = some (.int .i64 (ys[j] : Nat)) := by
 subst hn
 rcases h.2 with ⟨_, h0, _⟩ | ⟨g, cap, cur, he, rfl, h1, h2, h3, h4⟩
 ·omega
 ·cases he
  refine ⟨_, rfl, ?_⟩
  have e : (⟨g, 0, none⟩ : Addr).add j = ⟨g, j, none⟩ := by cases j <;> simp [Addr.add]
  have h5 : (inF ys)[j]? = some (.int .i64 (ys[j] : Nat)) := by
   unfold inF
   rw [List.getElem?_map, List.getElem?_eq_getElem hj]
   rfl
  rw [← h4, List.getElem?_take, if_pos (by omega), Array.getElem?_toList] at h5
  rw [e, hL.cell, h5]
theorem LV.front2c {p b : Thg} (h : LV w0 (X ++ (p :: [b])) w) : LV w0 (X ++ [b]) w := (h.perm List.perm_middle).tail
theorem B_remP {A B : Operand} {z : Int} {n : Nat} (h0 : 0 < n) (h1 : n < 1000000) : ((do eqGuard .rem 3 A B (.int .i64 z) (.int .i64 (n : Nat)); binOp .rem 3 (.int .i64 z) (.int .i64 (n : Nat))) : Sem Value).run Tryz.prog w = .ok (.int .i64 (z.tmod n)) w := by
 have h2 := Int.tmod_lt_of_pos z (show (0 : Int) < n by omega)
 have h3 := Int.lt_tmod_of_pos z (show (0 : Int) < n by omega)
 have e : IntKind.wrap .i64 (z.tmod n) = z.tmod n := i64_id (by omega) (by omega)
 have e2 : (n : Int) ≠ 0 := by omega
 have e3 : ¬ n = 0 := by omega
 simp [go_sem, e, e2, e3]
set_option maxRecDepth 100000 in
set_option maxHeartbeats 4000000 in
theorem open_any {z : Int} (hr : RdC W 9 vL (S.L.map snC)) (hn : S.L.length < 100000) : Calls Tryz.prog 43 #[.agg (rfC S vo vL), .int .i64 z] W fun e W' => ∃ k : Int, e = .returned (.int .i64 k) ∧ -9223372036854775808 ≤ k ∧ k < 9223372036854775808 ∧ Below W.heap.size W W' := by
 have K2 : ∀ {w}, Below W.heap.size W w → RdC w 9 vL (S.L.map snC) := fun hb => hr.kept fun k hk => hb.block k hk
 obtain ⟨A2, c2, rfl⟩ := hr.slc
 rw [List.length_map] at K2
 clear hr
 rw [List.length_map] at *
 obtain ⟨i0, hi, hz0, hz1, hz2⟩ := info_parts infoInt
 have hL := LV.init W
 go_enter Tryz.func43, Tryz.ntmps43
 refine wp_fr (n := 42) (m := [(0, _), (1, _)]) ⟨rfl, rfl, by intro p hp; simp only [List.mem_cons, List.not_mem_nil, or_false] at hp; rcases hp with rfl | rfl <;> rfl⟩ fun a0 H0 => ?_
 repeat (go_not_at_region 0; go_step)
 refine wp_region_lit ?_
 refine h_opS [bk W.heap.size (rfC S vo (.slice A2 S.L.length c2)) 55] H0 rfl (wn rfl) (R_box H0 rfl rfl bx_rf) (hL.alloc _ _) rfl (P2 2 1 rfl rfl) fun _ w1 H1 hL => ?_
 refine h_o H1 rfl (R_as H1 rfl rfl) (P2 2 1 rfl rfl) fun _ H2 => ?_
 refine h_end ?_
 repeat (go_not_at_region 1; go_step)
 refine wp_region_lit ?_
 refine h_o H2 rfl (R_as H2 rfl rfl) (P3 5 2 1 rfl rfl rfl) fun _ H3 => ?_
 refine h_end ?_
 repeat (go_not_at_region 2; go_step)
 refine wp_region_lit ?_
 refine h_o H3 rfl (R_as H3 rfl rfl) (P4 6 5 2 1 rfl rfl rfl rfl) fun _ H4 => ?_
 refine h_end ?_
 repeat (go_not_at_region 3; go_step)
 obtain ⟨I, hI⟩ : ∃ I : Nat → Act → World → Prop, ∀ n a' w', I n a' w' ↔ ∃ (j : Nat) (ys : List Nat) (q : Option Addr) (c : Nat) (X : List Thg), n = S.L.length - j ∧ j ≤ S.L.length ∧ Fr a' 42 [(1, .int .i64 z), (2, .pointer (some ⟨W.heap.size, 0, none⟩)), (5, .slice q ys.length c), (6, .int .i64 (j : Nat))] ∧ ys.length ≤ j ∧ (∀ y ∈ ys, y ≤ 100000) ∧ PRow 3 1 (.slice q ys.length c) ys.length (inF ys) X ∧ LV W (X ++ [bk W.heap.size (rfC S vo (.slice A2 S.L.length c2)) 55]) w' := ⟨_, fun _ _ _ => Iff.rfl⟩
 have HI := Lib.hid hI
 clear hI
 refine wp_loop_ghost I (S.L.length) ((HI.out _ _ _).2 ⟨0, [], none, 0, [], rfl, Nat.zero_le _, H4.pick _ (P4 1 2 5 6 rfl rfl rfl rfl), Nat.le_refl _, (fun y hy => by cases hy), PRow.nil, hL⟩) ?_
 clear hL H4
 intro n a1 wl hi
 obtain ⟨j, ys, q, c, X, rfl, hj, H0, hyl, hys, hp, hL⟩ := (HI.out _ _ _).1 hi
 clear hi
 by_cases hjl : j < S.L.length
 ·repeat (go_not_at_region 3; go_step)
  refine wp_region_lit ?_
  refine h_o H0 rfl (R_mv H0 rfl rfl) (P5 8 1 2 5 6 rfl rfl rfl rfl rfl) fun _ H1 => ?_
  refine h_o H1 rfl (R_fa H1 rfl rfl fa_rf2) (P6 9 8 1 2 5 6 rfl rfl rfl rfl rfl rfl) fun _ H2 => ?_
  refine h_o H2 rfl (R_ld H2 rfl rfl (ld_sn (LV.cell hL.dropl 4))) (P6 10 8 1 2 5 6 rfl rfl rfl rfl rfl rfl) fun _ H3 => ?_
  refine h_o H3 rfl (R_lenS H3 rfl rfl Tryz.underlying53) (P6 11 8 1 2 5 6 rfl rfl rfl rfl rfl rfl) fun _ H4 => ?_
  refine h_o H4 rfl (R_bin H4 rfl rfl rfl (B_to (y := true) (B_lt Tryz.underlying3 _ _) (decide_eq_true (by omega)))) (P5 12 1 2 5 6 rfl rfl rfl rfl rfl) fun _ H5 => ?_
  refine h_end ?_
  repeat (go_not_at_region 5; go_step)
  refine wp_cond_true (H5.ev (x := .tmp 12) rfl) ?_
  obtain ⟨ad, hA⟩ := snc_addr (K2 hL.1) hjl
  repeat (go_not_at_region 5; go_step)
  refine wp_region_lit ?_
  refine h_o H5 rfl (R_fa H5 rfl rfl fa_rf2) (P5 15 1 2 5 6 rfl rfl rfl rfl rfl) fun _ H6 => ?_
  refine h_o H6 rfl (R_ld H6 rfl rfl (ld_sn (LV.cell hL.dropl 4))) (P5 16 1 2 5 6 rfl rfl rfl rfl rfl) fun _ H7 => ?_
  refine h_o H7 rfl (R_mv H7 rfl rfl) (P6 17 16 1 2 5 6 rfl rfl rfl rfl rfl rfl) fun _ H8 => ?_
  refine h_o H8 rfl (R_ixa H8 rfl rfl rfl (ix_sn hA hjl)) (P5 18 1 2 5 6 rfl rfl rfl rfl rfl) fun _ H9 => ?_
  refine h_o H9 rfl (R_fa H9 rfl rfl fa_sn1) (P5 19 1 2 5 6 rfl rfl rfl rfl rfl) fun _ H10 => ?_
  refine h_o H10 rfl (R_ld H10 rfl rfl (ld_int (snc_cell (K2 hL.1) hA hjl rfl))) (P5 20 1 2 5 6 rfl rfl rfl rfl rfl) fun _ H11 => ?_
  refine h_o H11 rfl (R_bin H11 rfl rfl rfl (B_eq Tryz.underlying3 _ _)) (P5 21 1 2 5 6 rfl rfl rfl rfl rfl) fun _ H12 => ?_
  refine h_end ?_
  by_cases h0 : S.L[j].2 = 0
  rotate_left
  ·rw [beq_eq_false_iff_ne.2 (show ((S.L[j].2 : Nat) : Int) ≠ 0 by omega)] at H12
   repeat (go_not_at_region 4; go_step)
   refine wp_cond_false (H12.ev (x := .tmp 21) rfl) ?_
   repeat (go_not_at_region 4; go_step)
   refine wp_region_lit ?_
   refine h_o H12 rfl (R_mv H12 rfl rfl) (P5 13 1 2 5 6 rfl rfl rfl rfl rfl) fun _ H13 => ?_
   refine h_o H13 rfl (R_bin H13 rfl rfl rfl (B_add Tryz.underlying3 _ _ (by omega) (by omega))) (P5 14 1 2 5 6 rfl rfl rfl rfl rfl) fun _ H14 => ?_
   refine h_o H14 rfl (R_as H14 rfl rfl) (P4 6 1 2 5 rfl rfl rfl rfl) fun _ H15 => ?_
   refine h_end ?_
   repeat (go_not_at_region 999; go_step)
   refine ⟨S.L.length - (j + 1), by omega, (HI.out _ _ _).2 ⟨j + 1, ys, q, c, X, rfl, hjl, H15.pick _ (P4 1 2 5 6 rfl rfl rfl rfl), by omega, hys, hp, hL⟩⟩
  rw [h0] at H12
  repeat (go_not_at_region 6; go_step)
  refine wp_cond_true (H12.ev (x := .tmp 21) rfl) ?_
  repeat (go_not_at_region 6; go_step)
  refine wp_region_lit ?_
  refine h_o H12 rfl (R_mv H12 rfl rfl) (P5 22 1 2 5 6 rfl rfl rfl rfl rfl) fun _ H13 => ?_
  refine h_o H13 rfl (R_mv H13 rfl rfl) (P6 23 22 1 2 5 6 rfl rfl rfl rfl rfl rfl) fun _ H14 => ?_
  refine h_o H14 rfl (R_bin H14 rfl rfl rfl (B_add Tryz.underlying3 _ _ (by omega) (by omega))) (P6 24 22 1 2 5 6 rfl rfl rfl rfl rfl rfl) fun _ H15 => ?_
  refine h_opS (bk wl.heap.size #[.int .i64 ((j : Int) + 1)] 3 :: (X ++ [bk W.heap.size (rfC S vo (.slice A2 S.L.length c2)) 55])) H15 rfl (wn rfl) (R_bs1 H15 rfl rfl bs_i1) (hL.alloc _ _) rfl (P6 25 22 1 2 5 6 rfl rfl rfl rfl rfl rfl) fun _ w16 H16 hL => ?_
  replace hL := hL.front
  obtain ⟨v2, W2, X2, hrun, hp2, hL2⟩ := app_run (cn := 1) (m := 1) (news := [.int .i64 ((j : Int) + 1)]) hp hL List.mem_cons_self rfl Tryz.underlying26 hi hz0 hz1 hz2 rfl (by decide) rfl (fun u hu => by rcases List.mem_singleton.1 hu with rfl; rfl) (by omega) (by decide) 26
  obtain ⟨q2, c3, rfl⟩ := hp2.shape
  refine h_opS (X2 ++ (bk wl.heap.size #[.int .i64 ((j : Int) + 1)] 3 :: [bk W.heap.size (rfC S vo (.slice A2 S.L.length c2)) 55])) H16 rfl (wn rfl) (R_app H16 rfl rfl rfl hrun) (hL2) rfl (P5 26 1 2 5 6 rfl rfl rfl rfl rfl) fun _ w17 H17 hL => ?_
  refine h_o H17 rfl (R_as H17 rfl rfl) (P4 5 1 2 6 rfl rfl rfl rfl) fun _ H18 => ?_
  refine h_end ?_
  have e1 : inF ys ++ [.int .i64 ((j : Int) + 1)] = inF (ys ++ [j + 1]) := by unfold inF; rw [List.map_append]; rfl
  have e2 : ys.length + 1 = (ys ++ [j + 1]).length := by simp
  rw [e2] at H18 hp2
  rw [e1] at hp2
  repeat (go_not_at_region 4; go_step)
  refine wp_region_lit ?_
  refine h_o H18 rfl (R_mv H18 rfl rfl) (P5 13 5 1 2 6 rfl rfl rfl rfl rfl) fun _ H19 => ?_
  refine h_o H19 rfl (R_bin H19 rfl rfl rfl (B_add Tryz.underlying3 _ _ (by omega) (by omega))) (P5 14 5 1 2 6 rfl rfl rfl rfl rfl) fun _ H20 => ?_
  refine h_o H20 rfl (R_as H20 rfl rfl) (P4 6 5 1 2 rfl rfl rfl rfl) fun _ H21 => ?_
  refine h_end ?_
  repeat (go_not_at_region 999; go_step)
  refine ⟨S.L.length - (j + 1), by omega, (HI.out _ _ _).2 ⟨j + 1, ys ++ [j + 1], q2, c3, X2, rfl, hjl, H21.pick _ (P4 1 2 5 6 rfl rfl rfl rfl), by simp; omega, fun y hy => ?_, hp2, hL.front2c⟩⟩
  rcases List.mem_append.1 hy with hy | hy
  ·exact hys y hy
  ·rcases List.mem_singleton.1 hy with rfl
   omega
 ·repeat (go_not_at_region 3; go_step)
  refine wp_region_lit ?_
  refine h_o H0 rfl (R_mv H0 rfl rfl) (P5 8 1 2 5 6 rfl rfl rfl rfl rfl) fun _ H1 => ?_
  refine h_o H1 rfl (R_fa H1 rfl rfl fa_rf2) (P6 9 8 1 2 5 6 rfl rfl rfl rfl rfl rfl) fun _ H2 => ?_
  refine h_o H2 rfl (R_ld H2 rfl rfl (ld_sn (LV.cell hL.dropl 4))) (P6 10 8 1 2 5 6 rfl rfl rfl rfl rfl rfl) fun _ H3 => ?_
  refine h_o H3 rfl (R_lenS H3 rfl rfl Tryz.underlying53) (P6 11 8 1 2 5 6 rfl rfl rfl rfl rfl rfl) fun _ H4 => ?_
  refine h_o H4 rfl (R_bin H4 rfl rfl rfl (B_to (y := false) (B_lt Tryz.underlying3 _ _) (decide_eq_false (by omega)))) (P5 12 1 2 5 6 rfl rfl rfl rfl rfl) fun _ H5 => ?_
  refine h_end ?_
  repeat (go_not_at_region 7; go_step)
  refine wp_cond_false (H5.ev (x := .tmp 12) rfl) ?_
  repeat (go_not_at_region 7; go_step)
  refine wp_region_lit ?_
  refine h_o H5 rfl (R_mv H5 rfl rfl) (P3 27 1 5 rfl rfl rfl) fun _ H6 => ?_
  refine h_o H6 rfl (R_lenS H6 rfl rfl Tryz.underlying26) (P3 28 1 5 rfl rfl rfl) fun _ H7 => ?_
  refine h_o H7 rfl (R_bin H7 rfl rfl rfl (B_eq Tryz.underlying3 _ _)) (P3 29 1 5 rfl rfl rfl) fun _ H8 => ?_
  refine h_end ?_
  by_cases h0 : ys.length = 0
  ·rw [h0] at H8
   repeat (go_not_at_region 8; go_step)
   refine wp_cond_true (H8.ev (x := .tmp 29) rfl) ?_
   repeat (go_not_at_region 8; go_step)
   refine wp_region_lit ?_
   refine h_o H8 rfl (R_as H8 rfl rfl) (P1 4 rfl) fun _ H9 => ?_
   refine h_end ?_
   repeat (go_not_at_region 999; go_step)
   exact H9.ret1 rfl rfl ⟨_, rfl, by omega, by omega, hL.1⟩
  have h2 := Int.tmod_lt_of_pos z (show (0 : Int) < ys.length by omega)
  have h3 := Int.lt_tmod_of_pos z (show (0 : Int) < ys.length by omega)
  rw [beq_eq_false_iff_ne.2 (show ((ys.length : Nat) : Int) ≠ 0 by omega)] at H8
  repeat (go_not_at_region 9; go_step)
  refine wp_cond_false (H8.ev (x := .tmp 29) rfl) ?_
  repeat (go_not_at_region 9; go_step)
  refine wp_region_lit ?_
  refine h_o H8 rfl (R_mv H8 rfl rfl) (P2 30 5 rfl rfl) fun _ H9 => ?_
  refine h_o H9 rfl (R_mv H9 rfl rfl) (P3 31 30 5 rfl rfl rfl) fun _ H10 => ?_
  refine h_o H10 rfl (R_lenS H10 rfl rfl Tryz.underlying26) (P3 32 30 5 rfl rfl rfl) fun _ H11 => ?_
  refine h_o H11 rfl (R_bin H11 rfl rfl rfl (B_remP (by omega) (by omega))) (P2 33 5 rfl rfl) fun _ H12 => ?_
  refine h_o H12 rfl (R_as H12 rfl rfl) (P2 7 5 rfl rfl) fun _ H13 => ?_
  refine h_end ?_
  generalize z.tmod (ys.length : Nat) = r at h2 h3 H13
  have hfin : ∀ (k : Nat), k < ys.length → ∃ a, q = some a ∧ ∃ y : Nat, y ≤ 100000 ∧ wl.cell? (a.add k) = some (.int .i64 (y : Nat)) := fun k hk => by
   obtain ⟨a, ha, hc⟩ := prow_int hp hL rfl hk
   exact ⟨a, ha, _, hys _ (List.getElem_mem hk), hc⟩
  repeat (go_not_at_region 10; go_step)
  refine wp_region_lit ?_
  refine h_o H13 rfl (R_mv H13 rfl rfl) (P3 34 7 5 rfl rfl rfl) fun _ H14 => ?_
  refine h_o H14 rfl (R_bin H14 rfl rfl rfl (B_lt Tryz.underlying3 _ _)) (P3 35 7 5 rfl rfl rfl) fun _ H15 => ?_
  refine h_end ?_
  by_cases hneg : r < 0
  ·rw [decide_eq_true hneg] at H15
   obtain ⟨k, hk2⟩ : ∃ k : Nat, -r = k := ⟨(-r).toNat, by omega⟩
   have hk : k < ys.length := by omega
   obtain ⟨a, ha, y, hy, hc⟩ := hfin k hk
   repeat (go_not_at_region 11; go_step)
   refine wp_cond_true (H15.ev (x := .tmp 35) rfl) ?_
   repeat (go_not_at_region 11; go_step)
   refine wp_region_lit ?_
   refine h_o H15 rfl (R_mv H15 rfl rfl) (P3 36 7 5 rfl rfl rfl) fun _ H16 => ?_
   refine h_o H16 rfl (R_un H16 rfl rfl (ng_i64 r (by omega) (by omega))) (P3 37 7 5 rfl rfl rfl) fun _ H17 => ?_
   refine h_o H17 rfl (R_as H17 rfl rfl) (P2 7 5 rfl rfl) fun _ H18 => ?_
   refine h_end ?_
   rw [hk2] at H18
   repeat (go_not_at_region 12; go_step)
   refine wp_region_lit ?_
   refine h_o H18 rfl (R_mv H18 rfl rfl) (P2 38 7 rfl rfl) fun _ H19 => ?_
   refine h_o H19 rfl (R_mv H19 rfl rfl) (P2 39 38 rfl rfl) fun _ H20 => ?_
   refine h_o H20 rfl (R_ixa H20 rfl rfl rfl (ix_atE ha hk)) (P1 40 rfl) fun _ H21 => ?_
   refine h_o H21 rfl (R_ld H21 rfl rfl (ld_int hc)) (P1 41 rfl) fun _ H22 => ?_
   refine h_o H22 rfl (R_as H22 rfl rfl) (P1 4 rfl) fun _ H23 => ?_
   refine h_end ?_
   repeat (go_not_at_region 999; go_step)
   exact H23.ret1 rfl rfl ⟨_, rfl, by omega, by omega, hL.1⟩
  obtain ⟨k, rfl⟩ : ∃ k : Nat, r = k := ⟨r.toNat, by omega⟩
  rw [decide_eq_false hneg] at H15
  have hk : k < ys.length := by omega
  obtain ⟨a, ha, y, hy, hc⟩ := hfin k hk
  repeat (go_not_at_region 12; go_step)
  refine wp_cond_false (H15.ev (x := .tmp 35) rfl) ?_
  repeat (go_not_at_region 12; go_step)
  refine wp_region_lit ?_
  refine h_o H15 rfl (R_mv H15 rfl rfl) (P2 38 7 rfl rfl) fun _ H16 => ?_
  refine h_o H16 rfl (R_mv H16 rfl rfl) (P2 39 38 rfl rfl) fun _ H17 => ?_
  refine h_o H17 rfl (R_ixa H17 rfl rfl rfl (ix_atE ha hk)) (P1 40 rfl) fun _ H18 => ?_
  refine h_o H18 rfl (R_ld H18 rfl rfl (ld_int hc)) (P1 41 rfl) fun _ H19 => ?_
  refine h_o H19 rfl (R_as H19 rfl rfl) (P1 4 rfl) fun _ H20 => ?_
  refine h_end ?_
  repeat (go_not_at_region 999; go_step)
  exact H20.ret1 rfl rfl ⟨_, rfl, by omega, by omega, hL.1⟩
end
end Go.Proofs.YthkeiclhllikjaaGreat
