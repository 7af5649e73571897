/-
  The document's source: the least open number, a new one, what it sends.
-/
import Derived.Test.YthkeiclhllikjaaGreatPlA
import Derived.Test.YthkeiclhllikjaaGreatRg
set_option linter.unusedSimpArgs false
set_option linter.unusedVariables false
namespace Go.Proofs.YthkeiclhllikjaaGreat
open Go.RowKit R
section
variable {w0 W w : World} {L : List Thg} {S : PSrc} {vo vL v : Value} {M : List (PItem × Nat)} {x : PItem} {g i j n c : Nat} {a : Addr} {A : Option Addr} {t : PTab} {src : Int}
theorem snc_cell (h : RdC w 9 (.slice A M.length c) (M.map snC)) (e : A = some a) (hj : j < M.length) {k : Nat} {u : Value} (hu : (snC M[j])[k]? = some u) : w.cell? ((a.add (j * 9)).add k) = some u := by
 obtain ⟨a2, e2, h2⟩ := h.elem (List.length_map _) hj
 have e3 := e.symm.trans e2
 cases e3
 exact h2 k u (by rw [List.getElem_map]; exact hu)
theorem snc_addr (h : RdC w 9 (.slice A M.length c) (M.map snC)) (hj : j < M.length) : ∃ a, A = some a := by
 obtain ⟨a2, e2, h2⟩ := h.elem (List.length_map _) hj
 exact ⟨a2, e2⟩
theorem codeN_at (hj : j < M.length) : codeN M ((j + 1 : Nat) : Int) = M[j].2 := by
 unfold codeN
 rw [if_pos (by omega), show (((j + 1 : Nat) : Int) - 1).toNat = j by omega, List.getElem?_eq_getElem hj]
 rfl
theorem all_low (h : ∀ k : Nat, 1 ≤ k → k ≤ M.length → codeN M k ≠ 0) : lowN M = M.length + 1 := by
 have h1 := codeN_low (L := M)
 have h2 := lowN_pos (L := M)
 have h3 := lowN_le (L := M)
 rcases Nat.lt_or_ge M.length (lowN M) with h4 | h4
 ·omega
 ·exact absurd h1 (h _ h2 h4)
set_option maxRecDepth 100000 in
set_option maxHeartbeats 1000000 in
theorem rlow_any (hr : RdC W 9 vL (S.L.map snC)) (hn : S.L.length < 100000) : Calls Tryz.prog 24 #[.agg (rfC S vo vL)] W fun e W' => e = .returned (.int .i64 (lowN S.L : Nat)) ∧ Below W.heap.size W W' := by
 have K2 : ∀ {w}, Below W.heap.size W w → RdC w 9 vL (S.L.map snC) := fun hb => hr.kept fun k hk => hb.block k hk
 obtain ⟨A2, c2, rfl⟩ := hr.slc
 rw [List.length_map] at K2
 clear hr
 have hL := (Live.init W).alloc (rfC S vo (.slice A2 (S.L.map snC).length c2)) 55
 rw [List.length_map] at *
 go_enter Tryz.func24, Tryz.ntmps24
 refine wp_fr (n := 24) (m := [(0, _)]) ⟨rfl, rfl, by intro p hp; simp only [List.mem_cons, List.not_mem_nil, or_false] at hp; rcases hp with rfl <;> rfl⟩ fun a0 H0 => ?_
 repeat (go_not_at_region 0; go_step)
 refine wp_region_lit ?_
 refine h_o H0 rfl (R_box H0 rfl rfl bx_rf) (P1 1 rfl) fun _ H1 => ?_
 refine h_o H1 rfl (R_as H1 rfl rfl) (P1 1 rfl) fun _ H2 => ?_
 refine h_end ?_
 repeat (go_not_at_region 1; go_step)
 refine wp_region_lit ?_
 refine h_o H2 rfl (R_as H2 rfl rfl) (P2 3 1 rfl rfl) fun _ H3 => ?_
 refine h_end ?_
 repeat (go_not_at_region 2; go_step)
 obtain ⟨I, hI⟩ : ∃ I : Nat → Act → World → Prop, ∀ n a' w', I n a' w' ↔ ∃ j : Nat, n = S.L.length - j ∧ j ≤ S.L.length ∧ Fr a' 24 [(1, .pointer (some ⟨W.heap.size, 0, none⟩)), (3, .int .i64 (j : Nat))] ∧ (∀ k : Nat, 1 ≤ k → k ≤ j → codeN S.L k ≠ 0) ∧ Live W [(W.heap.size, (rfC S vo (.slice A2 S.L.length c2)), 55)] w' := ⟨_, fun _ _ _ => Iff.rfl⟩
 have HI := Lib.hid hI
 clear hI
 refine wp_loop_ghost I (S.L.length) ((HI.out _ _ _).2 ⟨0, rfl, Nat.zero_le _, H3.pick _ (P2 1 3 rfl rfl), fun k h1 h2 => by omega, hL⟩) ?_
 clear hL H3
 intro n a1 wl hi
 obtain ⟨j, rfl, hj, H0, hno, hL⟩ := (HI.out _ _ _).1 hi
 clear hi
 by_cases hjl : j < S.L.length
 ·repeat (go_not_at_region 2; go_step)
  refine wp_region_lit ?_
  refine h_o H0 rfl (R_mv H0 rfl rfl) (P3 4 1 3 rfl rfl rfl) fun _ H1 => ?_
  refine h_o H1 rfl (R_fa H1 rfl rfl fa_rf2) (P4 5 4 1 3 rfl rfl rfl rfl) fun _ H2 => ?_
  refine h_o H2 rfl (R_ld H2 rfl rfl (ld_sn (hL.cell 4))) (P4 6 4 1 3 rfl rfl rfl rfl) fun _ H3 => ?_
  refine h_o H3 rfl (R_lenS H3 rfl rfl Tryz.underlying53) (P4 7 4 1 3 rfl rfl rfl rfl) fun _ H4 => ?_
  refine h_o H4 rfl (R_bin H4 rfl rfl rfl (B_to (y := true) (B_lt Tryz.underlying3 _ _) (decide_eq_true (by omega)))) (P3 8 1 3 rfl rfl rfl) fun _ H5 => ?_
  refine h_end ?_
  repeat (go_not_at_region 4; go_step)
  refine wp_cond_true (H5.ev (x := .tmp 8) rfl) ?_
  obtain ⟨ad, hA⟩ := snc_addr (K2 hL.1) hjl
  have hc := codeN_at (M := S.L) hjl
  repeat (go_not_at_region 4; go_step)
  refine wp_region_lit ?_
  refine h_o H5 rfl (R_fa H5 rfl rfl fa_rf2) (P3 11 1 3 rfl rfl rfl) fun _ H6 => ?_
  refine h_o H6 rfl (R_ld H6 rfl rfl (ld_sn (hL.cell 4))) (P3 12 1 3 rfl rfl rfl) fun _ H7 => ?_
  refine h_o H7 rfl (R_mv H7 rfl rfl) (P4 13 12 1 3 rfl rfl rfl rfl) fun _ H8 => ?_
  refine h_o H8 rfl (R_ixa H8 rfl rfl rfl (ix_sn hA hjl)) (P3 14 1 3 rfl rfl rfl) fun _ H9 => ?_
  refine h_o H9 rfl (R_fa H9 rfl rfl fa_sn1) (P3 15 1 3 rfl rfl rfl) fun _ H10 => ?_
  refine h_o H10 rfl (R_ld H10 rfl rfl (ld_int (snc_cell (K2 hL.1) hA hjl rfl))) (P3 16 1 3 rfl rfl rfl) fun _ H11 => ?_
  refine h_o H11 rfl (R_bin H11 rfl rfl rfl (B_eq Tryz.underlying3 _ _)) (P3 17 1 3 rfl rfl rfl) fun _ H12 => ?_
  refine h_end ?_
  by_cases h0 : S.L[j].2 = 0
  ·repeat (go_not_at_region 5; go_step)
   refine wp_cond_true ((H12.ev (x := .tmp 17) rfl).trans (by rw [h0]; rfl)) ?_
   repeat (go_not_at_region 5; go_step)
   refine wp_region_lit ?_
   refine h_o H12 rfl (R_mv H12 rfl rfl) (P1 18 rfl) fun _ H13 => ?_
   refine h_o H13 rfl (R_bin H13 rfl rfl rfl (B_add Tryz.underlying3 _ _ (by omega) (by omega))) (P1 19 rfl) fun _ H14 => ?_
   refine h_o H14 rfl (R_as H14 rfl rfl) (P1 2 rfl) fun _ H15 => ?_
   refine h_end ?_
   repeat (go_not_at_region 999; go_step)
   refine H15.ret1 rfl rfl ⟨?_, hL.1⟩
   rw [lowN_of (L := S.L) (j := j + 1) (by omega) (fun k h1 h2 => hno k h1 (by omega)) (hc.trans h0)]
   rfl
  ·repeat (go_not_at_region 3; go_step)
   refine wp_cond_false ((H12.ev (x := .tmp 17) rfl).trans (by rw [beq_eq_false_iff_ne.2 (by omega)])) ?_
   repeat (go_not_at_region 3; go_step)
   refine wp_region_lit ?_
   refine h_o H12 rfl (R_mv H12 rfl rfl) (P3 9 1 3 rfl rfl rfl) fun _ H13 => ?_
   refine h_o H13 rfl (R_bin H13 rfl rfl rfl (B_add Tryz.underlying3 _ _ (by omega) (by omega))) (P3 10 1 3 rfl rfl rfl) fun _ H14 => ?_
   refine h_o H14 rfl (R_as H14 rfl rfl) (P2 3 1 rfl rfl) fun _ H15 => ?_
   refine h_end ?_
   repeat (go_not_at_region 999; go_step)
   refine ⟨S.L.length - (j + 1), by omega, (HI.out _ _ _).2 ⟨j + 1, rfl, hjl, H15.pick _ (P2 1 3 rfl rfl), fun k h1 h2 => ?_, hL⟩⟩
   rcases Nat.lt_or_ge k (j + 1) with h3 | h3
   ·exact hno k h1 (by omega)
   ·obtain rfl : k = j + 1 := by omega
    rw [hc]
    exact h0
 ·obtain rfl : j = S.L.length := by omega
  repeat (go_not_at_region 2; go_step)
  refine wp_region_lit ?_
  refine h_o H0 rfl (R_mv H0 rfl rfl) (P3 4 1 3 rfl rfl rfl) fun _ H1 => ?_
  refine h_o H1 rfl (R_fa H1 rfl rfl fa_rf2) (P4 5 4 1 3 rfl rfl rfl rfl) fun _ H2 => ?_
  refine h_o H2 rfl (R_ld H2 rfl rfl (ld_sn (hL.cell 4))) (P4 6 4 1 3 rfl rfl rfl rfl) fun _ H3 => ?_
  refine h_o H3 rfl (R_lenS H3 rfl rfl Tryz.underlying53) (P4 7 4 1 3 rfl rfl rfl rfl) fun _ H4 => ?_
  refine h_o H4 rfl (R_bin H4 rfl rfl rfl (B_to (y := false) (B_lt Tryz.underlying3 _ _) (decide_eq_false (by omega)))) (P3 8 1 3 rfl rfl rfl) fun _ H5 => ?_
  refine h_end ?_
  repeat (go_not_at_region 6; go_step)
  refine wp_cond_false (H5.ev (x := .tmp 8) rfl) ?_
  repeat (go_not_at_region 6; go_step)
  refine wp_region_lit ?_
  refine h_o H5 rfl (R_fa H5 rfl rfl fa_rf2) (P1 20 rfl) fun _ H6 => ?_
  refine h_o H6 rfl (R_ld H6 rfl rfl (ld_sn (hL.cell 4))) (P1 21 rfl) fun _ H7 => ?_
  refine h_o H7 rfl (R_lenS H7 rfl rfl Tryz.underlying53) (P1 22 rfl) fun _ H8 => ?_
  refine h_o H8 rfl (R_bin H8 rfl rfl rfl (B_add Tryz.underlying3 _ _ (by omega) (by omega))) (P1 23 rfl) fun _ H9 => ?_
  refine h_o H9 rfl (R_as H9 rfl rfl) (P1 2 rfl) fun _ H10 => ?_
  refine h_end ?_
  repeat (go_not_at_region 999; go_step)
  refine H10.ret1 rfl rfl ⟨?_, hL.1⟩
  rw [all_low hno]
  rfl
set_option maxRecDepth 100000 in
set_option maxHeartbeats 1000000 in
theorem rnew_any (hR : Rd W v t.own) (hl : t.own.length ≤ 1000000000000) : Calls Tryz.prog 21 #[.int .i64 src, .agg (tbC t v)] W fun e W' => (newB src t = true → e = .returned (.tuple #[.agg (rfC ⟨src, t, []⟩ v (.slice none 0 0)), .int .i64 0])) ∧ (newB src t = false → e = .returned (.tuple #[.agg (rfC rfZ (.slice none 0 0) (.slice none 0 0)), .int .i64 1])) ∧ Below W.heap.size W W' := by
 obtain ⟨A, c, rfl⟩ := hR.slc
 have K1 : ∀ {w}, Below W.heap.size W w → Rd w (.slice A t.own.length c) t.own := fun hb => hR.kept fun k hk => hb.block k hk
 have hL := LV.init W
 obtain ⟨y, hy⟩ : ∃ y, y = newB src t := ⟨_, rfl⟩
 rw [← hy]
 unfold newB at hy
 go_enter Tryz.func21, Tryz.ntmps21
 refine wp_fr (n := 21) (m := [(0, _), (1, _)]) ⟨rfl, rfl, by intro p hp; simp only [List.mem_cons, List.not_mem_nil, or_false] at hp; rcases hp with rfl | rfl <;> rfl⟩ fun a0 H0 => ?_
 repeat (go_not_at_region 0; go_step)
 refine wp_region_lit ?_
 refine h_opS [bk W.heap.size (tbC t (.slice A t.own.length c)) 28] H0 rfl (wn rfl) (R_box H0 rfl rfl bx_tb) (hL.alloc _ _) rfl (P2 3 0 rfl rfl) fun _ w1 H1 hL => ?_
 refine h_opS [bk w1.heap.size (rfC rfZ (.slice none 0 0) (.slice none 0 0)) 55, bk W.heap.size (tbC t (.slice A t.own.length c)) 28] H1 rfl (wn rfl) (R_alloc rfl al_rf) (hL.alloc _ _) rfl (P3 4 3 0 rfl rfl rfl) fun _ w2 H2 hL => ?_
 refine h_o H2 rfl (R_as H2 rfl rfl) (P3 4 3 0 rfl rfl rfl) fun _ H3 => ?_
 refine h_end ?_
 obtain ⟨g3, hg3⟩ : ∃ g, g = W.heap.size := ⟨_, rfl⟩
 obtain ⟨g4, hg4⟩ : ∃ g, g = w1.heap.size := ⟨_, rfl⟩
 rw [← hg3, ← hg4] at H3 hL
 clear hg3 hg4
 repeat (go_not_at_region 1; go_step)
 refine wp_region_lit ?_
 refine h_o H3 rfl (R_mv H3 rfl rfl) (P4 6 4 3 0 rfl rfl rfl rfl) fun _ H4 => ?_
 refine h_o H4 rfl (R_bin H4 rfl rfl rfl (B_lt Tryz.underlying3 _ _)) (P4 7 4 3 0 rfl rfl rfl rfl) fun _ H5 => ?_
 refine h_o H5 rfl (R_mv H5 rfl rfl) (P4 8 4 3 0 rfl rfl rfl rfl) fun _ H6 => ?_
 replace H6 := H6.pick [(0, .int .i64 src), (3, .pointer (some ⟨g3, 0, none⟩)), (4, .pointer (some ⟨g4, 0, none⟩)), (8, .bool (decide (src < 0)))] (P4 0 3 4 8 rfl rfl rfl rfl)
 generalize ht0 : (decide (src < 0)) = t0 at H6
 refine wpList_cut [_, _, _, _] (R := fun a' w' => Fr a' 21 [(0, .int .i64 src), (3, .pointer (some ⟨g3, 0, none⟩)), (4, .pointer (some ⟨g4, 0, none⟩)), (12, .bool (t0 || (decide (src > 3))))] ∧ LV W [bk g4 (rfC rfZ (.slice none 0 0) (.slice none 0 0)) 55, bk g3 (tbC t (.slice A t.own.length c)) 28] w') ?_ ?_
 ·cases t0
  ·refine h_op H6 rfl (H6.wt rfl rfl rfl) (R_mv H6 rfl rfl) rfl (P5 9 0 3 4 8 rfl rfl rfl rfl rfl) fun a7 H7 => ?_
   refine h_op H7 rfl (H7.wt rfl rfl rfl) (R_bin H7 rfl rfl rfl (B_gt Tryz.underlying3 _ _)) rfl (P5 10 0 3 4 8 rfl rfl rfl rfl rfl) fun _ H8 => ?_
   refine h_o H8 rfl (R_pick H8 rfl rfl rfl) (P4 11 0 3 4 rfl rfl rfl rfl) fun _ H9 => ?_
   refine h_o H9 rfl (R_mv H9 rfl rfl) (P4 12 0 3 4 rfl rfl rfl rfl) fun _ H10 => ?_
   exact h_end ⟨H10.pick _ (P4 0 3 4 12 rfl rfl rfl rfl), hL⟩
  ·refine h_skip H6 rfl (H6.wf rfl rfl rfl) rfl (P5 9 0 3 4 8 rfl rfl rfl rfl rfl) fun a7 H7 => ?_
   refine h_skip H7 rfl (H7.wf rfl rfl rfl) rfl (P5 10 0 3 4 8 rfl rfl rfl rfl rfl) fun _ H8 => ?_
   refine h_o H8 rfl (R_pick H8 rfl rfl rfl) (P4 11 0 3 4 rfl rfl rfl rfl) fun _ H9 => ?_
   refine h_o H9 rfl (R_mv H9 rfl rfl) (P4 12 0 3 4 rfl rfl rfl rfl) fun _ H10 => ?_
   exact h_end ⟨H10.pick _ (P4 0 3 4 12 rfl rfl rfl rfl), hL⟩
 clear hL H6
 rintro a11 wx ⟨H11, hL⟩
 generalize ht1 : (t0 || (decide (src > 3))) = t1 at H11
 refine wpList_cut [_, _, _, _] (R := fun a' w' => Fr a' 21 [(0, .int .i64 src), (3, .pointer (some ⟨g3, 0, none⟩)), (4, .pointer (some ⟨g4, 0, none⟩)), (16, .bool (t1 || (!(rightT t))))] ∧ LV W [bk g4 (rfC rfZ (.slice none 0 0) (.slice none 0 0)) 55, bk g3 (tbC t (.slice A t.own.length c)) 28] w') ?_ ?_
 ·cases t1
  ·refine h_op H11 rfl (H11.wt rfl rfl rfl) (R_ld H11 rfl rfl (ld_tb (t := t) hL.tail.at_)) rfl (P5 13 0 3 4 12 rfl rfl rfl rfl rfl) fun a12 H12 => ?_
   refine h_call H12 rfl (H12.wt rfl rfl rfl) (R_call1 H12 rfl rfl (fun w => by simp [go_sem])) rfl ?_
   refine (rRight_any (K1 hL.1) hl).mono ?_
   rintro e w13 ⟨rfl, hb⟩
   replace hL := hL.call hb
   clear hb
   refine ⟨_, rfl, fun a13 HH => ?_⟩
   have H13 := HH _ (P5 14 0 3 4 12 rfl rfl rfl rfl rfl)
   refine h_op H13 rfl (H13.wt rfl rfl rfl) (R_not H13 rfl rfl) rfl (P5 15 0 3 4 12 rfl rfl rfl rfl rfl) fun _ H14 => ?_
   refine h_o H14 rfl (R_pick H14 rfl rfl rfl) (P4 16 0 3 4 rfl rfl rfl rfl) fun _ H15 => ?_
   exact h_end ⟨H15.pick _ (P4 0 3 4 16 rfl rfl rfl rfl), hL⟩
  ·refine h_skip H11 rfl (H11.wf rfl rfl rfl) rfl (P5 13 0 3 4 12 rfl rfl rfl rfl rfl) fun a12 H12 => ?_
   refine h_skip H12 rfl (H12.wf rfl rfl rfl) rfl (P5 14 0 3 4 12 rfl rfl rfl rfl rfl) fun _ H13 => ?_
   refine h_skip H13 rfl (H13.wf rfl rfl rfl) rfl (P5 15 0 3 4 12 rfl rfl rfl rfl rfl) fun _ H14 => ?_
   refine h_o H14 rfl (R_pick H14 rfl rfl rfl) (P4 16 0 3 4 rfl rfl rfl rfl) fun _ H15 => ?_
   exact h_end ⟨H15.pick _ (P4 0 3 4 16 rfl rfl rfl rfl), hL⟩
 clear hL H11
 rintro a16 wx ⟨H16, hL⟩
 generalize ht2 : (t1 || (!(rightT t))) = t2 at H16
 refine h_end ?_
 have hb : y = !t2 := by
  rw [hy, ← ht2, ← ht1, ← ht0, show decide (src ≥ 4) = decide (src > 3) from decide_eq_decide.2 (by omega)]
 clear hy
 cases t2
 rotate_left
 ·repeat (go_not_at_region 2; go_step)
  refine wp_cond_true (H16.ev (x := .tmp 16) rfl) ?_
  repeat (go_not_at_region 2; go_step)
  refine wp_region_lit ?_
  refine h_o H16 rfl (R_build rfl bd_rf0) (P2 17 4 rfl rfl) fun _ H17 => ?_
  refine h_stS [bk g4 (rfC rfZ (.slice none 0 0) (.slice none 0 0)) 55, bk g3 (tbC t (.slice A t.own.length c)) 28] H17 rfl (wn rfl) (R_st H17 rfl rfl rfl (st_rf (S := rfZ) hL.at_ rfl rfl)) (hL.row _) fun _ w18 H18 hL => ?_
  refine h_o H18 rfl (R_as H18 rfl rfl) (P2 5 4 rfl rfl) fun _ H19 => ?_
  refine h_end ?_
  repeat (go_not_at_region 999; go_step)
  exact bodyPost_ret (v := .tuple #[.agg (rfC rfZ (.slice none 0 0) (.slice none 0 0)), .int .i64 1]) (rf_results2 rfl (H19.getD rfl) (H19.getD rfl) hL.at_) H19.1 ⟨fun h => (by rw [hb] at h; cases h), fun _ => rfl, hL.1⟩
 repeat (go_not_at_region 3; go_step)
 refine wp_cond_false (H16.ev (x := .tmp 16) rfl) ?_
 repeat (go_not_at_region 3; go_step)
 refine wp_region_lit ?_
 refine h_o H16 rfl (R_mv H16 rfl rfl) (P3 18 3 4 rfl rfl rfl) fun _ H17 => ?_
 refine h_o H17 rfl (R_ld H17 rfl rfl (ld_tb (t := t) hL.tail.at_)) (P3 19 18 4 rfl rfl rfl) fun _ H18 => ?_
 refine h_o H18 rfl (R_bd2 H18 rfl rfl rfl bd_rf) (P2 20 4 rfl rfl) fun _ H19 => ?_
 refine h_stS [bk g4 (rfC ⟨src, t, []⟩ (.slice A t.own.length c) (.slice none 0 0)) 55, bk g3 (tbC t (.slice A t.own.length c)) 28] H19 rfl (wn rfl) (R_st H19 rfl rfl rfl (st_rf (S := ⟨src, t, []⟩) hL.at_ rfl rfl)) (hL.row _) fun _ w20 H20 hL => ?_
 refine h_o H20 rfl (R_as H20 rfl rfl) (P2 5 4 rfl rfl) fun _ H21 => ?_
 refine h_end ?_
 repeat (go_not_at_region 999; go_step)
 exact bodyPost_ret (v := .tuple #[.agg (rfC ⟨src, t, []⟩ (.slice A t.own.length c) (.slice none 0 0)), .int .i64 0]) (rf_results2 rfl (H21.getD rfl) (H21.getD rfl) hL.at_) H21.1 ⟨fun _ => rfl, fun h => (by rw [hb] at h; cases h), hL.1⟩
end
end Go.Proofs.YthkeiclhllikjaaGreat
/-
 The document's source: what it sends.
-/
namespace Go.Proofs.YthkeiclhllikjaaGreat
open Go.RowKit R
section
variable {w0 W w : World} {L X R : List Thg} {S : PSrc} {vo vL v : Value} {M : List (PItem × Nat)} {x : PItem} {g i j n c : Nat} {a : Addr} {A : Option Addr} {t : PTab} {src : Int} {p q r : Thg}
theorem LV.pull3 (h : LV w0 (X ++ (p :: q :: r :: R)) w) : LV w0 (p :: q :: r :: (X ++ R)) w := h.perm (List.perm_append_comm_assoc X [p, q, r] R)
theorem LV.front (h : LV w0 (p :: (X ++ R)) w) : LV w0 (X ++ (p :: R)) w := h.perm List.perm_middle.symm
theorem LV.to4 {a b c d : Thg} (h : LV w0 (a :: b :: c :: (X ++ [d])) w) : LV w0 (d :: (X ++ [a, b, c])) w := by
 have h2 : LV w0 (X ++ [a, b, c, d]) w := h.perm (List.perm_append_comm_assoc [a, b, c] X [d])
 have h3 := h2.perm ((List.perm_append_comm (l₁ := [a, b, c]) (l₂ := [d])).append_left X)
 exact h3.perm List.perm_middle
theorem LV.to4b {a b c d : Thg} (h : LV w0 (d :: (X ++ [a, b, c])) w) : LV w0 (c :: d :: (X ++ [a, b])) w := by
 have h2 : LV w0 (d :: (X ++ (c :: [a, b]))) w := h.perm (((List.perm_append_comm (l₁ := [a, b]) (l₂ := [c])).append_left X).cons d)
 exact (h2.perm (List.perm_middle.cons d)).swap
theorem st_sn {q2 q3 : Option Addr} {n2 c2 n3 c3 : Nat} {A : Array Value} {t : TypeId} {i : Nat} (h : LV w0 (bk g A t :: L) w) (hc : A[i]? = some (.slice q2 n2 c2)) : (Instr.storeAt 53 (.pointer (some ⟨g, i, none⟩)) (.slice q3 n3 c3)).run Tryz.prog w = .ok () (w.setCell ⟨g, i, none⟩ (.slice q3 n3 c3)) := by
 have hc2 := (h.cell i).trans hc
 have hz := h.thaw i
 simp [go_sem, hc2, hz]
def RowN (S S' : PSrc) (vL vL' : Value) (X : List Thg) : Prop := (S'.L = S.L ∧ vL' = vL ∧ X = []) ∨ PRow 64 9 vL' S'.L.length (snF S'.L) X
set_option maxRecDepth 100000 in
set_option maxHeartbeats 4000000 in
theorem rsend_any (hv : Rd W vo S.t.own) (hr : RdC W 9 vL (S.L.map snC)) (hn : S.L.length < 100000) : Calls Tryz.prog 44 #[.agg (rfC S vo vL), .agg (itC x)] W fun e W' => ∃ vL' X, e = .returned (.tuple #[.agg (rfC (sendM S x).1 vo vL'), .int .i64 (sendM S x).2.1, .int .i64 (sendM S x).2.2]) ∧ RowN S (sendM S x).1 vL vL' X ∧ LV W X W' := by
 obtain ⟨A, c, rfl⟩ := hv.slc
 have K2 : ∀ {w}, Below W.heap.size W w → RdC w 9 vL (S.L.map snC) := fun hb => hr.kept fun k hk => hb.block k hk
 obtain ⟨A2, c2, rfl⟩ := hr.slc
 rw [List.length_map] at K2
 clear hr
 rw [List.length_map] at *
 have hL := LV.init W
 have hlo := lowN_le (L := S.L)
 obtain ⟨y, hy⟩ : ∃ y, y = sendM S x := ⟨_, rfl⟩
 rw [← hy]
 unfold sendM at hy
 go_enter Tryz.func44, Tryz.ntmps44
 refine wp_fr (n := 74) (m := [(0, _), (1, _)]) ⟨rfl, rfl, by intro p hp; simp only [List.mem_cons, List.not_mem_nil, or_false] at hp; rcases hp with rfl | rfl <;> rfl⟩ fun a0 H0 => ?_
 repeat (go_not_at_region 0; go_step)
 refine wp_region_lit ?_
 refine h_opS [bk W.heap.size (rfC S (.slice A S.t.own.length c) (.slice A2 S.L.length c2)) 55] H0 rfl (wn rfl) (R_box H0 rfl rfl bx_rf) (hL.alloc _ _) rfl (P2 2 1 rfl rfl) fun _ w1 H1 hL => ?_
 refine h_opS [bk w1.heap.size (itC x) 33, bk W.heap.size (rfC S (.slice A S.t.own.length c) (.slice A2 S.L.length c2)) 55] H1 rfl (wn rfl) (R_box H1 rfl rfl bx_it) (hL.alloc _ _) rfl (P2 3 2 rfl rfl) fun _ w2 H2 hL => ?_
 refine h_opS [bk w2.heap.size (rfC rfZ (.slice none 0 0) (.slice none 0 0)) 55, bk w1.heap.size (itC x) 33, bk W.heap.size (rfC S (.slice A S.t.own.length c) (.slice A2 S.L.length c2)) 55] H2 rfl (wn rfl) (R_alloc rfl al_rf) (hL.alloc _ _) rfl (P3 4 3 2 rfl rfl rfl) fun _ w3 H3 hL => ?_
 refine h_o H3 rfl (R_as H3 rfl rfl) (P3 4 3 2 rfl rfl rfl) fun _ H4 => ?_
 refine h_o H4 rfl (R_as H4 rfl rfl) (P3 4 3 2 rfl rfl rfl) fun _ H5 => ?_
 refine h_end ?_
 obtain ⟨gs, hgs⟩ : ∃ g, g = W.heap.size := ⟨_, rfl⟩
 obtain ⟨gi, hgi⟩ : ∃ g, g = w1.heap.size := ⟨_, rfl⟩
 obtain ⟨gr, hgr⟩ : ∃ g, g = w2.heap.size := ⟨_, rfl⟩
 rw [← hgs, ← hgi, ← hgr] at H5 hL
 clear hgs hgi hgr
 repeat (go_not_at_region 1; go_step)
 refine wp_region_lit ?_
 refine h_o H5 rfl (R_fa H5 rfl rfl (fi_k (by decide))) (P4 9 4 3 2 rfl rfl rfl rfl) fun _ H6 => ?_
 refine h_o H6 rfl (R_ld H6 rfl rfl (ld_u8 (hL.tail.cell 3))) (P4 10 4 3 2 rfl rfl rfl rfl) fun _ H7 => ?_
 refine h_o H7 rfl (R_bin H7 rfl rfl rfl (B8_ne _ _)) (P4 11 4 3 2 rfl rfl rfl rfl) fun _ H8 => ?_
 refine h_o H8 rfl (R_mv H8 rfl rfl) (P4 12 4 3 2 rfl rfl rfl rfl) fun _ H9 => ?_
 replace H9 := H9.pick [(2, .pointer (some ⟨gs, 0, none⟩)), (3, .pointer (some ⟨gi, 0, none⟩)), (4, .pointer (some ⟨gr, 0, none⟩)), (12, .bool ((x.kind : Int) != 1))] (P4 2 3 4 12 rfl rfl rfl rfl)
 generalize hu0 : ((x.kind : Int) != 1) = u0 at H9
 refine wpList_cut [_, _, _, _] (R := fun a' w' => Fr a' 74 [(2, .pointer (some ⟨gs, 0, none⟩)), (3, .pointer (some ⟨gi, 0, none⟩)), (4, .pointer (some ⟨gr, 0, none⟩)), (16, .bool (u0 && ((x.kind : Int) != 2)))] ∧ LV W [bk gr (rfC rfZ (.slice none 0 0) (.slice none 0 0)) 55, bk gi (itC x) 33, bk gs (rfC S (.slice A S.t.own.length c) (.slice A2 S.L.length c2)) 55] w') ?_ ?_
 ·cases u0
  ·refine h_skip H9 rfl (H9.wf rfl rfl rfl) rfl (P5 13 2 3 4 12 rfl rfl rfl rfl rfl) fun a10 H10 => ?_
   refine h_skip H10 rfl (H10.wf rfl rfl rfl) rfl (P5 14 2 3 4 12 rfl rfl rfl rfl rfl) fun _ H11 => ?_
   refine h_skip H11 rfl (H11.wf rfl rfl rfl) rfl (P5 15 2 3 4 12 rfl rfl rfl rfl rfl) fun _ H12 => ?_
   refine h_o H12 rfl (R_pick H12 rfl rfl rfl) (P4 16 2 3 4 rfl rfl rfl rfl) fun _ H13 => ?_
   exact h_end ⟨H13.pick _ (P4 2 3 4 16 rfl rfl rfl rfl), hL⟩
  ·refine h_op H9 rfl (H9.wt rfl rfl rfl) (R_fa H9 rfl rfl (fi_k (by decide))) rfl (P5 13 2 3 4 12 rfl rfl rfl rfl rfl) fun a10 H10 => ?_
   refine h_op H10 rfl (H10.wt rfl rfl rfl) (R_ld H10 rfl rfl (ld_u8 (hL.tail.cell 3))) rfl (P5 14 2 3 4 12 rfl rfl rfl rfl rfl) fun _ H11 => ?_
   refine h_op H11 rfl (H11.wt rfl rfl rfl) (R_bin H11 rfl rfl rfl (B8_ne _ _)) rfl (P5 15 2 3 4 12 rfl rfl rfl rfl rfl) fun _ H12 => ?_
   refine h_o H12 rfl (R_pick H12 rfl rfl rfl) (P4 16 2 3 4 rfl rfl rfl rfl) fun _ H13 => ?_
   exact h_end ⟨H13.pick _ (P4 2 3 4 16 rfl rfl rfl rfl), hL⟩
 clear hL H9
 rintro a14 wx ⟨H14, hL⟩
 generalize hu1 : (u0 && ((x.kind : Int) != 2)) = u1 at H14
 refine h_end ?_
 by_cases hk : x.kind ≠ 1 ∧ x.kind ≠ 2
 ·rw [if_pos hk] at hy
  have hu : u1 = true := by
   rw [← hu1, ← hu0, bne_iff_ne.2 (show (x.kind : Int) ≠ 1 by omega), bne_iff_ne.2 (show (x.kind : Int) ≠ 2 by omega)]
   rfl
  subst hu
  repeat (go_not_at_region 2; go_step)
  refine wp_cond_true (H14.ev (x := .tmp 16) rfl) ?_
  repeat (go_not_at_region 2; go_step)
  refine wp_region_lit ?_
  refine h_o H14 rfl (R_ld H14 rfl rfl (ld_rf hL.tail.tail.at_)) (P2 17 4 rfl rfl) fun _ H15 => ?_
  refine h_stS [bk gr (rfC S (.slice A S.t.own.length c) (.slice A2 S.L.length c2)) 55, bk gi (itC x) 33, bk gs (rfC S (.slice A S.t.own.length c) (.slice A2 S.L.length c2)) 55] H15 rfl (wn rfl) (R_st H15 rfl rfl rfl (st_rf (S := S) hL.at_ rfl rfl)) (hL.row _) fun _ w16 H16 hL => ?_
  refine h_o H16 rfl (R_as H16 rfl rfl) (P2 5 4 rfl rfl) fun _ H17 => ?_
  refine h_o H17 rfl (R_as H17 rfl rfl) (P3 6 5 4 rfl rfl rfl) fun _ H18 => ?_
  refine h_end ?_
  repeat (go_not_at_region 999; go_step)
  subst hy
  exact bodyPost_ret (v := .tuple #[.agg (rfC S (.slice A S.t.own.length c) (.slice A2 S.L.length c2)), .int .i64 0, .int .i64 10]) (rf_results3 rfl (H18.getD rfl) (H18.getD rfl) (H18.getD rfl) hL.at_) H18.1 ⟨_, [], rfl, .inl ⟨rfl, rfl, rfl⟩, hL.tail.tail.tail⟩
 rw [if_neg hk] at hy
 have hu : u1 = false := by
  rw [← hu1, ← hu0, Bool.and_eq_false_iff]
  by_cases h1 : x.kind = 1
  ·exact .inl (by rw [h1]; rfl)
  ·exact .inr (by rw [show x.kind = 2 by omega]; rfl)
 subst hu
 repeat (go_not_at_region 3; go_step)
 refine wp_cond_false (H14.ev (x := .tmp 16) rfl) ?_
 by_cases hz : 255 < x.key.size
 ·rw [if_pos hz] at hy
  repeat (go_not_at_region 3; go_step)
  refine wp_region_lit ?_
  refine h_o H14 rfl (R_fa H14 rfl rfl (fi_k (by decide))) (P4 18 2 3 4 rfl rfl rfl rfl) fun _ H15 => ?_
  refine h_o H15 rfl (R_ld H15 rfl rfl (ld_str (hL.tail.cell 4))) (P4 19 2 3 4 rfl rfl rfl rfl) fun _ H16 => ?_
  refine h_o H16 rfl (R_len H16 rfl rfl Tryz.underlying9) (P4 20 2 3 4 rfl rfl rfl rfl) fun _ H17 => ?_
  refine h_o H17 rfl (R_bin H17 rfl rfl rfl (B_to (y := true) (B_gt Tryz.underlying3 _ _) (decide_eq_true (by omega)))) (P4 21 2 3 4 rfl rfl rfl rfl) fun _ H18 => ?_
  refine h_end ?_
  repeat (go_not_at_region 4; go_step)
  refine wp_cond_true (H18.ev (x := .tmp 21) rfl) ?_
  repeat (go_not_at_region 4; go_step)
  refine wp_region_lit ?_
  refine h_o H18 rfl (R_ld H18 rfl rfl (ld_rf hL.tail.tail.at_)) (P2 22 4 rfl rfl) fun _ H19 => ?_
  refine h_stS [bk gr (rfC S (.slice A S.t.own.length c) (.slice A2 S.L.length c2)) 55, bk gi (itC x) 33, bk gs (rfC S (.slice A S.t.own.length c) (.slice A2 S.L.length c2)) 55] H19 rfl (wn rfl) (R_st H19 rfl rfl rfl (st_rf (S := S) hL.at_ rfl rfl)) (hL.row _) fun _ w20 H20 hL => ?_
  refine h_o H20 rfl (R_as H20 rfl rfl) (P2 5 4 rfl rfl) fun _ H21 => ?_
  refine h_o H21 rfl (R_as H21 rfl rfl) (P3 6 5 4 rfl rfl rfl) fun _ H22 => ?_
  refine h_end ?_
  repeat (go_not_at_region 999; go_step)
  subst hy
  exact bodyPost_ret (v := .tuple #[.agg (rfC S (.slice A S.t.own.length c) (.slice A2 S.L.length c2)), .int .i64 0, .int .i64 3]) (rf_results3 rfl (H22.getD rfl) (H22.getD rfl) (H22.getD rfl) hL.at_) H22.1 ⟨_, [], rfl, .inl ⟨rfl, rfl, rfl⟩, hL.tail.tail.tail⟩
 rw [if_neg hz] at hy
 repeat (go_not_at_region 3; go_step)
 refine wp_region_lit ?_
 refine h_o H14 rfl (R_fa H14 rfl rfl (fi_k (by decide))) (P4 18 2 3 4 rfl rfl rfl rfl) fun _ H15 => ?_
 refine h_o H15 rfl (R_ld H15 rfl rfl (ld_str (hL.tail.cell 4))) (P4 19 2 3 4 rfl rfl rfl rfl) fun _ H16 => ?_
 refine h_o H16 rfl (R_len H16 rfl rfl Tryz.underlying9) (P4 20 2 3 4 rfl rfl rfl rfl) fun _ H17 => ?_
 refine h_o H17 rfl (R_bin H17 rfl rfl rfl (B_to (y := false) (B_gt Tryz.underlying3 _ _) (decide_eq_false (by omega)))) (P4 21 2 3 4 rfl rfl rfl rfl) fun _ H18 => ?_
 refine h_end ?_
 repeat (go_not_at_region 5; go_step)
 refine wp_cond_false (H18.ev (x := .tmp 21) rfl) ?_
 repeat (go_not_at_region 5; go_step)
 refine wp_region_lit ?_
 refine h_o H18 rfl (R_fa H18 rfl rfl (fi_k (by decide))) (P4 23 2 3 4 rfl rfl rfl rfl) fun _ H19 => ?_
 refine h_o H19 rfl (R_ld H19 rfl rfl (ld_u8 (hL.tail.cell 3))) (P4 24 2 3 4 rfl rfl rfl rfl) fun _ H20 => ?_
 refine h_o H20 rfl (R_bin H20 rfl rfl rfl (B8_eq _ _)) (P4 25 2 3 4 rfl rfl rfl rfl) fun _ H21 => ?_
 refine h_o H21 rfl (R_mv H21 rfl rfl) (P4 26 2 3 4 rfl rfl rfl rfl) fun _ H22 => ?_
 replace H22 := H22.pick [(2, .pointer (some ⟨gs, 0, none⟩)), (3, .pointer (some ⟨gi, 0, none⟩)), (4, .pointer (some ⟨gr, 0, none⟩)), (26, .bool ((x.kind : Int) == 1))] (P4 2 3 4 26 rfl rfl rfl rfl)
 generalize hs0 : ((x.kind : Int) == 1) = s0 at H22
 refine wpList_cut [_, _, _, _, _] (R := fun a' w' => Fr a' 74 [(2, .pointer (some ⟨gs, 0, none⟩)), (3, .pointer (some ⟨gi, 0, none⟩)), (4, .pointer (some ⟨gr, 0, none⟩)), (31, .bool (s0 && (x.part != 0)))] ∧ LV W [bk gr (rfC rfZ (.slice none 0 0) (.slice none 0 0)) 55, bk gi (itC x) 33, bk gs (rfC S (.slice A S.t.own.length c) (.slice A2 S.L.length c2)) 55] w') ?_ ?_
 ·cases s0
  ·refine h_skip H22 rfl (H22.wf rfl rfl rfl) rfl (P5 27 2 3 4 26 rfl rfl rfl rfl rfl) fun a23 H23 => ?_
   refine h_skip H23 rfl (H23.wf rfl rfl rfl) rfl (P5 28 2 3 4 26 rfl rfl rfl rfl rfl) fun _ H24 => ?_
   refine h_skip H24 rfl (H24.wf rfl rfl rfl) rfl (P5 29 2 3 4 26 rfl rfl rfl rfl rfl) fun _ H25 => ?_
   refine h_o H25 rfl (R_pick H25 rfl rfl rfl) (P4 30 2 3 4 rfl rfl rfl rfl) fun _ H26 => ?_
   refine h_o H26 rfl (R_mv H26 rfl rfl) (P4 31 2 3 4 rfl rfl rfl rfl) fun _ H27 => ?_
   exact h_end ⟨H27.pick _ (P4 2 3 4 31 rfl rfl rfl rfl), hL⟩
  ·refine h_op H22 rfl (H22.wt rfl rfl rfl) (R_fa H22 rfl rfl (fi_k (by decide))) rfl (P5 27 2 3 4 26 rfl rfl rfl rfl rfl) fun a23 H23 => ?_
   refine h_op H23 rfl (H23.wt rfl rfl rfl) (R_ld H23 rfl rfl (ld_int (hL.tail.cell 5))) rfl (P5 28 2 3 4 26 rfl rfl rfl rfl rfl) fun _ H24 => ?_
   refine h_op H24 rfl (H24.wt rfl rfl rfl) (R_bin H24 rfl rfl rfl (B_ne Tryz.underlying3 _ _)) rfl (P5 29 2 3 4 26 rfl rfl rfl rfl rfl) fun _ H25 => ?_
   refine h_o H25 rfl (R_pick H25 rfl rfl rfl) (P4 30 2 3 4 rfl rfl rfl rfl) fun _ H26 => ?_
   refine h_o H26 rfl (R_mv H26 rfl rfl) (P4 31 2 3 4 rfl rfl rfl rfl) fun _ H27 => ?_
   exact h_end ⟨H27.pick _ (P4 2 3 4 31 rfl rfl rfl rfl), hL⟩
 clear hL H22
 rintro a28 wx ⟨H28, hL⟩
 generalize hs1 : (s0 && (x.part != 0)) = s1 at H28
 refine wpList_cut [_, _, _, _, _] (R := fun a' w' => Fr a' 74 [(2, .pointer (some ⟨gs, 0, none⟩)), (3, .pointer (some ⟨gi, 0, none⟩)), (4, .pointer (some ⟨gr, 0, none⟩)), (36, .bool (s1 || (decide (x.part < 0))))] ∧ LV W [bk gr (rfC rfZ (.slice none 0 0) (.slice none 0 0)) 55, bk gi (itC x) 33, bk gs (rfC S (.slice A S.t.own.length c) (.slice A2 S.L.length c2)) 55] w') ?_ ?_
 ·cases s1
  ·refine h_op H28 rfl (H28.wt rfl rfl rfl) (R_fa H28 rfl rfl (fi_k (by decide))) rfl (P5 32 2 3 4 31 rfl rfl rfl rfl rfl) fun a29 H29 => ?_
   refine h_op H29 rfl (H29.wt rfl rfl rfl) (R_ld H29 rfl rfl (ld_int (hL.tail.cell 5))) rfl (P5 33 2 3 4 31 rfl rfl rfl rfl rfl) fun _ H30 => ?_
   refine h_op H30 rfl (H30.wt rfl rfl rfl) (R_bin H30 rfl rfl rfl (B_lt Tryz.underlying3 _ _)) rfl (P5 34 2 3 4 31 rfl rfl rfl rfl rfl) fun _ H31 => ?_
   refine h_o H31 rfl (R_pick H31 rfl rfl rfl) (P4 35 2 3 4 rfl rfl rfl rfl) fun _ H32 => ?_
   refine h_o H32 rfl (R_mv H32 rfl rfl) (P4 36 2 3 4 rfl rfl rfl rfl) fun _ H33 => ?_
   exact h_end ⟨H33.pick _ (P4 2 3 4 36 rfl rfl rfl rfl), hL⟩
  ·refine h_skip H28 rfl (H28.wf rfl rfl rfl) rfl (P5 32 2 3 4 31 rfl rfl rfl rfl rfl) fun a29 H29 => ?_
   refine h_skip H29 rfl (H29.wf rfl rfl rfl) rfl (P5 33 2 3 4 31 rfl rfl rfl rfl rfl) fun _ H30 => ?_
   refine h_skip H30 rfl (H30.wf rfl rfl rfl) rfl (P5 34 2 3 4 31 rfl rfl rfl rfl rfl) fun _ H31 => ?_
   refine h_o H31 rfl (R_pick H31 rfl rfl rfl) (P4 35 2 3 4 rfl rfl rfl rfl) fun _ H32 => ?_
   refine h_o H32 rfl (R_mv H32 rfl rfl) (P4 36 2 3 4 rfl rfl rfl rfl) fun _ H33 => ?_
   exact h_end ⟨H33.pick _ (P4 2 3 4 36 rfl rfl rfl rfl), hL⟩
 clear hL H28
 rintro a34 wx ⟨H34, hL⟩
 generalize hs2 : (s1 || (decide (x.part < 0))) = s2 at H34
 refine wpList_cut [_, _, _, _, _, _, _, _] (R := fun a' w' => Fr a' 74 [(2, .pointer (some ⟨gs, 0, none⟩)), (3, .pointer (some ⟨gi, 0, none⟩)), (4, .pointer (some ⟨gr, 0, none⟩)), (44, .bool (s2 || (decide (x.part ≥ (S.t.own.length : Int)))))] ∧ LV W [bk gr (rfC rfZ (.slice none 0 0) (.slice none 0 0)) 55, bk gi (itC x) 33, bk gs (rfC S (.slice A S.t.own.length c) (.slice A2 S.L.length c2)) 55] w') ?_ ?_
 ·cases s2
  ·refine h_op H34 rfl (H34.wt rfl rfl rfl) (R_fa H34 rfl rfl (fi_k (by decide))) rfl (P5 37 2 3 4 36 rfl rfl rfl rfl rfl) fun a35 H35 => ?_
   refine h_op H35 rfl (H35.wt rfl rfl rfl) (R_ld H35 rfl rfl (ld_int (hL.tail.cell 5))) rfl (P5 38 2 3 4 36 rfl rfl rfl rfl rfl) fun _ H36 => ?_
   refine h_op H36 rfl (H36.wt rfl rfl rfl) (R_fa H36 rfl rfl fa_rf1) rfl (P6 39 38 2 3 4 36 rfl rfl rfl rfl rfl rfl) fun _ H37 => ?_
   refine h_op H37 rfl (H37.wt rfl rfl rfl) (R_fa H37 rfl rfl (ft_2 _ _ _)) rfl (P6 40 38 2 3 4 36 rfl rfl rfl rfl rfl rfl) fun _ H38 => ?_
   refine h_op H38 rfl (H38.wt rfl rfl rfl) (R_ld H38 rfl rfl (ld_sl (hL.tail.tail.cell 3))) rfl (P6 41 38 2 3 4 36 rfl rfl rfl rfl rfl rfl) fun _ H39 => ?_
   refine h_op H39 rfl (H39.wt rfl rfl rfl) (R_lenS H39 rfl rfl Tryz.underlying26) rfl (P6 42 38 2 3 4 36 rfl rfl rfl rfl rfl rfl) fun _ H40 => ?_
   refine h_op H40 rfl (H40.wt rfl rfl rfl) (R_bin H40 rfl rfl rfl (B_ge Tryz.underlying3 _ _)) rfl (P5 43 2 3 4 36 rfl rfl rfl rfl rfl) fun _ H41 => ?_
   refine h_o H41 rfl (R_pick H41 rfl rfl rfl) (P4 44 2 3 4 rfl rfl rfl rfl) fun _ H42 => ?_
   exact h_end ⟨H42.pick _ (P4 2 3 4 44 rfl rfl rfl rfl), hL⟩
  ·refine h_skip H34 rfl (H34.wf rfl rfl rfl) rfl (P5 37 2 3 4 36 rfl rfl rfl rfl rfl) fun a35 H35 => ?_
   refine h_skip H35 rfl (H35.wf rfl rfl rfl) rfl (P5 38 2 3 4 36 rfl rfl rfl rfl rfl) fun _ H36 => ?_
   refine h_skip H36 rfl (H36.wf rfl rfl rfl) rfl (P6 39 38 2 3 4 36 rfl rfl rfl rfl rfl rfl) fun _ H37 => ?_
   refine h_skip H37 rfl (H37.wf rfl rfl rfl) rfl (P6 40 38 2 3 4 36 rfl rfl rfl rfl rfl rfl) fun _ H38 => ?_
   refine h_skip H38 rfl (H38.wf rfl rfl rfl) rfl (P6 41 38 2 3 4 36 rfl rfl rfl rfl rfl rfl) fun _ H39 => ?_
   refine h_skip H39 rfl (H39.wf rfl rfl rfl) rfl (P6 42 38 2 3 4 36 rfl rfl rfl rfl rfl rfl) fun _ H40 => ?_
   refine h_skip H40 rfl (H40.wf rfl rfl rfl) rfl (P5 43 2 3 4 36 rfl rfl rfl rfl rfl) fun _ H41 => ?_
   refine h_o H41 rfl (R_pick H41 rfl rfl rfl) (P4 44 2 3 4 rfl rfl rfl rfl) fun _ H42 => ?_
   exact h_end ⟨H42.pick _ (P4 2 3 4 44 rfl rfl rfl rfl), hL⟩
 clear hL H34
 rintro a43 wx ⟨H43, hL⟩
 generalize hs3 : (s2 || (decide (x.part ≥ (S.t.own.length : Int)))) = s3 at H43
 refine h_end ?_
 have hs : ((((x.kind == 1) && (x.part != 0)) || decide (x.part < 0)) || decide (x.part ≥ (S.t.own.length : Int))) = s3 := by
  have hb1 : (x.kind == 1) = ((x.kind : Int) == 1) := by
   by_cases h1 : x.kind = 1
   ·rw [h1]; rfl
   ·rw [beq_eq_false_iff_ne.2 h1, beq_eq_false_iff_ne.2 (show (x.kind : Int) ≠ 1 by omega)]
  rw [← hs3, ← hs2, ← hs1, ← hs0, hb1]
 rw [hs] at hy
 cases s3
 rotate_left
 ·rw [if_pos rfl] at hy
  repeat (go_not_at_region 6; go_step)
  refine wp_cond_true (H43.ev (x := .tmp 44) rfl) ?_
  repeat (go_not_at_region 6; go_step)
  refine wp_region_lit ?_
  refine h_o H43 rfl (R_ld H43 rfl rfl (ld_rf hL.tail.tail.at_)) (P2 45 4 rfl rfl) fun _ H44 => ?_
  refine h_stS [bk gr (rfC S (.slice A S.t.own.length c) (.slice A2 S.L.length c2)) 55, bk gi (itC x) 33, bk gs (rfC S (.slice A S.t.own.length c) (.slice A2 S.L.length c2)) 55] H44 rfl (wn rfl) (R_st H44 rfl rfl rfl (st_rf (S := S) hL.at_ rfl rfl)) (hL.row _) fun _ w45 H45 hL => ?_
  refine h_o H45 rfl (R_as H45 rfl rfl) (P2 5 4 rfl rfl) fun _ H46 => ?_
  refine h_o H46 rfl (R_as H46 rfl rfl) (P3 6 5 4 rfl rfl rfl) fun _ H47 => ?_
  refine h_end ?_
  repeat (go_not_at_region 999; go_step)
  subst hy
  exact bodyPost_ret (v := .tuple #[.agg (rfC S (.slice A S.t.own.length c) (.slice A2 S.L.length c2)), .int .i64 0, .int .i64 21]) (rf_results3 rfl (H47.getD rfl) (H47.getD rfl) (H47.getD rfl) hL.at_) H47.1 ⟨_, [], rfl, .inl ⟨rfl, rfl, rfl⟩, hL.tail.tail.tail⟩
 rw [if_neg (by decide)] at hy
 repeat (go_not_at_region 7; go_step)
 refine wp_cond_false (H43.ev (x := .tmp 44) rfl) ?_
 repeat (go_not_at_region 7; go_step)
 refine wp_region_lit ?_
 refine h_o H43 rfl (R_fa H43 rfl rfl fa_rf2) (P4 46 2 3 4 rfl rfl rfl rfl) fun _ H44 => ?_
 refine h_o H44 rfl (R_ld H44 rfl rfl (ld_sn (hL.tail.tail.cell 4))) (P4 47 2 3 4 rfl rfl rfl rfl) fun _ H45 => ?_
 refine h_o H45 rfl (R_lenS H45 rfl rfl Tryz.underlying53) (P4 48 2 3 4 rfl rfl rfl rfl) fun _ H46 => ?_
 refine h_o H46 rfl (R_bin H46 rfl rfl rfl (B_add Tryz.underlying3 _ _ (by omega) (by omega))) (P4 49 2 3 4 rfl rfl rfl rfl) fun _ H47 => ?_
 refine h_o H47 rfl (R_as H47 rfl rfl) (P4 7 2 3 4 rfl rfl rfl rfl) fun _ H48 => ?_
 refine h_end ?_
 by_cases hf : (lowN S.L : Int) + 16 ≤ S.L.length + 1
 ·rw [if_pos hf] at hy
  repeat (go_not_at_region 8; go_step)
  refine wp_region_lit ?_
  refine h_o H48 rfl (R_mv H48 rfl rfl) (P4 50 2 3 4 rfl rfl rfl rfl) fun _ H49 => ?_
  refine h_o H49 rfl (R_ld H49 rfl rfl (ld_rf hL.tail.tail.at_)) (P5 51 50 2 3 4 rfl rfl rfl rfl rfl) fun _ H50 => ?_
  refine h_call H50 rfl (wn rfl) (R_call1 H50 rfl rfl (fun w => by simp [go_sem])) rfl ?_
  refine (rlow_any (K2 hL.1) hn).mono ?_
  rintro e w51 ⟨rfl, hb⟩
  replace hL := hL.call hb
  clear hb
  refine ⟨_, rfl, fun a51 HH => ?_⟩
  have H51 := HH _ (P5 52 50 2 3 4 rfl rfl rfl rfl rfl)
  refine h_o H51 rfl (R_bin H51 rfl rfl rfl (B_add Tryz.underlying3 _ _ (by omega) (by omega))) (P5 53 50 2 3 4 rfl rfl rfl rfl rfl) fun _ H52 => ?_
  refine h_o H52 rfl (R_bin H52 rfl rfl rfl (B_to (y := true) (B_ge Tryz.underlying3 _ _) (decide_eq_true (by omega)))) (P4 54 2 3 4 rfl rfl rfl rfl) fun _ H53 => ?_
  refine h_end ?_
  repeat (go_not_at_region 9; go_step)
  refine wp_cond_true (H53.ev (x := .tmp 54) rfl) ?_
  repeat (go_not_at_region 9; go_step)
  refine wp_region_lit ?_
  refine h_o H53 rfl (R_ld H53 rfl rfl (ld_rf hL.tail.tail.at_)) (P2 55 4 rfl rfl) fun _ H54 => ?_
  refine h_stS [bk gr (rfC S (.slice A S.t.own.length c) (.slice A2 S.L.length c2)) 55, bk gi (itC x) 33, bk gs (rfC S (.slice A S.t.own.length c) (.slice A2 S.L.length c2)) 55] H54 rfl (wn rfl) (R_st H54 rfl rfl rfl (st_rf (S := S) hL.at_ rfl rfl)) (hL.row _) fun _ w55 H55 hL => ?_
  refine h_o H55 rfl (R_as H55 rfl rfl) (P2 5 4 rfl rfl) fun _ H56 => ?_
  refine h_o H56 rfl (R_as H56 rfl rfl) (P3 6 5 4 rfl rfl rfl) fun _ H57 => ?_
  refine h_end ?_
  repeat (go_not_at_region 999; go_step)
  subst hy
  exact bodyPost_ret (v := .tuple #[.agg (rfC S (.slice A S.t.own.length c) (.slice A2 S.L.length c2)), .int .i64 0, .int .i64 6]) (rf_results3 rfl (H57.getD rfl) (H57.getD rfl) (H57.getD rfl) hL.at_) H57.1 ⟨_, [], rfl, .inl ⟨rfl, rfl, rfl⟩, hL.tail.tail.tail⟩
 rw [if_neg hf] at hy
 repeat (go_not_at_region 8; go_step)
 refine wp_region_lit ?_
 refine h_o H48 rfl (R_mv H48 rfl rfl) (P5 50 7 2 3 4 rfl rfl rfl rfl rfl) fun _ H49 => ?_
 refine h_o H49 rfl (R_ld H49 rfl rfl (ld_rf hL.tail.tail.at_)) (P6 51 50 7 2 3 4 rfl rfl rfl rfl rfl rfl) fun _ H50 => ?_
 refine h_call H50 rfl (wn rfl) (R_call1 H50 rfl rfl (fun w => by simp [go_sem])) rfl ?_
 refine (rlow_any (K2 hL.1) hn).mono ?_
 rintro e w51 ⟨rfl, hb⟩
 replace hL := hL.call hb
 clear hb
 refine ⟨_, rfl, fun a51 HH => ?_⟩
 have H51 := HH _ (P6 52 50 7 2 3 4 rfl rfl rfl rfl rfl rfl)
 refine h_o H51 rfl (R_bin H51 rfl rfl rfl (B_add Tryz.underlying3 _ _ (by omega) (by omega))) (P6 53 50 7 2 3 4 rfl rfl rfl rfl rfl rfl) fun _ H52 => ?_
 refine h_o H52 rfl (R_bin H52 rfl rfl rfl (B_to (y := false) (B_ge Tryz.underlying3 _ _) (decide_eq_false (by omega)))) (P5 54 7 2 3 4 rfl rfl rfl rfl rfl) fun _ H53 => ?_
 refine h_end ?_
 repeat (go_not_at_region 10; go_step)
 refine wp_cond_false (H53.ev (x := .tmp 54) rfl) ?_
 repeat (go_not_at_region 10; go_step)
 replace hL := hL.swap
 repeat (go_not_at_region 10; go_step)
 refine wp_region_lit ?_
 refine h_o H53 rfl (R_fa H53 rfl rfl fa_rf0) (P5 56 7 2 3 4 rfl rfl rfl rfl rfl) fun _ H54 => ?_
 refine h_o H54 rfl (R_ld H54 rfl rfl (ld_int (hL.tail.tail.cell 0))) (P5 57 7 2 3 4 rfl rfl rfl rfl rfl) fun _ H55 => ?_
 refine h_o H55 rfl (R_fa H55 rfl rfl (fi_k (by decide))) (P6 58 57 7 2 3 4 rfl rfl rfl rfl rfl rfl) fun _ H56 => ?_
 refine h_stS [bk gi (itC { x with src := S.src }) 33, bk gr (rfC rfZ (.slice none 0 0) (.slice none 0 0)) 55, bk gs (rfC S (.slice A S.t.own.length c) (.slice A2 S.L.length c2)) 55] H56 rfl (wn rfl) (R_st H56 rfl rfl rfl (st_i (i := 0) hL rfl)) (hL.put 0 _) fun _ w57 H57 hL => ?_
 refine h_end ?_
 repeat (go_not_at_region 11; go_step)
 refine wp_region_lit ?_
 refine h_o H57 rfl (R_mv H57 rfl rfl) (P5 59 7 2 3 4 rfl rfl rfl rfl rfl) fun _ H58 => ?_
 refine h_o H58 rfl (R_fa H58 rfl rfl (fi_k (by decide))) (P6 60 59 7 2 3 4 rfl rfl rfl rfl rfl rfl) fun _ H59 => ?_
 refine h_stS [bk gi (itC { x with src := S.src, seq := (S.L.length : Int) + 1 }) 33, bk gr (rfC rfZ (.slice none 0 0) (.slice none 0 0)) 55, bk gs (rfC S (.slice A S.t.own.length c) (.slice A2 S.L.length c2)) 55] H59 rfl (wn rfl) (R_st H59 rfl rfl rfl (st_i (i := 1) hL rfl)) (hL.put 1 _) fun _ w60 H60 hL => ?_
 refine h_end ?_
 repeat (go_not_at_region 12; go_step)
 refine wp_region_lit ?_
 refine h_o H60 rfl (R_fa H60 rfl rfl (fi_k (by decide))) (P5 61 7 2 3 4 rfl rfl rfl rfl rfl) fun _ H61 => ?_
 refine h_stS [bk gi (itC { x with src := S.src, seq := (S.L.length : Int) + 1, low := 0 }) 33, bk gr (rfC rfZ (.slice none 0 0) (.slice none 0 0)) 55, bk gs (rfC S (.slice A S.t.own.length c) (.slice A2 S.L.length c2)) 55] H61 rfl (wn rfl) (R_st H61 rfl rfl rfl (st_i (i := 2) hL rfl)) (hL.put 2 _) fun _ w62 H62 hL => ?_
 refine h_end ?_
 obtain ⟨z, hz⟩ : ∃ z : PItem, z = { x with src := S.src, seq := (S.L.length : Int) + 1, low := 0 } := ⟨_, rfl⟩
 rw [← hz] at hL
 replace hy : y = (⟨S.src, S.t, S.L ++ [(z, 0)]⟩, (S.L.length : Int) + 1, 0) := by rw [hy, hz]; rfl
 repeat (go_not_at_region 13; go_step)
 refine wp_region_lit ?_
 refine h_o H62 rfl (R_as H62 rfl rfl) (P5 8 7 2 3 4 rfl rfl rfl rfl rfl) fun _ H63 => ?_
 refine h_end ?_
 repeat (go_not_at_region 14; go_step)
 refine wp_region_lit ?_
 refine h_o H63 rfl (R_mv H63 rfl rfl) (P6 62 8 7 2 3 4 rfl rfl rfl rfl rfl rfl) fun _ H64 => ?_
 refine h_o H64 rfl (R_fa H64 rfl rfl fa_rf2) (P7 63 62 8 7 2 3 4 rfl rfl rfl rfl rfl rfl rfl) fun _ H65 => ?_
 refine h_o H65 rfl (R_ld H65 rfl rfl (ld_sn (hL.tail.tail.cell 4))) (P7 64 62 8 7 2 3 4 rfl rfl rfl rfl rfl rfl rfl) fun _ H66 => ?_
 obtain ⟨v1, W1, X1, hrun, hp, hL2⟩ := app_row hL (K2 hL.1) (by omega) 53
 refine h_opS (X1 ++ ([bk gi (itC z) 33, bk gr (rfC rfZ (.slice none 0 0) (.slice none 0 0)) 55, bk gs (rfC S (.slice A S.t.own.length c) (.slice A2 S.L.length c2)) 55])) H66 rfl (wn rfl) (R_app H66 rfl rfl rfl hrun) (hL2) rfl (P6 65 8 7 2 3 4 rfl rfl rfl rfl rfl rfl) fun _ w67 H67 hL => ?_
 refine h_o H67 rfl (R_as H67 rfl rfl) (P5 8 7 2 3 4 rfl rfl rfl rfl rfl) fun _ H68 => ?_
 refine h_end ?_
 repeat (go_not_at_region 15; go_step)
 refine wp_region_lit ?_
 refine h_o H68 rfl (R_mv H68 rfl rfl) (P5 66 7 2 3 4 rfl rfl rfl rfl rfl) fun _ H69 => ?_
 refine h_o H69 rfl (R_ld H69 rfl rfl (ld_it (x := z) (hL.mem_at (by simp)))) (P6 67 66 7 2 3 4 rfl rfl rfl rfl rfl rfl) fun _ H70 => ?_
 refine h_o H70 rfl (R_bd1 H70 rfl rfl bd_sn) (P6 68 66 7 2 3 4 rfl rfl rfl rfl rfl rfl) fun _ H71 => ?_
 refine h_opS (bk w67.heap.size (snC (z, 0)) 64 :: (X1 ++ [bk gi (itC z) 33, bk gr (rfC rfZ (.slice none 0 0) (.slice none 0 0)) 55, bk gs (rfC S (.slice A S.t.own.length c) (.slice A2 S.L.length c2)) 55])) H71 rfl (wn rfl) (R_bs1 H71 rfl rfl bs_sn) (hL.alloc _ _) rfl (P6 69 66 7 2 3 4 rfl rfl rfl rfl rfl rfl) fun _ w72 H72 hL => ?_
 replace hL := hL.front
 obtain ⟨v2, W2, X2, hrun, hp2, hL2⟩ := app_sent hp hL List.mem_cons_self (by omega) 53
 obtain ⟨q2, c3, rfl⟩ := hp2.shape
 refine h_opS (bk w67.heap.size (snC (z, 0)) 64 :: bk gi (itC z) 33 :: bk gr (rfC rfZ (.slice none 0 0) (.slice none 0 0)) 55 :: (X2 ++ [bk gs (rfC S (.slice A S.t.own.length c) (.slice A2 S.L.length c2)) 55])) H72 rfl (wn rfl) (R_app H72 rfl rfl rfl hrun) (hL2.pull3) rfl (P5 70 7 2 3 4 rfl rfl rfl rfl rfl) fun _ w73 H73 hL => ?_
 refine h_o H73 rfl (R_fa H73 rfl rfl fa_rf2) (P6 71 70 7 2 3 4 rfl rfl rfl rfl rfl rfl) fun _ H74 => ?_
 replace hL := hL.to4
 refine h_stS (bk gs (rfC ⟨S.src, S.t, S.L ++ [(z, 0)]⟩ (.slice A S.t.own.length c) (.slice q2 (S.L ++ [(z, 0)]).length c3)) 55 :: (X2 ++ [bk w67.heap.size (snC (z, 0)) 64, bk gi (itC z) 33, bk gr (rfC rfZ (.slice none 0 0) (.slice none 0 0)) 55])) H74 rfl (wn rfl) (R_st H74 rfl rfl rfl (st_sn (i := 4) hL rfl)) (hL.put 4 _) fun _ w75 H75 hL => ?_
 refine h_end ?_
 repeat (go_not_at_region 16; go_step)
 refine wp_region_lit ?_
 refine h_o H75 rfl (R_ld H75 rfl rfl (ld_rf hL.at_)) (P3 72 7 4 rfl rfl rfl) fun _ H76 => ?_
 refine h_o H76 rfl (R_mv H76 rfl rfl) (P3 73 72 4 rfl rfl rfl) fun _ H77 => ?_
 replace hL := hL.to4b
 refine h_stS (bk gr (rfC ⟨S.src, S.t, S.L ++ [(z, 0)]⟩ (.slice A S.t.own.length c) (.slice q2 (S.L ++ [(z, 0)]).length c3)) 55 :: bk gs (rfC ⟨S.src, S.t, S.L ++ [(z, 0)]⟩ (.slice A S.t.own.length c) (.slice q2 (S.L ++ [(z, 0)]).length c3)) 55 :: (X2 ++ [bk w67.heap.size (snC (z, 0)) 64, bk gi (itC z) 33])) H77 rfl (wn rfl) (R_st H77 rfl rfl rfl (st_rf (S := ⟨S.src, S.t, S.L ++ [(z, 0)]⟩) hL.at_ rfl rfl)) (hL.row _) fun _ w78 H78 hL => ?_
 refine h_o H78 rfl (R_as H78 rfl rfl) (P2 5 4 rfl rfl) fun _ H79 => ?_
 refine h_o H79 rfl (R_as H79 rfl rfl) (P3 6 5 4 rfl rfl rfl) fun _ H80 => ?_
 refine h_end ?_
 repeat (go_not_at_region 999; go_step)
 subst hy
 refine bodyPost_ret (v := .tuple #[.agg (rfC ⟨S.src, S.t, S.L ++ [(z, 0)]⟩ (.slice A S.t.own.length c) (.slice q2 (S.L ++ [(z, 0)]).length c3)), .int .i64 ((S.L.length : Int) + 1), .int .i64 0]) (rf_results3 rfl (H80.getD rfl) (H80.getD rfl) (H80.getD rfl) hL.at_) H80.1 ⟨_, X2, rfl, .inr hp2, (hL.tail.tail.perm List.perm_append_comm).dropl (X := [_, _])⟩
end
end Go.Proofs.YthkeiclhllikjaaGreat
/-
 The document's source: what comes.
-/
namespace Go.Proofs.YthkeiclhllikjaaGreat
open Go.RowKit R
section
variable {M : List (PItem × Nat)} {j c d : Nat} {x : PItem}
theorem snF_set : ∀ {M : List (PItem × Nat)} {j : Nat} (hj : j < M.length), (snF M).set (j * 9 + 8) (.int .i64 (c : Nat)) = snF (M.set j (M[j].1, c))
 | p :: M, 0, _ => by
  unfold snF
  rw [List.flatMap_cons, List.set_append_left _ _ (by simp)]
  rfl
 | p :: M, j + 1, hj => by
  have ih := snF_set (M := M) (j := j) (by simpa using hj)
  unfold snF at ih ⊢
  rw [List.flatMap_cons, List.set_append_right _ _ (by simp; omega)]
  have e : (j + 1) * 9 + 8 - (snC p).toList.length = j * 9 + 8 := by simp; omega
  rw [e, ih]
  rfl
theorem sub1 {x : Int} (h0 : -9223372036854775808 ≤ x) (h1 : x < 9223372036854775808) : ∃ iv : Int, (∀ (A B : Operand) (w : World), ((do eqGuard .sub 3 A B (.int .i64 x) (.int .i64 1); binOp .sub 3 (.int .i64 x) (.int .i64 1)) : Sem Value).run Tryz.prog w = .ok (.int .i64 iv) w) ∧ ((iv = x - 1 ∧ -9223372036854775808 ≤ iv) ∨ (x = -9223372036854775808 ∧ iv = 9223372036854775807)) := by
 by_cases hx : x = -9223372036854775808
 ·subst hx
  refine ⟨9223372036854775807, fun A B w => ?_, .inr ⟨rfl, rfl⟩⟩
  have e : IntKind.wrap .i64 (-9223372036854775809) = 9223372036854775807 := by decide
  simp [go_sem, e]
 ·refine ⟨x - 1, fun A B w => ?_, .inl ⟨rfl, by omega⟩⟩
  have e : IntKind.wrap .i64 (x - 1) = x - 1 := i64_id (by omega) (by omega)
  simp [go_sem, e]
theorem open_at (hj : j < M.length) : openB M ((j + 1 : Nat) : Int) = !((((M[j].2 : Nat) : Int)) != 0) := by
 cases h : openB M ((j + 1 : Nat) : Int) with
 | true =>
  have h2 := (openB_iff.1 h).2
  rw [codeN_at hj] at h2
  rw [h2]
  rfl
 | false =>
  by_cases h0 : M[j].2 = 0
  ·have h2 := openB_iff.2 ⟨⟨by omega, by omega⟩, (codeN_at hj).trans h0⟩
   rw [h2] at h
   cases h
  ·rw [bne_iff_ne.2 (show ((M[j].2 : Nat) : Int) ≠ 0 by omega)]
   rfl
theorem open_out {k : Int} (h : ¬ (1 ≤ k ∧ k ≤ M.length)) : openB M k = false := by
 cases e : openB M k with
 | true => exact absurd (openB_iff.1 e).1 h
 | false => rfl
theorem setA_at {z : Int} (hj : j < M.length) : setA M ((j + 1 : Nat) : Int) z = M.set j (M[j].1, z.toNat) := by
 unfold setA
 rw [show (((j + 1 : Nat) : Int) - 1).toNat = j by omega, List.getElem?_eq_getElem hj]
end
section
variable {w0 W w : World} {L X R : List Thg} {S : PSrc} {vo vL v vm vs : Value} {M : List (PItem × Nat)} {m : PMsg} {g i j n c : Nat} {a : Addr} {A : Option Addr} {t u : PTab} {src : Int} {p q r : Thg}
theorem LV.to3 {a b d : Thg} (h : LV w0 (X ++ [a, b, d]) w) : LV w0 (d :: (X ++ [a, b])) w :=
 (h.perm ((List.perm_append_comm (l₁ := [a, b]) (l₂ := [d])).append_left X)).perm List.perm_middle
theorem LV.to3b {a b d : Thg} (h : LV w0 (d :: (X ++ [a, b])) w) : LV w0 (a :: d :: (X ++ [b])) w :=
 (h.perm (List.perm_middle.cons d)).swap
theorem LV.to4c {a b d e : Thg} (h : LV w0 [a, b, d, e] w) : LV w0 [e, a, b, d] w := h.perm (List.perm_append_comm (l₁ := [a, b, d]) (l₂ := [e]))
theorem ix_snB (h : j < n) : (Instr.indexAt 53 (.slice (some ⟨g, 0, none⟩) n c) (.int .i64 (j : Nat))).run Tryz.prog w = .ok (.pointer (some ⟨g, j * 9, none⟩)) w := by
 rw [ix_sn rfl h]
 congr 3
 unfold Addr.add
 by_cases h0 : j * 9 = 0 <;> simp [h0]
theorem fa_snB {k : Nat} : (Instr.fieldAt 64 (.pointer (some ⟨g, k, none⟩)) 1).run Tryz.prog w = .ok (.pointer (some ⟨g, k + 8, none⟩)) w := by simp [go_sem]
theorem prow_put {v : Value} (hp : PRow 64 9 v M.length (snF M) X) (hL : LV w0 (X ++ L) w) (hj : j < M.length) {c : Nat} : ∃ g cap, v = .slice (some ⟨g, 0, none⟩) M.length cap ∧
  (Instr.storeAt 3 (.pointer (some ⟨g, j * 9 + 8, none⟩)) (.int .i64 (c : Nat))).run Tryz.prog w = .ok () (w.setCell ⟨g, j * 9 + 8, none⟩ (.int .i64 (c : Nat))) ∧
  ∃ X', PRow 64 9 v M.length (snF (M.set j (M[j].1, c))) X' ∧ LV w0 (X' ++ L) (w.setCell ⟨g, j * 9 + 8, none⟩ (.int .i64 (c : Nat))) := by
 rcases hp.2 with ⟨rfl, hn, rfl⟩ | ⟨g, cap, cur, rfl, rfl, h1, h2, h3, h4⟩
 ·omega
 ·have h5 := snF_get (k := 8) hj (by decide)
  rw [← h4, List.getElem?_take, if_pos (by omega), Array.getElem?_toList] at h5
  refine ⟨g, cap, rfl, st_int hL.at_ h5, [bk g (cur.setIfInBounds (j * 9 + 8) (.int .i64 (c : Nat))) 64], ⟨?_, .inr ⟨g, cap, _, rfl, rfl, h1, h2, ?_, ?_⟩⟩, hL.put _ _⟩
  ·rw [snF_len, List.length_set]
  ·rw [Array.size_setIfInBounds]
   exact h3
  ·rw [Array.toList_setIfInBounds, List.take_set, h4, snF_set hj]
theorem ld_tbr {q : Option Addr} {l c : Nat} (h : w.heap[g]? = some (.cells (rfC S (.slice q l c) vL) 55 (0, 0))) : (Instr.loadAt 28 (.pointer (some ⟨g, 1, none⟩))).run Tryz.prog w = .ok (.agg (tbC S.t (.slice q l c))) w :=
 ld_tbo (t := S.t) (cells_at h 1) (cells_at h 2) (cells_at h 3)
theorem st_tbr {q r : Option Addr} {l c k e : Nat} (h : LV w0 (bk g (rfC S (.slice q l c) vL) 55 :: L) w) : (Instr.storeAt 28 (.pointer (some ⟨g, 1, none⟩)) (.agg (tbC u (.slice r k e)))).run Tryz.prog w = .ok () (((w.setCell ⟨g, 1, none⟩ (.int .i64 u.ep)).setCell ⟨g, 2, none⟩ (.int .i64 u.nd)).setCell ⟨g, 3, none⟩ (.slice r k e)) := by
 have e0 := h.cell 1
 have e1 := h.cell 2
 have e2 := h.cell 3
 have z0 := h.thaw 1
 have z1 := h.thaw 2
 have z2 := h.thaw 3
 simp at e0 e1 e2
 simp [go_sem, e0, e1, e2, z0, z1, z2]
theorem LV.tbr {q r : Option Addr} {l c k e : Nat} (h : LV w0 (bk g (rfC S (.slice q l c) vL) 55 :: L) w) : LV w0 (bk g (rfC { S with t := u } (.slice r k e) vL) 55 :: L) (((w.setCell ⟨g, 1, none⟩ (.int .i64 u.ep)).setCell ⟨g, 2, none⟩ (.int .i64 u.nd)).setCell ⟨g, 3, none⟩ (.slice r k e)) :=
 ((h.put 1 _).put 2 _).put 3 _
set_option maxRecDepth 100000 in
set_option maxHeartbeats 8000000 in
theorem rhandle_any (hv : Rd W vo S.t.own) (hr : RdC W 9 vL (S.L.map snC)) (hm : Rd W vm m.owner) (hn : S.L.length < 100000) (k0 : -9223372036854775808 ≤ m.iseq) (k1 : m.iseq < 9223372036854775808) (l1 : S.t.own.length ≤ 1000000000000) (l2 : m.owner.length ≤ 1000000000000) (hs : vs.oneCell' = true) :
  Calls Tryz.prog 45 #[.agg (rfC S vo vL), .agg (mcells m vm vs)] W fun e W' => ∃ vo' vL' X, e = .returned (.tuple #[.agg (rfC (handleM S m).1 vo' vL'), .bool (handleM S m).2]) ∧ (∀ w, Rd w vo S.t.own → Rd w vm m.owner → Rd w vo' (handleM S m).1.t.own) ∧ RowN S (handleM S m).1 vL vL' X ∧ LV W X W' := by
 obtain ⟨A, c, rfl⟩ := hv.slc
 obtain ⟨A3, c3, rfl⟩ := hm.slc
 have K1 : ∀ {w}, Below W.heap.size W w → Rd w (.slice A S.t.own.length c) S.t.own := fun hb => hv.kept fun k hk => hb.block k hk
 have K3 : ∀ {w}, Below W.heap.size W w → Rd w (.slice A3 m.owner.length c3) m.owner := fun hb => hm.kept fun k hk => hb.block k hk
 have K2 : ∀ {w}, Below W.heap.size W w → RdC w 9 vL (S.L.map snC) := fun hb => hr.kept fun k hk => hb.block k hk
 obtain ⟨A2, c2, rfl⟩ := hr.slc
 rw [List.length_map] at K2
 clear hr
 rw [List.length_map] at *
 have hL := LV.init W
 obtain ⟨y, hy⟩ : ∃ y, y = handleM S m := ⟨_, rfl⟩
 rw [← hy]
 unfold handleM at hy
 go_enter Tryz.func45, Tryz.ntmps45
 refine wp_fr (n := 96) (m := [(0, _), (1, _)]) ⟨rfl, rfl, by intro p hp; simp only [List.mem_cons, List.not_mem_nil, or_false] at hp; rcases hp with rfl | rfl <;> rfl⟩ fun a0 H0 => ?_
 repeat (go_not_at_region 0; go_step)
 refine wp_region_lit ?_
 refine h_opS [bk W.heap.size (rfC S (.slice A S.t.own.length c) (.slice A2 S.L.length c2)) 55] H0 rfl (wn rfl) (R_box H0 rfl rfl bx_rf) (hL.alloc _ _) rfl (P2 2 1 rfl rfl) fun _ w1 H1 hL => ?_
 refine h_opS [bk w1.heap.size (mcells m (.slice A3 m.owner.length c3) vs) 37, bk W.heap.size (rfC S (.slice A S.t.own.length c) (.slice A2 S.L.length c2)) 55] H1 rfl (wn rfl) (R_box H1 rfl rfl bx_mg) (hL.alloc _ _) rfl (P2 3 2 rfl rfl) fun _ w2 H2 hL => ?_
 refine h_opS [bk w2.heap.size (rfC rfZ (.slice none 0 0) (.slice none 0 0)) 55, bk w1.heap.size (mcells m (.slice A3 m.owner.length c3) vs) 37, bk W.heap.size (rfC S (.slice A S.t.own.length c) (.slice A2 S.L.length c2)) 55] H2 rfl (wn rfl) (R_alloc rfl al_rf) (hL.alloc _ _) rfl (P3 4 3 2 rfl rfl rfl) fun _ w3 H3 hL => ?_
 refine h_o H3 rfl (R_as H3 rfl rfl) (P3 4 3 2 rfl rfl rfl) fun _ H4 => ?_
 refine h_end ?_
 obtain ⟨gs, hgs⟩ : ∃ g, g = W.heap.size := ⟨_, rfl⟩
 obtain ⟨gm, hgm⟩ : ∃ g, g = w1.heap.size := ⟨_, rfl⟩
 obtain ⟨gr, hgr⟩ : ∃ g, g = w2.heap.size := ⟨_, rfl⟩
 rw [← hgs, ← hgm, ← hgr] at H4 hL
 clear hgs hgm hgr
 repeat (go_not_at_region 1; go_step)
 refine wp_region_lit ?_
 refine h_o H4 rfl (R_fa H4 rfl rfl (fa29_0 _ _)) (P4 10 4 3 2 rfl rfl rfl rfl) fun _ H5 => ?_
 refine h_o H5 rfl (R_ld H5 rfl rfl (ld_u8 (hL.tail.cell 0))) (P4 11 4 3 2 rfl rfl rfl rfl) fun _ H6 => ?_
 refine h_o H6 rfl (R_bin H6 rfl rfl rfl (B8_eq _ _)) (P4 12 4 3 2 rfl rfl rfl rfl) fun _ H7 => ?_
 refine h_o H7 rfl (R_mv H7 rfl rfl) (P4 13 4 3 2 rfl rfl rfl rfl) fun _ H8 => ?_
 replace H8 := H8.pick [(2, .pointer (some ⟨gs, 0, none⟩)), (3, .pointer (some ⟨gm, 0, none⟩)), (4, .pointer (some ⟨gr, 0, none⟩)), (13, .bool ((m.kind : Int) == 2))] (P4 2 3 4 13 rfl rfl rfl rfl)
 generalize hr0 : ((m.kind : Int) == 2) = r0 at H8
 refine wpList_cut [_, _, _, _, _, _, _] (R := fun a' w' => Fr a' 96 [(2, .pointer (some ⟨gs, 0, none⟩)), (3, .pointer (some ⟨gm, 0, none⟩)), (4, .pointer (some ⟨gr, 0, none⟩)), (20, .bool (r0 && (m.isrc == S.src)))] ∧ LV W [bk gr (rfC rfZ (.slice none 0 0) (.slice none 0 0)) 55, bk gm (mcells m (.slice A3 m.owner.length c3) vs) 37, bk gs (rfC S (.slice A S.t.own.length c) (.slice A2 S.L.length c2)) 55] w') ?_ ?_
 ·cases r0
  ·refine h_skip H8 rfl (H8.wf rfl rfl rfl) rfl (P5 14 2 3 4 13 rfl rfl rfl rfl rfl) fun a9 H9 => ?_
   refine h_skip H9 rfl (H9.wf rfl rfl rfl) rfl (P5 15 2 3 4 13 rfl rfl rfl rfl rfl) fun _ H10 => ?_
   refine h_skip H10 rfl (H10.wf rfl rfl rfl) rfl (P5 16 2 3 4 13 rfl rfl rfl rfl rfl) fun _ H11 => ?_
   refine h_skip H11 rfl (H11.wf rfl rfl rfl) rfl (P6 17 16 2 3 4 13 rfl rfl rfl rfl rfl rfl) fun _ H12 => ?_
   refine h_skip H12 rfl (H12.wf rfl rfl rfl) rfl (P6 18 16 2 3 4 13 rfl rfl rfl rfl rfl rfl) fun _ H13 => ?_
   refine h_skip H13 rfl (H13.wf rfl rfl rfl) rfl (P5 19 2 3 4 13 rfl rfl rfl rfl rfl) fun _ H14 => ?_
   refine h_o H14 rfl (R_pick H14 rfl rfl rfl) (P4 20 2 3 4 rfl rfl rfl rfl) fun _ H15 => ?_
   exact h_end ⟨H15.pick _ (P4 2 3 4 20 rfl rfl rfl rfl), hL⟩
  ·refine h_op H8 rfl (H8.wt rfl rfl rfl) (R_fa H8 rfl rfl (fa29_9 _ _)) rfl (P5 14 2 3 4 13 rfl rfl rfl rfl rfl) fun a9 H9 => ?_
   refine h_op H9 rfl (H9.wt rfl rfl rfl) (R_fa H9 rfl rfl (fi_k (by decide))) rfl (P5 15 2 3 4 13 rfl rfl rfl rfl rfl) fun _ H10 => ?_
   refine h_op H10 rfl (H10.wt rfl rfl rfl) (R_ld H10 rfl rfl (ld_int (hL.tail.cell 9))) rfl (P5 16 2 3 4 13 rfl rfl rfl rfl rfl) fun _ H11 => ?_
   refine h_op H11 rfl (H11.wt rfl rfl rfl) (R_fa H11 rfl rfl fa_rf0) rfl (P6 17 16 2 3 4 13 rfl rfl rfl rfl rfl rfl) fun _ H12 => ?_
   refine h_op H12 rfl (H12.wt rfl rfl rfl) (R_ld H12 rfl rfl (ld_int (hL.tail.tail.cell 0))) rfl (P6 18 16 2 3 4 13 rfl rfl rfl rfl rfl rfl) fun _ H13 => ?_
   refine h_op H13 rfl (H13.wt rfl rfl rfl) (R_bin H13 rfl rfl rfl (B_eq Tryz.underlying3 _ _)) rfl (P5 19 2 3 4 13 rfl rfl rfl rfl rfl) fun _ H14 => ?_
   refine h_o H14 rfl (R_pick H14 rfl rfl rfl) (P4 20 2 3 4 rfl rfl rfl rfl) fun _ H15 => ?_
   exact h_end ⟨H15.pick _ (P4 2 3 4 20 rfl rfl rfl rfl), hL⟩
 clear hL H8
 rintro a16 wx ⟨H16, hL⟩
 generalize hr1 : (r0 && (m.isrc == S.src)) = r1 at H16
 refine h_end ?_
 rw [hr0, hr1] at hy
 cases r1
 rotate_left
 ·rw [if_pos rfl] at hy
  unfold ansM at hy
  obtain ⟨iv, hsub, hiv⟩ := sub1 k0 k1
  repeat (go_not_at_region 2; go_step)
  refine wp_cond_true (H16.ev (x := .tmp 20) rfl) ?_
  repeat (go_not_at_region 2; go_step)
  refine wp_region_lit ?_
  refine h_o H16 rfl (R_fa H16 rfl rfl (fa29_9 _ _)) (P4 21 2 3 4 rfl rfl rfl rfl) fun _ H17 => ?_
  refine h_o H17 rfl (R_fa H17 rfl rfl (fi_k (by decide))) (P4 22 2 3 4 rfl rfl rfl rfl) fun _ H18 => ?_
  refine h_o H18 rfl (R_ld H18 rfl rfl (ld_int (hL.tail.cell 10))) (P4 23 2 3 4 rfl rfl rfl rfl) fun _ H19 => ?_
  refine h_o H19 rfl (R_bin H19 rfl rfl rfl (hsub _ _ _)) (P4 24 2 3 4 rfl rfl rfl rfl) fun _ H20 => ?_
  refine h_o H20 rfl (R_as H20 rfl rfl) (P4 6 2 3 4 rfl rfl rfl rfl) fun _ H21 => ?_
  refine h_end ?_
  by_cases hlt : iv < 0
  ·rw [open_out (by omega)] at hy
   repeat (go_not_at_region 3; go_step)
   refine wp_region_lit ?_
   refine h_o H21 rfl (R_mv H21 rfl rfl) (P5 25 6 2 3 4 rfl rfl rfl rfl rfl) fun _ H22 => ?_
   refine h_o H22 rfl (R_bin H22 rfl rfl rfl (B_to (y := true) (B_lt Tryz.underlying3 _ _) (decide_eq_true hlt))) (P5 26 6 2 3 4 rfl rfl rfl rfl rfl) fun _ H23 => ?_
   refine h_o H23 rfl (R_mv H23 rfl rfl) (P5 27 6 2 3 4 rfl rfl rfl rfl rfl) fun _ H24 => ?_
   refine h_skip H24 rfl (H24.wf rfl rfl rfl) rfl (P6 28 27 6 2 3 4 rfl rfl rfl rfl rfl rfl) fun _ H25 => ?_
   refine h_skip H25 rfl (H25.wf rfl rfl rfl) rfl (P7 29 28 27 6 2 3 4 rfl rfl rfl rfl rfl rfl rfl) fun _ H26 => ?_
   refine h_skip H26 rfl (H26.wf rfl rfl rfl) rfl (P7 30 28 27 6 2 3 4 rfl rfl rfl rfl rfl rfl rfl) fun _ H27 => ?_
   refine h_skip H27 rfl (H27.wf rfl rfl rfl) rfl (P7 31 28 27 6 2 3 4 rfl rfl rfl rfl rfl rfl rfl) fun _ H28 => ?_
   refine h_skip H28 rfl (H28.wf rfl rfl rfl) rfl (P6 32 27 6 2 3 4 rfl rfl rfl rfl rfl rfl) fun _ H29 => ?_
   refine h_o H29 rfl (R_pick H29 rfl rfl rfl) (P5 33 6 2 3 4 rfl rfl rfl rfl rfl) fun _ H30 => ?_
   refine h_o H30 rfl (R_mv H30 rfl rfl) (P5 34 6 2 3 4 rfl rfl rfl rfl rfl) fun _ H31 => ?_
   refine h_skip H31 rfl (H31.wf rfl rfl rfl) rfl (P6 35 34 6 2 3 4 rfl rfl rfl rfl rfl rfl) fun _ H32 => ?_
   refine h_skip H32 rfl (H32.wf rfl rfl rfl) rfl (P6 36 34 6 2 3 4 rfl rfl rfl rfl rfl rfl) fun _ H33 => ?_
   refine h_skip H33 rfl (H33.wf rfl rfl rfl) rfl (P6 37 36 34 2 3 4 rfl rfl rfl rfl rfl rfl) fun _ H34 => ?_
   refine h_skip H34 rfl (H34.wf rfl rfl rfl) rfl (P5 38 34 2 3 4 rfl rfl rfl rfl rfl) fun _ H35 => ?_
   refine h_skip H35 rfl (H35.wf rfl rfl rfl) rfl (P5 39 34 2 3 4 rfl rfl rfl rfl rfl) fun _ H36 => ?_
   refine h_skip H36 rfl (H36.wf rfl rfl rfl) rfl (P5 40 34 2 3 4 rfl rfl rfl rfl rfl) fun _ H37 => ?_
   refine h_skip H37 rfl (H37.wf rfl rfl rfl) rfl (P5 41 34 2 3 4 rfl rfl rfl rfl rfl) fun _ H38 => ?_
   refine h_o H38 rfl (R_pick H38 rfl rfl rfl) (P4 42 2 3 4 rfl rfl rfl rfl) fun _ H39 => ?_
   refine h_o H39 rfl (R_mv H39 rfl rfl) (P4 43 2 3 4 rfl rfl rfl rfl) fun _ H40 => ?_
   refine h_skip H40 rfl (H40.wf rfl rfl rfl) rfl (P5 44 43 2 3 4 rfl rfl rfl rfl rfl) fun _ H41 => ?_
   refine h_skip H41 rfl (H41.wf rfl rfl rfl) rfl (P5 45 43 2 3 4 rfl rfl rfl rfl rfl) fun _ H42 => ?_
   refine h_skip H42 rfl (H42.wf rfl rfl rfl) rfl (P5 46 43 2 3 4 rfl rfl rfl rfl rfl) fun _ H43 => ?_
   refine h_o H43 rfl (R_pick H43 rfl rfl rfl) (P4 47 2 3 4 rfl rfl rfl rfl) fun _ H44 => ?_
   refine h_o H44 rfl (R_mv H44 rfl rfl) (P4 48 2 3 4 rfl rfl rfl rfl) fun _ H45 => ?_
   refine h_skip H45 rfl (H45.wf rfl rfl rfl) rfl (P5 49 48 2 3 4 rfl rfl rfl rfl rfl) fun _ H46 => ?_
   refine h_skip H46 rfl (H46.wf rfl rfl rfl) rfl (P5 50 48 2 3 4 rfl rfl rfl rfl rfl) fun _ H47 => ?_
   refine h_skip H47 rfl (H47.wf rfl rfl rfl) rfl (P5 51 48 2 3 4 rfl rfl rfl rfl rfl) fun _ H48 => ?_
   refine h_o H48 rfl (R_pick H48 rfl rfl rfl) (P4 52 2 3 4 rfl rfl rfl rfl) fun _ H49 => ?_
   refine h_end ?_
   repeat (go_not_at_region 4; go_step)
   refine wp_cond_true (H49.ev (x := .tmp 52) rfl) ?_
   repeat (go_not_at_region 4; go_step)
   refine wp_region_lit ?_
   refine h_o H49 rfl (R_ld H49 rfl rfl (ld_rf hL.tail.tail.at_)) (P2 53 4 rfl rfl) fun _ H50 => ?_
   refine h_stS [bk gr (rfC S (.slice A S.t.own.length c) (.slice A2 S.L.length c2)) 55, bk gm (mcells m (.slice A3 m.owner.length c3) vs) 37, bk gs (rfC S (.slice A S.t.own.length c) (.slice A2 S.L.length c2)) 55] H50 rfl (wn rfl) (R_st H50 rfl rfl rfl (st_rf (S := S) hL.at_ rfl rfl)) (hL.row _) fun _ w51 H51 hL => ?_
   refine h_o H51 rfl (R_as H51 rfl rfl) (P2 5 4 rfl rfl) fun _ H52 => ?_
   refine h_end ?_
   repeat (go_not_at_region 999; go_step)
   subst hy
   exact bodyPost_ret (v := .tuple #[.agg (rfC S (.slice A S.t.own.length c) (.slice A2 S.L.length c2)), .bool false]) (rf_results2 rfl (H52.getD rfl) (H52.getD rfl) hL.at_) H52.1 ⟨(.slice A S.t.own.length c), _, [], rfl, fun w h _ => h, .inl ⟨rfl, rfl, rfl⟩, hL.tail.tail.tail⟩
  by_cases hge : iv ≥ S.L.length
  ·rw [open_out (by omega)] at hy
   repeat (go_not_at_region 3; go_step)
   refine wp_region_lit ?_
   refine h_o H21 rfl (R_mv H21 rfl rfl) (P5 25 6 2 3 4 rfl rfl rfl rfl rfl) fun _ H22 => ?_
   refine h_o H22 rfl (R_bin H22 rfl rfl rfl (B_to (y := false) (B_lt Tryz.underlying3 _ _) (decide_eq_false hlt))) (P5 26 6 2 3 4 rfl rfl rfl rfl rfl) fun _ H23 => ?_
   refine h_o H23 rfl (R_mv H23 rfl rfl) (P5 27 6 2 3 4 rfl rfl rfl rfl rfl) fun _ H24 => ?_
   refine h_op H24 rfl (H24.wt rfl rfl rfl) (R_mv H24 rfl rfl) rfl (P6 28 27 6 2 3 4 rfl rfl rfl rfl rfl rfl) fun _ H25 => ?_
   refine h_op H25 rfl (H25.wt rfl rfl rfl) (R_fa H25 rfl rfl fa_rf2) rfl (P7 29 28 27 6 2 3 4 rfl rfl rfl rfl rfl rfl rfl) fun _ H26 => ?_
   refine h_op H26 rfl (H26.wt rfl rfl rfl) (R_ld H26 rfl rfl (ld_sn (hL.tail.tail.cell 4))) rfl (P7 30 28 27 6 2 3 4 rfl rfl rfl rfl rfl rfl rfl) fun _ H27 => ?_
   refine h_op H27 rfl (H27.wt rfl rfl rfl) (R_lenS H27 rfl rfl Tryz.underlying53) rfl (P7 31 28 27 6 2 3 4 rfl rfl rfl rfl rfl rfl rfl) fun _ H28 => ?_
   refine h_op H28 rfl (H28.wt rfl rfl rfl) (R_bin H28 rfl rfl rfl (B_to (y := true) (B_ge Tryz.underlying3 _ _) (decide_eq_true hge))) rfl (P6 32 27 6 2 3 4 rfl rfl rfl rfl rfl rfl) fun _ H29 => ?_
   refine h_o H29 rfl (R_pick H29 rfl rfl rfl) (P5 33 6 2 3 4 rfl rfl rfl rfl rfl) fun _ H30 => ?_
   refine h_o H30 rfl (R_mv H30 rfl rfl) (P5 34 6 2 3 4 rfl rfl rfl rfl rfl) fun _ H31 => ?_
   refine h_skip H31 rfl (H31.wf rfl rfl rfl) rfl (P6 35 34 6 2 3 4 rfl rfl rfl rfl rfl rfl) fun _ H32 => ?_
   refine h_skip H32 rfl (H32.wf rfl rfl rfl) rfl (P6 36 34 6 2 3 4 rfl rfl rfl rfl rfl rfl) fun _ H33 => ?_
   refine h_skip H33 rfl (H33.wf rfl rfl rfl) rfl (P6 37 36 34 2 3 4 rfl rfl rfl rfl rfl rfl) fun _ H34 => ?_
   refine h_skip H34 rfl (H34.wf rfl rfl rfl) rfl (P5 38 34 2 3 4 rfl rfl rfl rfl rfl) fun _ H35 => ?_
   refine h_skip H35 rfl (H35.wf rfl rfl rfl) rfl (P5 39 34 2 3 4 rfl rfl rfl rfl rfl) fun _ H36 => ?_
   refine h_skip H36 rfl (H36.wf rfl rfl rfl) rfl (P5 40 34 2 3 4 rfl rfl rfl rfl rfl) fun _ H37 => ?_
   refine h_skip H37 rfl (H37.wf rfl rfl rfl) rfl (P5 41 34 2 3 4 rfl rfl rfl rfl rfl) fun _ H38 => ?_
   refine h_o H38 rfl (R_pick H38 rfl rfl rfl) (P4 42 2 3 4 rfl rfl rfl rfl) fun _ H39 => ?_
   refine h_o H39 rfl (R_mv H39 rfl rfl) (P4 43 2 3 4 rfl rfl rfl rfl) fun _ H40 => ?_
   refine h_skip H40 rfl (H40.wf rfl rfl rfl) rfl (P5 44 43 2 3 4 rfl rfl rfl rfl rfl) fun _ H41 => ?_
   refine h_skip H41 rfl (H41.wf rfl rfl rfl) rfl (P5 45 43 2 3 4 rfl rfl rfl rfl rfl) fun _ H42 => ?_
   refine h_skip H42 rfl (H42.wf rfl rfl rfl) rfl (P5 46 43 2 3 4 rfl rfl rfl rfl rfl) fun _ H43 => ?_
   refine h_o H43 rfl (R_pick H43 rfl rfl rfl) (P4 47 2 3 4 rfl rfl rfl rfl) fun _ H44 => ?_
   refine h_o H44 rfl (R_mv H44 rfl rfl) (P4 48 2 3 4 rfl rfl rfl rfl) fun _ H45 => ?_
   refine h_skip H45 rfl (H45.wf rfl rfl rfl) rfl (P5 49 48 2 3 4 rfl rfl rfl rfl rfl) fun _ H46 => ?_
   refine h_skip H46 rfl (H46.wf rfl rfl rfl) rfl (P5 50 48 2 3 4 rfl rfl rfl rfl rfl) fun _ H47 => ?_
   refine h_skip H47 rfl (H47.wf rfl rfl rfl) rfl (P5 51 48 2 3 4 rfl rfl rfl rfl rfl) fun _ H48 => ?_
   refine h_o H48 rfl (R_pick H48 rfl rfl rfl) (P4 52 2 3 4 rfl rfl rfl rfl) fun _ H49 => ?_
   refine h_end ?_
   repeat (go_not_at_region 4; go_step)
   refine wp_cond_true (H49.ev (x := .tmp 52) rfl) ?_
   repeat (go_not_at_region 4; go_step)
   refine wp_region_lit ?_
   refine h_o H49 rfl (R_ld H49 rfl rfl (ld_rf hL.tail.tail.at_)) (P2 53 4 rfl rfl) fun _ H50 => ?_
   refine h_stS [bk gr (rfC S (.slice A S.t.own.length c) (.slice A2 S.L.length c2)) 55, bk gm (mcells m (.slice A3 m.owner.length c3) vs) 37, bk gs (rfC S (.slice A S.t.own.length c) (.slice A2 S.L.length c2)) 55] H50 rfl (wn rfl) (R_st H50 rfl rfl rfl (st_rf (S := S) hL.at_ rfl rfl)) (hL.row _) fun _ w51 H51 hL => ?_
   refine h_o H51 rfl (R_as H51 rfl rfl) (P2 5 4 rfl rfl) fun _ H52 => ?_
   refine h_end ?_
   repeat (go_not_at_region 999; go_step)
   subst hy
   exact bodyPost_ret (v := .tuple #[.agg (rfC S (.slice A S.t.own.length c) (.slice A2 S.L.length c2)), .bool false]) (rf_results2 rfl (H52.getD rfl) (H52.getD rfl) hL.at_) H52.1 ⟨(.slice A S.t.own.length c), _, [], rfl, fun w h _ => h, .inl ⟨rfl, rfl, rfl⟩, hL.tail.tail.tail⟩
  obtain ⟨j, rfl⟩ : ∃ j : Nat, iv = j := ⟨iv.toNat, by omega⟩
  have hjl : j < S.L.length := by omega
  have hk : m.iseq = ((j + 1 : Nat) : Int) := by omega
  rw [hk, open_at hjl, Bool.not_not, setA_at hjl] at hy
  obtain ⟨ad, hA⟩ := snc_addr (K2 hL.1) hjl
  repeat (go_not_at_region 3; go_step)
  refine wp_region_lit ?_
  refine h_o H21 rfl (R_mv H21 rfl rfl) (P5 25 6 2 3 4 rfl rfl rfl rfl rfl) fun _ H22 => ?_
  refine h_o H22 rfl (R_bin H22 rfl rfl rfl (B_lt Tryz.underlying3 _ _)) (P5 26 6 2 3 4 rfl rfl rfl rfl rfl) fun _ H23 => ?_
  refine h_o H23 rfl (R_mv H23 rfl rfl) (P5 27 6 2 3 4 rfl rfl rfl rfl rfl) fun _ H24 => ?_
  replace H24 := H24.pick [(2, .pointer (some ⟨gs, 0, none⟩)), (3, .pointer (some ⟨gm, 0, none⟩)), (4, .pointer (some ⟨gr, 0, none⟩)), (6, .int .i64 (j : Nat)), (27, .bool (decide ((j : Int) < 0)))] (P5 2 3 4 6 27 rfl rfl rfl rfl rfl)
  generalize hs0 : (decide ((j : Int) < 0)) = s0 at H24
  refine wpList_cut [_, _, _, _, _, _, _] (R := fun a' w' => Fr a' 96 [(2, .pointer (some ⟨gs, 0, none⟩)), (3, .pointer (some ⟨gm, 0, none⟩)), (4, .pointer (some ⟨gr, 0, none⟩)), (6, .int .i64 (j : Nat)), (34, .bool (s0 || (decide ((j : Int) ≥ S.L.length))))] ∧ LV W [bk gr (rfC rfZ (.slice none 0 0) (.slice none 0 0)) 55, bk gm (mcells m (.slice A3 m.owner.length c3) vs) 37, bk gs (rfC S (.slice A S.t.own.length c) (.slice A2 S.L.length c2)) 55] w') ?_ ?_
  ·cases s0
   ·refine h_op H24 rfl (H24.wt rfl rfl rfl) (R_mv H24 rfl rfl) rfl (P6 28 2 3 4 6 27 rfl rfl rfl rfl rfl rfl) fun a25 H25 => ?_
    refine h_op H25 rfl (H25.wt rfl rfl rfl) (R_fa H25 rfl rfl fa_rf2) rfl (P7 29 28 2 3 4 6 27 rfl rfl rfl rfl rfl rfl rfl) fun _ H26 => ?_
    refine h_op H26 rfl (H26.wt rfl rfl rfl) (R_ld H26 rfl rfl (ld_sn (hL.tail.tail.cell 4))) rfl (P7 30 28 2 3 4 6 27 rfl rfl rfl rfl rfl rfl rfl) fun _ H27 => ?_
    refine h_op H27 rfl (H27.wt rfl rfl rfl) (R_lenS H27 rfl rfl Tryz.underlying53) rfl (P7 31 28 2 3 4 6 27 rfl rfl rfl rfl rfl rfl rfl) fun _ H28 => ?_
    refine h_op H28 rfl (H28.wt rfl rfl rfl) (R_bin H28 rfl rfl rfl (B_ge Tryz.underlying3 _ _)) rfl (P6 32 2 3 4 6 27 rfl rfl rfl rfl rfl rfl) fun _ H29 => ?_
    refine h_o H29 rfl (R_pick H29 rfl rfl rfl) (P5 33 2 3 4 6 rfl rfl rfl rfl rfl) fun _ H30 => ?_
    refine h_o H30 rfl (R_mv H30 rfl rfl) (P5 34 2 3 4 6 rfl rfl rfl rfl rfl) fun _ H31 => ?_
    exact h_end ⟨H31.pick _ (P5 2 3 4 6 34 rfl rfl rfl rfl rfl), hL⟩
   ·refine h_skip H24 rfl (H24.wf rfl rfl rfl) rfl (P6 28 2 3 4 6 27 rfl rfl rfl rfl rfl rfl) fun a25 H25 => ?_
    refine h_skip H25 rfl (H25.wf rfl rfl rfl) rfl (P7 29 28 2 3 4 6 27 rfl rfl rfl rfl rfl rfl rfl) fun _ H26 => ?_
    refine h_skip H26 rfl (H26.wf rfl rfl rfl) rfl (P7 30 28 2 3 4 6 27 rfl rfl rfl rfl rfl rfl rfl) fun _ H27 => ?_
    refine h_skip H27 rfl (H27.wf rfl rfl rfl) rfl (P7 31 28 2 3 4 6 27 rfl rfl rfl rfl rfl rfl rfl) fun _ H28 => ?_
    refine h_skip H28 rfl (H28.wf rfl rfl rfl) rfl (P6 32 2 3 4 6 27 rfl rfl rfl rfl rfl rfl) fun _ H29 => ?_
    refine h_o H29 rfl (R_pick H29 rfl rfl rfl) (P5 33 2 3 4 6 rfl rfl rfl rfl rfl) fun _ H30 => ?_
    refine h_o H30 rfl (R_mv H30 rfl rfl) (P5 34 2 3 4 6 rfl rfl rfl rfl rfl) fun _ H31 => ?_
    exact h_end ⟨H31.pick _ (P5 2 3 4 6 34 rfl rfl rfl rfl rfl), hL⟩
  clear hL H24
  rintro a32 wx ⟨H32, hL⟩
  generalize hs1 : (s0 || (decide ((j : Int) ≥ S.L.length))) = s1 at H32
  refine wpList_cut [_, _, _, _, _, _, _, _, _] (R := fun a' w' => Fr a' 96 [(2, .pointer (some ⟨gs, 0, none⟩)), (3, .pointer (some ⟨gm, 0, none⟩)), (4, .pointer (some ⟨gr, 0, none⟩)), (6, .int .i64 (j : Nat)), (43, .bool (s1 || (((S.L[j].2 : Nat) : Int) != 0)))] ∧ LV W [bk gr (rfC rfZ (.slice none 0 0) (.slice none 0 0)) 55, bk gm (mcells m (.slice A3 m.owner.length c3) vs) 37, bk gs (rfC S (.slice A S.t.own.length c) (.slice A2 S.L.length c2)) 55] w') ?_ ?_
  ·cases s1
   ·refine h_op H32 rfl (H32.wt rfl rfl rfl) (R_fa H32 rfl rfl fa_rf2) rfl (P6 35 2 3 4 6 34 rfl rfl rfl rfl rfl rfl) fun a33 H33 => ?_
    refine h_op H33 rfl (H33.wt rfl rfl rfl) (R_ld H33 rfl rfl (ld_sn (hL.tail.tail.cell 4))) rfl (P6 36 2 3 4 6 34 rfl rfl rfl rfl rfl rfl) fun _ H34 => ?_
    refine h_op H34 rfl (H34.wt rfl rfl rfl) (R_mv H34 rfl rfl) rfl (P7 37 36 2 3 4 6 34 rfl rfl rfl rfl rfl rfl rfl) fun _ H35 => ?_
    refine h_op H35 rfl (H35.wt rfl rfl rfl) (R_ixa H35 rfl rfl rfl (ix_sn hA hjl)) rfl (P6 38 2 3 4 6 34 rfl rfl rfl rfl rfl rfl) fun _ H36 => ?_
    refine h_op H36 rfl (H36.wt rfl rfl rfl) (R_fa H36 rfl rfl fa_sn1) rfl (P6 39 2 3 4 6 34 rfl rfl rfl rfl rfl rfl) fun _ H37 => ?_
    refine h_op H37 rfl (H37.wt rfl rfl rfl) (R_ld H37 rfl rfl (ld_int (snc_cell (K2 hL.1) hA hjl rfl))) rfl (P6 40 2 3 4 6 34 rfl rfl rfl rfl rfl rfl) fun _ H38 => ?_
    refine h_op H38 rfl (H38.wt rfl rfl rfl) (R_bin H38 rfl rfl rfl (B_ne Tryz.underlying3 _ _)) rfl (P6 41 2 3 4 6 34 rfl rfl rfl rfl rfl rfl) fun _ H39 => ?_
    refine h_o H39 rfl (R_pick H39 rfl rfl rfl) (P5 42 2 3 4 6 rfl rfl rfl rfl rfl) fun _ H40 => ?_
    refine h_o H40 rfl (R_mv H40 rfl rfl) (P5 43 2 3 4 6 rfl rfl rfl rfl rfl) fun _ H41 => ?_
    exact h_end ⟨H41.pick _ (P5 2 3 4 6 43 rfl rfl rfl rfl rfl), hL⟩
   ·refine h_skip H32 rfl (H32.wf rfl rfl rfl) rfl (P6 35 2 3 4 6 34 rfl rfl rfl rfl rfl rfl) fun a33 H33 => ?_
    refine h_skip H33 rfl (H33.wf rfl rfl rfl) rfl (P6 36 2 3 4 6 34 rfl rfl rfl rfl rfl rfl) fun _ H34 => ?_
    refine h_skip H34 rfl (H34.wf rfl rfl rfl) rfl (P7 37 36 2 3 4 6 34 rfl rfl rfl rfl rfl rfl rfl) fun _ H35 => ?_
    refine h_skip H35 rfl (H35.wf rfl rfl rfl) rfl (P6 38 2 3 4 6 34 rfl rfl rfl rfl rfl rfl) fun _ H36 => ?_
    refine h_skip H36 rfl (H36.wf rfl rfl rfl) rfl (P6 39 2 3 4 6 34 rfl rfl rfl rfl rfl rfl) fun _ H37 => ?_
    refine h_skip H37 rfl (H37.wf rfl rfl rfl) rfl (P6 40 2 3 4 6 34 rfl rfl rfl rfl rfl rfl) fun _ H38 => ?_
    refine h_skip H38 rfl (H38.wf rfl rfl rfl) rfl (P6 41 2 3 4 6 34 rfl rfl rfl rfl rfl rfl) fun _ H39 => ?_
    refine h_o H39 rfl (R_pick H39 rfl rfl rfl) (P5 42 2 3 4 6 rfl rfl rfl rfl rfl) fun _ H40 => ?_
    refine h_o H40 rfl (R_mv H40 rfl rfl) (P5 43 2 3 4 6 rfl rfl rfl rfl rfl) fun _ H41 => ?_
    exact h_end ⟨H41.pick _ (P5 2 3 4 6 43 rfl rfl rfl rfl rfl), hL⟩
  clear hL H32
  rintro a42 wx ⟨H42, hL⟩
  generalize hs2 : (s1 || (((S.L[j].2 : Nat) : Int) != 0)) = s2 at H42
  refine wpList_cut [_, _, _, _, _] (R := fun a' w' => Fr a' 96 [(2, .pointer (some ⟨gs, 0, none⟩)), (3, .pointer (some ⟨gm, 0, none⟩)), (4, .pointer (some ⟨gr, 0, none⟩)), (6, .int .i64 (j : Nat)), (48, .bool (s2 || (decide (m.code < 1))))] ∧ LV W [bk gr (rfC rfZ (.slice none 0 0) (.slice none 0 0)) 55, bk gm (mcells m (.slice A3 m.owner.length c3) vs) 37, bk gs (rfC S (.slice A S.t.own.length c) (.slice A2 S.L.length c2)) 55] w') ?_ ?_
  ·cases s2
   ·refine h_op H42 rfl (H42.wt rfl rfl rfl) (R_fa H42 rfl rfl (fa29_6 _ _)) rfl (P6 44 2 3 4 6 43 rfl rfl rfl rfl rfl rfl) fun a43 H43 => ?_
    refine h_op H43 rfl (H43.wt rfl rfl rfl) (R_ld H43 rfl rfl (ld_int (hL.tail.cell 6))) rfl (P6 45 2 3 4 6 43 rfl rfl rfl rfl rfl rfl) fun _ H44 => ?_
    refine h_op H44 rfl (H44.wt rfl rfl rfl) (R_bin H44 rfl rfl rfl (B_lt Tryz.underlying3 _ _)) rfl (P6 46 2 3 4 6 43 rfl rfl rfl rfl rfl rfl) fun _ H45 => ?_
    refine h_o H45 rfl (R_pick H45 rfl rfl rfl) (P5 47 2 3 4 6 rfl rfl rfl rfl rfl) fun _ H46 => ?_
    refine h_o H46 rfl (R_mv H46 rfl rfl) (P5 48 2 3 4 6 rfl rfl rfl rfl rfl) fun _ H47 => ?_
    exact h_end ⟨H47.pick _ (P5 2 3 4 6 48 rfl rfl rfl rfl rfl), hL⟩
   ·refine h_skip H42 rfl (H42.wf rfl rfl rfl) rfl (P6 44 2 3 4 6 43 rfl rfl rfl rfl rfl rfl) fun a43 H43 => ?_
    refine h_skip H43 rfl (H43.wf rfl rfl rfl) rfl (P6 45 2 3 4 6 43 rfl rfl rfl rfl rfl rfl) fun _ H44 => ?_
    refine h_skip H44 rfl (H44.wf rfl rfl rfl) rfl (P6 46 2 3 4 6 43 rfl rfl rfl rfl rfl rfl) fun _ H45 => ?_
    refine h_o H45 rfl (R_pick H45 rfl rfl rfl) (P5 47 2 3 4 6 rfl rfl rfl rfl rfl) fun _ H46 => ?_
    refine h_o H46 rfl (R_mv H46 rfl rfl) (P5 48 2 3 4 6 rfl rfl rfl rfl rfl) fun _ H47 => ?_
    exact h_end ⟨H47.pick _ (P5 2 3 4 6 48 rfl rfl rfl rfl rfl), hL⟩
  clear hL H42
  rintro a48 wx ⟨H48, hL⟩
  generalize hs3 : (s2 || (decide (m.code < 1))) = s3 at H48
  refine wpList_cut [_, _, _, _] (R := fun a' w' => Fr a' 96 [(2, .pointer (some ⟨gs, 0, none⟩)), (3, .pointer (some ⟨gm, 0, none⟩)), (4, .pointer (some ⟨gr, 0, none⟩)), (6, .int .i64 (j : Nat)), (52, .bool (s3 || (decide (m.code > 4))))] ∧ LV W [bk gr (rfC rfZ (.slice none 0 0) (.slice none 0 0)) 55, bk gm (mcells m (.slice A3 m.owner.length c3) vs) 37, bk gs (rfC S (.slice A S.t.own.length c) (.slice A2 S.L.length c2)) 55] w') ?_ ?_
  ·cases s3
   ·refine h_op H48 rfl (H48.wt rfl rfl rfl) (R_fa H48 rfl rfl (fa29_6 _ _)) rfl (P6 49 2 3 4 6 48 rfl rfl rfl rfl rfl rfl) fun a49 H49 => ?_
    refine h_op H49 rfl (H49.wt rfl rfl rfl) (R_ld H49 rfl rfl (ld_int (hL.tail.cell 6))) rfl (P6 50 2 3 4 6 48 rfl rfl rfl rfl rfl rfl) fun _ H50 => ?_
    refine h_op H50 rfl (H50.wt rfl rfl rfl) (R_bin H50 rfl rfl rfl (B_gt Tryz.underlying3 _ _)) rfl (P6 51 2 3 4 6 48 rfl rfl rfl rfl rfl rfl) fun _ H51 => ?_
    refine h_o H51 rfl (R_pick H51 rfl rfl rfl) (P5 52 2 3 4 6 rfl rfl rfl rfl rfl) fun _ H52 => ?_
    exact h_end ⟨H52.pick _ (P5 2 3 4 6 52 rfl rfl rfl rfl rfl), hL⟩
   ·refine h_skip H48 rfl (H48.wf rfl rfl rfl) rfl (P6 49 2 3 4 6 48 rfl rfl rfl rfl rfl rfl) fun a49 H49 => ?_
    refine h_skip H49 rfl (H49.wf rfl rfl rfl) rfl (P6 50 2 3 4 6 48 rfl rfl rfl rfl rfl rfl) fun _ H50 => ?_
    refine h_skip H50 rfl (H50.wf rfl rfl rfl) rfl (P6 51 2 3 4 6 48 rfl rfl rfl rfl rfl rfl) fun _ H51 => ?_
    refine h_o H51 rfl (R_pick H51 rfl rfl rfl) (P5 52 2 3 4 6 rfl rfl rfl rfl rfl) fun _ H52 => ?_
    exact h_end ⟨H52.pick _ (P5 2 3 4 6 52 rfl rfl rfl rfl rfl), hL⟩
  clear hL H48
  rintro a53 wx ⟨H53, hL⟩
  generalize hs4 : (s3 || (decide (m.code > 4))) = s4 at H53
  refine h_end ?_
  have hs : ((((S.L[j].2 : Nat) : Int) != 0) || decide (m.code < 1) || decide (m.code > 4)) = s4 := by
   rw [← hs4, ← hs3, ← hs2, ← hs1, ← hs0, decide_eq_false hlt, decide_eq_false hge]
   simp only [Bool.false_or]
  rw [hs] at hy
  cases s4
  rotate_left
  ·rw [if_pos rfl] at hy
   repeat (go_not_at_region 4; go_step)
   refine wp_cond_true (H53.ev (x := .tmp 52) rfl) ?_
   repeat (go_not_at_region 4; go_step)
   refine wp_region_lit ?_
   refine h_o H53 rfl (R_ld H53 rfl rfl (ld_rf hL.tail.tail.at_)) (P2 53 4 rfl rfl) fun _ H54 => ?_
   refine h_stS [bk gr (rfC S (.slice A S.t.own.length c) (.slice A2 S.L.length c2)) 55, bk gm (mcells m (.slice A3 m.owner.length c3) vs) 37, bk gs (rfC S (.slice A S.t.own.length c) (.slice A2 S.L.length c2)) 55] H54 rfl (wn rfl) (R_st H54 rfl rfl rfl (st_rf (S := S) hL.at_ rfl rfl)) (hL.row _) fun _ w55 H55 hL => ?_
   refine h_o H55 rfl (R_as H55 rfl rfl) (P2 5 4 rfl rfl) fun _ H56 => ?_
   refine h_end ?_
   repeat (go_not_at_region 999; go_step)
   subst hy
   exact bodyPost_ret (v := .tuple #[.agg (rfC S (.slice A S.t.own.length c) (.slice A2 S.L.length c2)), .bool false]) (rf_results2 rfl (H56.getD rfl) (H56.getD rfl) hL.at_) H56.1 ⟨(.slice A S.t.own.length c), _, [], rfl, fun w h _ => h, .inl ⟨rfl, rfl, rfl⟩, hL.tail.tail.tail⟩
  rw [if_neg (by decide)] at hy
  have hcode : m.code = ((m.code.toNat : Nat) : Int) := by
   have h1 := (Bool.or_eq_false_iff.1 (Bool.or_eq_false_iff.1 hs).1).2
   rw [decide_eq_false_iff_not] at h1
   omega
  repeat (go_not_at_region 5; go_step)
  refine wp_cond_false (H53.ev (x := .tmp 52) rfl) ?_
  repeat (go_not_at_region 5; go_step)
  refine wp_region_lit ?_
  refine h_o H53 rfl (R_as H53 rfl rfl) (P5 7 2 3 4 6 rfl rfl rfl rfl rfl) fun _ H54 => ?_
  refine h_end ?_
  repeat (go_not_at_region 6; go_step)
  refine wp_region_lit ?_
  refine h_o H54 rfl (R_mv H54 rfl rfl) (P6 54 7 2 3 4 6 rfl rfl rfl rfl rfl rfl) fun _ H55 => ?_
  refine h_o H55 rfl (R_fa H55 rfl rfl fa_rf2) (P7 55 54 7 2 3 4 6 rfl rfl rfl rfl rfl rfl rfl) fun _ H56 => ?_
  refine h_o H56 rfl (R_ld H56 rfl rfl (ld_sn (hL.tail.tail.cell 4))) (P7 56 54 7 2 3 4 6 rfl rfl rfl rfl rfl rfl rfl) fun _ H57 => ?_
  obtain ⟨v1, W1, X1, hrun, hp, hL2⟩ := app_row hL (K2 hL.1) (by omega) 53
  refine h_opS (X1 ++ [bk gr (rfC rfZ (.slice none 0 0) (.slice none 0 0)) 55, bk gm (mcells m (.slice A3 m.owner.length c3) vs) 37, bk gs (rfC S (.slice A S.t.own.length c) (.slice A2 S.L.length c2)) 55]) H57 rfl (wn rfl) (R_app H57 rfl rfl rfl hrun) (hL2) rfl (P6 57 7 2 3 4 6 rfl rfl rfl rfl rfl rfl) fun _ w58 H58 hL => ?_
  refine h_o H58 rfl (R_as H58 rfl rfl) (P5 7 2 3 4 6 rfl rfl rfl rfl rfl) fun _ H59 => ?_
  refine h_end ?_
  obtain ⟨gp, cap, rfl, hst, X2, hp2, hL3⟩ := prow_put hp hL hjl (c := m.code.toNat)
  rw [← hcode] at hst hL3
  repeat (go_not_at_region 7; go_step)
  refine wp_region_lit ?_
  refine h_o H59 rfl (R_mv H59 rfl rfl) (P6 58 7 2 3 4 6 rfl rfl rfl rfl rfl rfl) fun _ H60 => ?_
  refine h_o H60 rfl (R_mv H60 rfl rfl) (P6 59 58 7 2 3 4 rfl rfl rfl rfl rfl rfl) fun _ H61 => ?_
  refine h_o H61 rfl (R_fa H61 rfl rfl (fa29_6 _ _)) (P7 60 59 58 7 2 3 4 rfl rfl rfl rfl rfl rfl rfl) fun _ H62 => ?_
  refine h_o H62 rfl (R_ld H62 rfl rfl (ld_int (LV.cell hL.pull3.tail 6))) (P7 61 59 58 7 2 3 4 rfl rfl rfl rfl rfl rfl rfl) fun _ H63 => ?_
  refine h_o H63 rfl (R_ixa H63 rfl rfl rfl (ix_snB hjl)) (P6 62 61 7 2 3 4 rfl rfl rfl rfl rfl rfl) fun _ H64 => ?_
  refine h_o H64 rfl (R_fa H64 rfl rfl fa_snB) (P6 63 61 7 2 3 4 rfl rfl rfl rfl rfl rfl) fun _ H65 => ?_
  refine h_stS (X2 ++ [bk gr (rfC rfZ (.slice none 0 0) (.slice none 0 0)) 55, bk gm (mcells m (.slice A3 m.owner.length c3) vs) 37, bk gs (rfC S (.slice A S.t.own.length c) (.slice A2 S.L.length c2)) 55]) H65 rfl (wn rfl) (R_st H65 rfl rfl rfl hst) (hL3) fun _ w66 H66 hL => ?_
  refine h_end ?_
  clear hL3
  repeat (go_not_at_region 8; go_step)
  refine wp_region_lit ?_
  refine h_o H66 rfl (R_mv H66 rfl rfl) (P3 64 2 4 rfl rfl rfl) fun _ H67 => ?_
  refine h_o H67 rfl (R_fa H67 rfl rfl fa_rf2) (P4 65 64 2 4 rfl rfl rfl rfl) fun _ H68 => ?_
  replace hL := hL.to3
  refine h_stS (bk gs (rfC (⟨S.src, S.t, S.L.set j (S.L[j].1, m.code.toNat)⟩ : PSrc) (.slice A S.t.own.length c) (.slice (some ⟨gp, 0, none⟩) S.L.length cap)) 55 :: (X2 ++ [bk gr (rfC rfZ (.slice none 0 0) (.slice none 0 0)) 55, bk gm (mcells m (.slice A3 m.owner.length c3) vs) 37])) H68 rfl (wn rfl) (R_st H68 rfl rfl rfl (st_sn (i := 4) hL rfl)) (hL.put 4 _) fun _ w69 H69 hL => ?_
  refine h_end ?_
  repeat (go_not_at_region 9; go_step)
  refine wp_region_lit ?_
  refine h_o H69 rfl (R_ld H69 rfl rfl (ld_rf hL.at_)) (P2 66 4 rfl rfl) fun _ H70 => ?_
  replace hL := hL.to3b
  refine h_stS (bk gr (rfC (⟨S.src, S.t, S.L.set j (S.L[j].1, m.code.toNat)⟩ : PSrc) (.slice A S.t.own.length c) (.slice (some ⟨gp, 0, none⟩) S.L.length cap)) 55 :: bk gs (rfC (⟨S.src, S.t, S.L.set j (S.L[j].1, m.code.toNat)⟩ : PSrc) (.slice A S.t.own.length c) (.slice (some ⟨gp, 0, none⟩) S.L.length cap)) 55 :: (X2 ++ [bk gm (mcells m (.slice A3 m.owner.length c3) vs) 37])) H70 rfl (wn rfl) (R_st H70 rfl rfl rfl (st_rf (S := (⟨S.src, S.t, S.L.set j (S.L[j].1, m.code.toNat)⟩ : PSrc)) hL.at_ rfl rfl)) (hL.row _) fun _ w71 H71 hL => ?_
  refine h_o H71 rfl (R_as H71 rfl rfl) (P2 5 4 rfl rfl) fun _ H72 => ?_
  refine h_end ?_
  repeat (go_not_at_region 999; go_step)
  subst hy
  refine bodyPost_ret (v := .tuple #[.agg (rfC (⟨S.src, S.t, S.L.set j (S.L[j].1, m.code.toNat)⟩ : PSrc) (.slice A S.t.own.length c) (.slice (some ⟨gp, 0, none⟩) S.L.length cap)), .bool true]) (rf_results2 rfl (H72.getD rfl) (H72.getD rfl) hL.at_) H72.1 ⟨(.slice A S.t.own.length c), _, X2, rfl, fun w h _ => h, .inr ?_, (hL.tail.tail.perm List.perm_append_comm).dropl (X := [_])⟩
  rw [List.length_set]
  exact hp2
 rw [if_neg (by decide)] at hy
 repeat (go_not_at_region 10; go_step)
 refine wp_cond_false (H16.ev (x := .tmp 20) rfl) ?_
 repeat (go_not_at_region 10; go_step)
 refine wp_region_lit ?_
 refine h_o H16 rfl (R_fa H16 rfl rfl (fa29_0 _ _)) (P4 67 2 3 4 rfl rfl rfl rfl) fun _ H17 => ?_
 refine h_o H17 rfl (R_ld H17 rfl rfl (ld_u8 (hL.tail.cell 0))) (P4 68 2 3 4 rfl rfl rfl rfl) fun _ H18 => ?_
 refine h_o H18 rfl (R_bin H18 rfl rfl rfl (B8_eq _ _)) (P4 69 2 3 4 rfl rfl rfl rfl) fun _ H19 => ?_
 refine h_o H19 rfl (R_mv H19 rfl rfl) (P4 70 2 3 4 rfl rfl rfl rfl) fun _ H20 => ?_
 replace H20 := H20.pick [(2, .pointer (some ⟨gs, 0, none⟩)), (3, .pointer (some ⟨gm, 0, none⟩)), (4, .pointer (some ⟨gr, 0, none⟩)), (70, .bool ((m.kind : Int) == 3))] (P4 2 3 4 70 rfl rfl rfl rfl)
 generalize hq0 : ((m.kind : Int) == 3) = q0 at H20
 refine wpList_cut [_, _, _, _, _, _, _, _] (R := fun a' w' => Fr a' 96 [(2, .pointer (some ⟨gs, 0, none⟩)), (3, .pointer (some ⟨gm, 0, none⟩)), (4, .pointer (some ⟨gr, 0, none⟩)), (78, .bool (q0 && (m.isrc == S.src)))] ∧ LV W [bk gr (rfC rfZ (.slice none 0 0) (.slice none 0 0)) 55, bk gm (mcells m (.slice A3 m.owner.length c3) vs) 37, bk gs (rfC S (.slice A S.t.own.length c) (.slice A2 S.L.length c2)) 55] w') ?_ ?_
 ·cases q0
  ·refine h_skip H20 rfl (H20.wf rfl rfl rfl) rfl (P5 71 2 3 4 70 rfl rfl rfl rfl rfl) fun a21 H21 => ?_
   refine h_skip H21 rfl (H21.wf rfl rfl rfl) rfl (P5 72 2 3 4 70 rfl rfl rfl rfl rfl) fun _ H22 => ?_
   refine h_skip H22 rfl (H22.wf rfl rfl rfl) rfl (P5 73 2 3 4 70 rfl rfl rfl rfl rfl) fun _ H23 => ?_
   refine h_skip H23 rfl (H23.wf rfl rfl rfl) rfl (P6 74 73 2 3 4 70 rfl rfl rfl rfl rfl rfl) fun _ H24 => ?_
   refine h_skip H24 rfl (H24.wf rfl rfl rfl) rfl (P6 75 73 2 3 4 70 rfl rfl rfl rfl rfl rfl) fun _ H25 => ?_
   refine h_skip H25 rfl (H25.wf rfl rfl rfl) rfl (P5 76 2 3 4 70 rfl rfl rfl rfl rfl) fun _ H26 => ?_
   refine h_o H26 rfl (R_pick H26 rfl rfl rfl) (P4 77 2 3 4 rfl rfl rfl rfl) fun _ H27 => ?_
   refine h_o H27 rfl (R_mv H27 rfl rfl) (P4 78 2 3 4 rfl rfl rfl rfl) fun _ H28 => ?_
   exact h_end ⟨H28.pick _ (P4 2 3 4 78 rfl rfl rfl rfl), hL⟩
  ·refine h_op H20 rfl (H20.wt rfl rfl rfl) (R_fa H20 rfl rfl (fa29_9 _ _)) rfl (P5 71 2 3 4 70 rfl rfl rfl rfl rfl) fun a21 H21 => ?_
   refine h_op H21 rfl (H21.wt rfl rfl rfl) (R_fa H21 rfl rfl (fi_k (by decide))) rfl (P5 72 2 3 4 70 rfl rfl rfl rfl rfl) fun _ H22 => ?_
   refine h_op H22 rfl (H22.wt rfl rfl rfl) (R_ld H22 rfl rfl (ld_int (hL.tail.cell 9))) rfl (P5 73 2 3 4 70 rfl rfl rfl rfl rfl) fun _ H23 => ?_
   refine h_op H23 rfl (H23.wt rfl rfl rfl) (R_fa H23 rfl rfl fa_rf0) rfl (P6 74 73 2 3 4 70 rfl rfl rfl rfl rfl rfl) fun _ H24 => ?_
   refine h_op H24 rfl (H24.wt rfl rfl rfl) (R_ld H24 rfl rfl (ld_int (hL.tail.tail.cell 0))) rfl (P6 75 73 2 3 4 70 rfl rfl rfl rfl rfl rfl) fun _ H25 => ?_
   refine h_op H25 rfl (H25.wt rfl rfl rfl) (R_bin H25 rfl rfl rfl (B_eq Tryz.underlying3 _ _)) rfl (P5 76 2 3 4 70 rfl rfl rfl rfl rfl) fun _ H26 => ?_
   refine h_o H26 rfl (R_pick H26 rfl rfl rfl) (P4 77 2 3 4 rfl rfl rfl rfl) fun _ H27 => ?_
   refine h_o H27 rfl (R_mv H27 rfl rfl) (P4 78 2 3 4 rfl rfl rfl rfl) fun _ H28 => ?_
   exact h_end ⟨H28.pick _ (P4 2 3 4 78 rfl rfl rfl rfl), hL⟩
 clear hL H20
 rintro a29 wx ⟨H29, hL⟩
 generalize hq1 : (q0 && (m.isrc == S.src)) = q1 at H29
 refine wpList_cut [_, _, _, _] (R := fun a' w' => Fr a' 96 [(2, .pointer (some ⟨gs, 0, none⟩)), (3, .pointer (some ⟨gm, 0, none⟩)), (4, .pointer (some ⟨gr, 0, none⟩)), (82, .bool (q1 || ((m.kind : Int) == 14)))] ∧ LV W [bk gr (rfC rfZ (.slice none 0 0) (.slice none 0 0)) 55, bk gm (mcells m (.slice A3 m.owner.length c3) vs) 37, bk gs (rfC S (.slice A S.t.own.length c) (.slice A2 S.L.length c2)) 55] w') ?_ ?_
 ·cases q1
  ·refine h_op H29 rfl (H29.wt rfl rfl rfl) (R_fa H29 rfl rfl (fa29_0 _ _)) rfl (P5 79 2 3 4 78 rfl rfl rfl rfl rfl) fun a30 H30 => ?_
   refine h_op H30 rfl (H30.wt rfl rfl rfl) (R_ld H30 rfl rfl (ld_u8 (hL.tail.cell 0))) rfl (P5 80 2 3 4 78 rfl rfl rfl rfl rfl) fun _ H31 => ?_
   refine h_op H31 rfl (H31.wt rfl rfl rfl) (R_bin H31 rfl rfl rfl (B8_eq _ _)) rfl (P5 81 2 3 4 78 rfl rfl rfl rfl rfl) fun _ H32 => ?_
   refine h_o H32 rfl (R_pick H32 rfl rfl rfl) (P4 82 2 3 4 rfl rfl rfl rfl) fun _ H33 => ?_
   exact h_end ⟨H33.pick _ (P4 2 3 4 82 rfl rfl rfl rfl), hL⟩
  ·refine h_skip H29 rfl (H29.wf rfl rfl rfl) rfl (P5 79 2 3 4 78 rfl rfl rfl rfl rfl) fun a30 H30 => ?_
   refine h_skip H30 rfl (H30.wf rfl rfl rfl) rfl (P5 80 2 3 4 78 rfl rfl rfl rfl rfl) fun _ H31 => ?_
   refine h_skip H31 rfl (H31.wf rfl rfl rfl) rfl (P5 81 2 3 4 78 rfl rfl rfl rfl rfl) fun _ H32 => ?_
   refine h_o H32 rfl (R_pick H32 rfl rfl rfl) (P4 82 2 3 4 rfl rfl rfl rfl) fun _ H33 => ?_
   exact h_end ⟨H33.pick _ (P4 2 3 4 82 rfl rfl rfl rfl), hL⟩
 clear hL H29
 rintro a34 wx ⟨H34, hL⟩
 generalize hq2 : (q1 || ((m.kind : Int) == 14)) = q2 at H34
 refine h_end ?_
 rw [hq0, hq1, hq2] at hy
 cases q2
 ·rw [if_neg (by decide)] at hy
  repeat (go_not_at_region 14; go_step)
  refine wp_cond_false (H34.ev (x := .tmp 82) rfl) ?_
  repeat (go_not_at_region 14; go_step)
  refine wp_region_lit ?_
  refine h_o H34 rfl (R_ld H34 rfl rfl (ld_rf hL.tail.tail.at_)) (P2 95 4 rfl rfl) fun _ H35 => ?_
  refine h_stS [bk gr (rfC S (.slice A S.t.own.length c) (.slice A2 S.L.length c2)) 55, bk gm (mcells m (.slice A3 m.owner.length c3) vs) 37, bk gs (rfC S (.slice A S.t.own.length c) (.slice A2 S.L.length c2)) 55] H35 rfl (wn rfl) (R_st H35 rfl rfl rfl (st_rf (S := S) hL.at_ rfl rfl)) (hL.row _) fun _ w36 H36 hL => ?_
  refine h_o H36 rfl (R_as H36 rfl rfl) (P2 5 4 rfl rfl) fun _ H37 => ?_
  refine h_end ?_
  repeat (go_not_at_region 999; go_step)
  subst hy
  exact bodyPost_ret (v := .tuple #[.agg (rfC S (.slice A S.t.own.length c) (.slice A2 S.L.length c2)), .bool false]) (rf_results2 rfl (H37.getD rfl) (H37.getD rfl) hL.at_) H37.1 ⟨(.slice A S.t.own.length c), _, [], rfl, fun w h _ => h, .inl ⟨rfl, rfl, rfl⟩, hL.tail.tail.tail⟩
 rw [if_pos rfl] at hy
 repeat (go_not_at_region 11; go_step)
 refine wp_cond_true (H34.ev (x := .tmp 82) rfl) ?_
 repeat (go_not_at_region 11; go_step)
 refine wp_region_lit ?_
 refine h_o H34 rfl (R_fa H34 rfl rfl fa_rf1) (P4 84 2 3 4 rfl rfl rfl rfl) fun _ H35 => ?_
 refine h_o H35 rfl (R_ld H35 rfl rfl (ld_tbr hL.tail.tail.at_)) (P4 85 2 3 4 rfl rfl rfl rfl) fun _ H36 => ?_
 refine h_o H36 rfl (R_fa H36 rfl rfl (fa29_10 _ _)) (P5 86 85 2 3 4 rfl rfl rfl rfl rfl) fun _ H37 => ?_
 refine h_o H37 rfl (R_ld H37 rfl rfl (ld_tbm (t := ⟨m.epoch, m.nodes, m.owner⟩) (hL.tail.cell 17) (hL.tail.cell 18) (hL.tail.cell 19))) (P5 87 85 2 3 4 rfl rfl rfl rfl rfl) fun _ H38 => ?_
 refine h_call H38 rfl (wn rfl) (R_call2 H38 rfl rfl rfl (fun w => by simp [go_sem])) rfl ?_
 refine (rKeep_any (t := S.t) (u := ⟨m.epoch, m.nodes, m.owner⟩) (K1 hL.1) l1 (K3 hL.1) l2).mono ?_
 rintro e w39 ⟨rfl, hb⟩
 replace hL := hL.call hb
 clear hb
 obtain ⟨A4, n4, c4, hq4, hq5⟩ : ∃ A4 n4 c4, (if newerT ⟨m.epoch, m.nodes, m.owner⟩ S.t = true then (.slice A3 m.owner.length c3) else (.slice A S.t.own.length c) : Value) = .slice A4 n4 c4 ∧ ∀ w, Rd w (.slice A S.t.own.length c) S.t.own → Rd w (.slice A3 m.owner.length c3) m.owner → Rd w (.slice A4 n4 c4) (keepT S.t ⟨m.epoch, m.nodes, m.owner⟩).1.own := by
  unfold keepT
  cases newerT ⟨m.epoch, m.nodes, m.owner⟩ S.t
  ·exact ⟨_, _, _, rfl, fun w h _ => h⟩
  ·exact ⟨_, _, _, rfl, fun w _ h => h⟩
 rw [hq4]
 refine ⟨_, rfl, fun a39 HH => ?_⟩
 have H39 := HH _ (P4 88 2 3 4 rfl rfl rfl rfl)
 refine h_o H39 rfl (R_mv H39 rfl rfl) (P4 83 2 3 4 rfl rfl rfl rfl) fun _ H40 => ?_
 refine h_o H40 rfl (R_ext H40 rfl rfl rfl) (P5 89 83 2 3 4 rfl rfl rfl rfl rfl) fun _ H41 => ?_
 refine h_o H41 rfl (R_ext H41 rfl rfl rfl) (P5 90 89 2 3 4 rfl rfl rfl rfl rfl) fun _ H42 => ?_
 refine h_opS [bk w39.heap.size (tbC ⟨0, 0, []⟩ (.slice none 0 0)) 28, bk gr (rfC rfZ (.slice none 0 0) (.slice none 0 0)) 55, bk gm (mcells m (.slice A3 m.owner.length c3) vs) 37, bk gs (rfC S (.slice A S.t.own.length c) (.slice A2 S.L.length c2)) 55] H42 rfl (wn rfl) (R_alloc rfl al_tb) (hL.alloc _ _) rfl (P6 8 90 89 2 3 4 rfl rfl rfl rfl rfl rfl) fun _ w43 H43 hL => ?_
 refine h_stS [bk w39.heap.size (tbC (keepT S.t ⟨m.epoch, m.nodes, m.owner⟩).1 (.slice A4 n4 c4)) 28, bk gr (rfC rfZ (.slice none 0 0) (.slice none 0 0)) 55, bk gm (mcells m (.slice A3 m.owner.length c3) vs) 37, bk gs (rfC S (.slice A S.t.own.length c) (.slice A2 S.L.length c2)) 55] H43 rfl (wn rfl) (R_st H43 rfl rfl rfl (st_tb hL.at_)) (hL.row _) fun _ w44 H44 hL => ?_
 refine h_o H44 rfl (R_as H44 rfl rfl) (P5 9 8 2 3 4 rfl rfl rfl rfl rfl) fun _ H45 => ?_
 refine h_end ?_
 repeat (go_not_at_region 12; go_step)
 refine wp_region_lit ?_
 refine h_o H45 rfl (R_ld H45 rfl rfl (ld_tb (t := (keepT S.t ⟨m.epoch, m.nodes, m.owner⟩).1) hL.at_)) (P4 91 9 2 4 rfl rfl rfl rfl) fun _ H46 => ?_
 refine h_o H46 rfl (R_fa H46 rfl rfl fa_rf1) (P5 92 91 9 2 4 rfl rfl rfl rfl rfl) fun _ H47 => ?_
 replace hL := hL.to4c
 refine h_stS [bk gs (rfC (⟨S.src, (keepT S.t ⟨m.epoch, m.nodes, m.owner⟩).1, S.L⟩ : PSrc) (.slice A4 n4 c4) (.slice A2 S.L.length c2)) 55, bk w39.heap.size (tbC (keepT S.t ⟨m.epoch, m.nodes, m.owner⟩).1 (.slice A4 n4 c4)) 28, bk gr (rfC rfZ (.slice none 0 0) (.slice none 0 0)) 55, bk gm (mcells m (.slice A3 m.owner.length c3) vs) 37] H47 rfl (wn rfl) (R_st H47 rfl rfl rfl (st_tbr hL)) (hL.tbr) fun _ w48 H48 hL => ?_
 refine h_end ?_
 repeat (go_not_at_region 13; go_step)
 refine wp_region_lit ?_
 refine h_o H48 rfl (R_ld H48 rfl rfl (ld_rf hL.at_)) (P3 93 9 4 rfl rfl rfl) fun _ H49 => ?_
 refine h_o H49 rfl (R_mv H49 rfl rfl) (P3 94 93 4 rfl rfl rfl) fun _ H50 => ?_
 replace hL := hL.third
 refine h_stS [bk gr (rfC (⟨S.src, (keepT S.t ⟨m.epoch, m.nodes, m.owner⟩).1, S.L⟩ : PSrc) (.slice A4 n4 c4) (.slice A2 S.L.length c2)) 55, bk gs (rfC (⟨S.src, (keepT S.t ⟨m.epoch, m.nodes, m.owner⟩).1, S.L⟩ : PSrc) (.slice A4 n4 c4) (.slice A2 S.L.length c2)) 55, bk w39.heap.size (tbC (keepT S.t ⟨m.epoch, m.nodes, m.owner⟩).1 (.slice A4 n4 c4)) 28, bk gm (mcells m (.slice A3 m.owner.length c3) vs) 37] H50 rfl (wn rfl) (R_st H50 rfl rfl rfl (st_rf (S := (⟨S.src, (keepT S.t ⟨m.epoch, m.nodes, m.owner⟩).1, S.L⟩ : PSrc)) hL.at_ rfl rfl)) (hL.row _) fun _ w51 H51 hL => ?_
 refine h_o H51 rfl (R_as H51 rfl rfl) (P2 5 4 rfl rfl) fun _ H52 => ?_
 refine h_end ?_
 repeat (go_not_at_region 999; go_step)
 subst hy
 exact bodyPost_ret (v := .tuple #[.agg (rfC (⟨S.src, (keepT S.t ⟨m.epoch, m.nodes, m.owner⟩).1, S.L⟩ : PSrc) (.slice A4 n4 c4) (.slice A2 S.L.length c2)), .bool (keepT S.t ⟨m.epoch, m.nodes, m.owner⟩).2]) (rf_results2 rfl (H52.getD rfl) (H52.getD rfl) hL.at_) H52.1 ⟨.slice A4 n4 c4, _, [], rfl, hq5, .inl ⟨rfl, rfl, rfl⟩, hL.tail.tail.tail.tail⟩
end
end Go.Proofs.YthkeiclhllikjaaGreat
