/-
  The document's layers 6, 17 and 18: a key's print, tables.
-/
import Derived.Test.YthkeiclhllikjaaGreatSvC
import Derived.Test.YthkeiclhllikjaaGreatMsgFk
set_option linter.unusedSimpArgs false
set_option linter.unusedVariables false
namespace Go.Proofs.YthkeiclhllikjaaGreat.R
open Go.RowKit
section
variable {W w : World} {s : ByteArray}
set_option maxRecDepth 100000 in
theorem rPrint_any (hs : s.size < 140737488351233) : Calls Tryz.prog 63 #[.string s] W fun e W' => e = .returned (.int .u64 (prN (bytesOf s) : Nat)) ∧ W' = W := by
 go_enter Tryz.func63, Tryz.ntmps63
 refine wp_fr (n := 19) (m := [(0, _)]) ⟨rfl, rfl, by intro p hp; simp only [List.mem_cons, List.not_mem_nil, or_false] at hp; rcases hp with rfl <;> rfl⟩ fun a0 H0 => ?_
 repeat (go_not_at_region 0; go_step)
 refine wp_region_lit ?_
 refine h_o H0 rfl (R_as H0 rfl rfl) (P1 0 rfl) fun _ H1 => ?_
 refine h_end ?_
 repeat (go_not_at_region 1; go_step)
 refine wp_region_lit ?_
 refine h_o H1 rfl (R_as H1 rfl rfl) (P2 3 0 rfl rfl) fun _ H2 => ?_
 refine h_end ?_
 repeat (go_not_at_region 2; go_step)
 refine wp_region_lit ?_
 refine h_o H2 rfl (R_as H2 rfl rfl) (P3 4 3 0 rfl rfl rfl) fun _ H3 => ?_
 refine h_end ?_
 repeat (go_not_at_region 3; go_step)
 obtain ⟨I, hI⟩ : ∃ I : Nat → Act → World → Prop, ∀ n a' w', I n a' w' ↔ ∃ j : Nat, n = s.size - j ∧ j ≤ s.size ∧ Fr a' 19 [(0, .string s), (3, .int .u64 (((bytesOf s).take j).foldl prS 14695981039346656037 : Nat)), (4, .int .i64 (j : Nat))] ∧ w' = W := ⟨_, fun _ _ _ => Iff.rfl⟩
 have HI := Lib.hid hI
 clear hI
 refine wp_loop_ghost I (s.size) ((HI.out _ _ _).2 ⟨0, rfl, Nat.zero_le _, H3.pick _ (P3 0 3 4 rfl rfl rfl), rfl⟩) ?_
 clear  H3
 intro n a1 wl hi
 obtain ⟨j, rfl, hj, H0, rfl⟩ := (HI.out _ _ _).1 hi
 clear hi
 by_cases hjl : j < s.size
 ·repeat (go_not_at_region 3; go_step)
  refine wp_region_lit ?_
  refine h_o H0 rfl (R_mv H0 rfl rfl) (P4 5 0 3 4 rfl rfl rfl rfl) fun _ H1 => ?_
  refine h_o H1 rfl (R_mv H1 rfl rfl) (P5 6 5 0 3 4 rfl rfl rfl rfl rfl) fun _ H2 => ?_
  refine h_o H2 rfl (R_len H2 rfl rfl Tryz.underlying9) (P5 7 5 0 3 4 rfl rfl rfl rfl rfl) fun _ H3 => ?_
  refine h_o H3 rfl (R_bin H3 rfl rfl rfl (B_to (y := true) (B_lt Tryz.underlying3 _ _) (decide_eq_true (by omega)))) (P4 8 0 3 4 rfl rfl rfl rfl) fun _ H4 => ?_
  refine h_end ?_
  repeat (go_not_at_region 5; go_step)
  refine wp_cond_true (H4.ev (x := .tmp 8) rfl) ?_
  have hb8 : (s[j]'hjl).toNat < 256 := UInt8.toNat_lt _
  have hmore := pr_more prS hjl 14695981039346656037
  have hnl : ((bytesOf s).take j).foldl prS 14695981039346656037 < 18446744073709551616 := prN_lt _
  generalize ((bytesOf s).take j).foldl prS 14695981039346656037 = x at hmore hnl H4
  rw [prS_val] at hmore
  repeat (go_not_at_region 5; go_step)
  refine wp_region_lit ?_
  refine h_o H4 rfl (R_mv H4 rfl rfl) (P4 11 0 3 4 rfl rfl rfl rfl) fun _ H5 => ?_
  refine h_o H5 rfl (R_mv H5 rfl rfl) (P5 12 11 0 3 4 rfl rfl rfl rfl rfl) fun _ H6 => ?_
  refine h_o H6 rfl (R_mv H6 rfl rfl) (P6 13 12 11 0 3 4 rfl rfl rfl rfl rfl rfl) fun _ H7 => ?_
  refine h_o H7 rfl (R_ix H7 rfl rfl rfl (ix_str hjl)) (P5 14 11 0 3 4 rfl rfl rfl rfl rfl) fun _ H8 => ?_
  refine h_o H8 rfl (R_cv H8 rfl rfl (cv8_64 _ hb8)) (P5 15 11 0 3 4 rfl rfl rfl rfl rfl) fun _ H9 => ?_
  refine h_o H9 rfl (R_bin H9 rfl rfl rfl (B64_xorN _ _ hnl (by omega))) (P4 16 0 3 4 rfl rfl rfl rfl) fun _ H10 => ?_
  refine h_o H10 rfl (R_bin H10 rfl rfl rfl (B64_mulP _)) (P4 17 0 3 4 rfl rfl rfl rfl) fun _ H11 => ?_
  refine h_o H11 rfl (R_as H11 rfl rfl) (P3 3 0 4 rfl rfl rfl) fun _ H12 => ?_
  refine h_end ?_
  repeat (go_not_at_region 4; go_step)
  refine wp_region_lit ?_
  refine h_o H12 rfl (R_mv H12 rfl rfl) (P4 9 3 0 4 rfl rfl rfl rfl) fun _ H13 => ?_
  refine h_o H13 rfl (R_bin H13 rfl rfl rfl (B_add Tryz.underlying3 _ _ (by omega) (by omega))) (P4 10 3 0 4 rfl rfl rfl rfl) fun _ H14 => ?_
  refine h_o H14 rfl (R_as H14 rfl rfl) (P3 4 3 0 rfl rfl rfl) fun _ H15 => ?_
  refine h_end ?_
  repeat (go_not_at_region 999; go_step)
  refine ⟨s.size - (j + 1), by omega, (HI.out _ _ _).2 ⟨j + 1, rfl, hjl, ?_, rfl⟩⟩
  rw [hmore]
  exact H15.pick _ (P3 0 3 4 rfl rfl rfl)
 ·obtain rfl : j = s.size := by omega
  repeat (go_not_at_region 3; go_step)
  refine wp_region_lit ?_
  refine h_o H0 rfl (R_mv H0 rfl rfl) (P4 5 0 3 4 rfl rfl rfl rfl) fun _ H1 => ?_
  refine h_o H1 rfl (R_mv H1 rfl rfl) (P5 6 5 0 3 4 rfl rfl rfl rfl rfl) fun _ H2 => ?_
  refine h_o H2 rfl (R_len H2 rfl rfl Tryz.underlying9) (P5 7 5 0 3 4 rfl rfl rfl rfl rfl) fun _ H3 => ?_
  refine h_o H3 rfl (R_bin H3 rfl rfl rfl (B_to (y := false) (B_lt Tryz.underlying3 _ _) (decide_eq_false (by omega)))) (P4 8 0 3 4 rfl rfl rfl rfl) fun _ H4 => ?_
  refine h_end ?_
  repeat (go_not_at_region 6; go_step)
  refine wp_cond_false (H4.ev (x := .tmp 8) rfl) ?_
  repeat (go_not_at_region 6; go_step)
  refine wp_region_lit ?_
  refine h_o H4 rfl (R_mv H4 rfl rfl) (P1 18 rfl) fun _ H5 => ?_
  refine h_o H5 rfl (R_as H5 rfl rfl) (P1 2 rfl) fun _ H6 => ?_
  refine h_end ?_
  repeat (go_not_at_region 999; go_step)
  refine H6.ret1 rfl rfl ⟨?_, rfl⟩
  have hall : (bytesOf s).take s.size = bytesOf s := List.take_of_length_le (by simp [bytesOf])
  rw [hall]
  rfl
set_option maxRecDepth 100000 in
theorem rOf_any (hs : s.size < 140737488351233) (n : Nat) (hn : n < 9223372036854775808) : Calls Tryz.prog 46 #[.string s, .int .i64 (n : Nat)] W fun e W' => e = .returned (.int .i64 (ofS s n)) ∧ W' = W := by
 obtain ⟨y, hy⟩ : ∃ y, y = ofS s n := ⟨_, rfl⟩
 rw [← hy]
 unfold ofS at hy
 go_enter Tryz.func46, Tryz.ntmps46
 refine wp_fr (n := 13) (m := [(0, _), (1, _)]) ⟨rfl, rfl, by intro p hp; simp only [List.mem_cons, List.not_mem_nil, or_false] at hp; rcases hp with rfl | rfl <;> rfl⟩ fun a0 H0 => ?_
 repeat (go_not_at_region 0; go_step)
 refine wp_region_lit ?_
 refine h_o H0 rfl (R_as H0 rfl rfl) (P2 0 1 rfl rfl) fun _ H1 => ?_
 refine h_end ?_
 by_cases h : (n : Int) < 1
 ·rw [if_pos h] at hy
  repeat (go_not_at_region 1; go_step)
  refine wp_region_lit ?_
  refine h_o H1 rfl (R_mv H1 rfl rfl) (P1 5 rfl) fun _ H2 => ?_
  refine h_o H2 rfl (R_bin H2 rfl rfl rfl (B_to (y := true) (B_lt Tryz.underlying3 _ _) (decide_eq_true h))) (P1 6 rfl) fun _ H3 => ?_
  refine h_end ?_
  repeat (go_not_at_region 2; go_step)
  refine wp_cond_true (H3.ev (x := .tmp 6) rfl) ?_
  repeat (go_not_at_region 2; go_step)
  refine wp_region_lit ?_
  refine h_o H3 rfl (R_as H3 rfl rfl) (P1 4 rfl) fun _ H4 => ?_
  refine h_end ?_
  repeat (go_not_at_region 999; go_step)
  exact H4.ret1 rfl rfl ⟨by rw [hy], rfl⟩
 ·rw [if_neg h, Int.toNat_natCast] at hy
  have hmod := Nat.mod_lt (prN (bytesOf s)) (show n > 0 by omega)
  repeat (go_not_at_region 1; go_step)
  refine wp_region_lit ?_
  refine h_o H1 rfl (R_mv H1 rfl rfl) (P3 5 0 1 rfl rfl rfl) fun _ H2 => ?_
  refine h_o H2 rfl (R_bin H2 rfl rfl rfl (B_to (y := false) (B_lt Tryz.underlying3 _ _) (decide_eq_false h))) (P3 6 0 1 rfl rfl rfl) fun _ H3 => ?_
  refine h_end ?_
  repeat (go_not_at_region 3; go_step)
  refine wp_cond_false (H3.ev (x := .tmp 6) rfl) ?_
  repeat (go_not_at_region 3; go_step)
  refine wp_region_lit ?_
  refine h_o H3 rfl (R_mv H3 rfl rfl) (P2 7 1 rfl rfl) fun _ H4 => ?_
  refine h_call H4 rfl (wn rfl) (R_call1 H4 rfl rfl (fun w => by simp [go_sem])) rfl ?_
  refine (rPrint_any hs).mono ?_
  rintro e wx ⟨rfl, rfl⟩
  refine ⟨_, rfl, fun a5 HH => ?_⟩
  have H5 := HH _ (P2 8 1 rfl rfl)
  refine h_o H5 rfl (R_mv H5 rfl rfl) (P2 9 8 rfl rfl) fun _ H6 => ?_
  refine h_o H6 rfl (R_cv H6 rfl rfl (cvi_64 n hn)) (P2 10 8 rfl rfl) fun _ H7 => ?_
  refine h_o H7 rfl (R_bin H7 rfl rfl rfl (B64_remN _ n (by omega))) (P1 11 rfl) fun _ H8 => ?_
  refine h_o H8 rfl (R_cv H8 rfl rfl (cv64_i _ (by omega))) (P1 12 rfl) fun _ H9 => ?_
  refine h_o H9 rfl (R_as H9 rfl rfl) (P1 4 rfl) fun _ H10 => ?_
  refine h_end ?_
  repeat (go_not_at_region 999; go_step)
  exact H10.ret1 rfl rfl ⟨by rw [hy], rfl⟩
end
section
variable {w0 W : World} {L : List Blk} {l : List Int} {v v2 : Value} {g k : Nat} {nd : Int} {t u : PTab}
theorem Rdc {w : World} {A : Option Addr} {c j : Nat} {ad : Addr} (h : Rd w (.slice A l.length c) l) (e : A = some ad) (hj : j < l.length) : w.cell? (ad.add j) = some (.int .i64 (l.getD j 0)) := by
 obtain ⟨a2, e2, h2⟩ := h.elem hj
 have e3 := e.symm.trans e2
 cases e3
 exact h2
theorem ix_atE {w : World} {A : Option Addr} {ad : Addr} {n c j : Nat} (e : A = some ad) (h : j < n) : (Instr.indexAt 26 (.slice A n c) (.int .i64 (j : Nat))).run Tryz.prog w = .ok (.pointer (some (ad.add j))) w := by
 subst e
 simp [go_sem, h]
set_option maxRecDepth 100000 in
set_option maxHeartbeats 1000000 in
theorem rRight_any (hR : Rd W v t.own) (hl : t.own.length ≤ 1000000000000) : Calls Tryz.prog 42 #[.agg (tbC t v)] W fun e W' => e = .returned (.bool (rightT t)) ∧ Below W.heap.size W W' := by
 obtain ⟨A, c, rfl⟩ := hR.slc
 have K1 : ∀ {w}, Below W.heap.size W w → Rd w (.slice A t.own.length c) t.own := fun hb => hR.kept fun k hk => hb.block k hk
 have hL := (Live.init W).alloc (tbC t (.slice A t.own.length c)) 28
 obtain ⟨y, hy⟩ : ∃ y, y = rightT t := ⟨_, rfl⟩
 rw [← hy]
 unfold rightT at hy
 go_enter Tryz.func42, Tryz.ntmps42
 refine wp_fr (n := 52) (m := [(0, _)]) ⟨rfl, rfl, by intro p hp; simp only [List.mem_cons, List.not_mem_nil, or_false] at hp; rcases hp with rfl <;> rfl⟩ fun a0 H0 => ?_
 repeat (go_not_at_region 0; go_step)
 refine wp_region_lit ?_
 refine h_o H0 rfl (R_box H0 rfl rfl bx_tb) (P1 1 rfl) fun _ H1 => ?_
 refine h_o H1 rfl (R_as H1 rfl rfl) (P1 1 rfl) fun _ H2 => ?_
 refine h_end ?_
 repeat (go_not_at_region 1; go_step)
 refine wp_region_lit ?_
 refine h_o H2 rfl (R_fa H2 rfl rfl (ft_0 _ _ _)) (P2 4 1 rfl rfl) fun _ H3 => ?_
 refine h_o H3 rfl (R_ld H3 rfl rfl (ld_int (hL.cell 0))) (P2 5 1 rfl rfl) fun _ H4 => ?_
 refine h_o H4 rfl (R_bin H4 rfl rfl rfl (B_lt Tryz.underlying3 _ _)) (P2 6 1 rfl rfl) fun _ H5 => ?_
 refine h_o H5 rfl (R_mv H5 rfl rfl) (P2 7 1 rfl rfl) fun _ H6 => ?_
 replace H6 := H6.pick [(1, .pointer (some ⟨W.heap.size, 0, none⟩)), (7, .bool (decide (t.ep < 1)))] (P2 1 7 rfl rfl)
 generalize ht0 : (decide (t.ep < 1)) = t0 at H6
 refine wpList_cut [_, _, _, _, _] (R := fun a' w' => Fr a' 52 [(1, .pointer (some ⟨W.heap.size, 0, none⟩)), (12, .bool (t0 || (decide (t.nd < 1))))] ∧ Live W [(W.heap.size, (tbC t (.slice A t.own.length c)), 28)] w') ?_ ?_
 ·cases t0
  ·refine h_op H6 rfl (H6.wt rfl rfl rfl) (R_fa H6 rfl rfl (ft_1 _ _ _)) rfl (P3 8 1 7 rfl rfl rfl) fun a7 H7 => ?_
   refine h_op H7 rfl (H7.wt rfl rfl rfl) (R_ld H7 rfl rfl (ld_int (hL.cell 1))) rfl (P3 9 1 7 rfl rfl rfl) fun _ H8 => ?_
   refine h_op H8 rfl (H8.wt rfl rfl rfl) (R_bin H8 rfl rfl rfl (B_lt Tryz.underlying3 _ _)) rfl (P3 10 1 7 rfl rfl rfl) fun _ H9 => ?_
   refine h_o H9 rfl (R_pick H9 rfl rfl rfl) (P2 11 1 rfl rfl) fun _ H10 => ?_
   refine h_o H10 rfl (R_mv H10 rfl rfl) (P2 12 1 rfl rfl) fun _ H11 => ?_
   exact h_end ⟨H11.pick _ (P2 1 12 rfl rfl), hL⟩
  ·refine h_skip H6 rfl (H6.wf rfl rfl rfl) rfl (P3 8 1 7 rfl rfl rfl) fun a7 H7 => ?_
   refine h_skip H7 rfl (H7.wf rfl rfl rfl) rfl (P3 9 1 7 rfl rfl rfl) fun _ H8 => ?_
   refine h_skip H8 rfl (H8.wf rfl rfl rfl) rfl (P3 10 1 7 rfl rfl rfl) fun _ H9 => ?_
   refine h_o H9 rfl (R_pick H9 rfl rfl rfl) (P2 11 1 rfl rfl) fun _ H10 => ?_
   refine h_o H10 rfl (R_mv H10 rfl rfl) (P2 12 1 rfl rfl) fun _ H11 => ?_
   exact h_end ⟨H11.pick _ (P2 1 12 rfl rfl), hL⟩
 clear hL H6
 rintro a12 wx ⟨H12, hL⟩
 generalize ht1 : (t0 || (decide (t.nd < 1))) = t1 at H12
 refine wpList_cut [_, _, _, _, _] (R := fun a' w' => Fr a' 52 [(1, .pointer (some ⟨W.heap.size, 0, none⟩)), (17, .bool (t1 || (decide (t.nd > 4))))] ∧ Live W [(W.heap.size, (tbC t (.slice A t.own.length c)), 28)] w') ?_ ?_
 ·cases t1
  ·refine h_op H12 rfl (H12.wt rfl rfl rfl) (R_fa H12 rfl rfl (ft_1 _ _ _)) rfl (P3 13 1 12 rfl rfl rfl) fun a13 H13 => ?_
   refine h_op H13 rfl (H13.wt rfl rfl rfl) (R_ld H13 rfl rfl (ld_int (hL.cell 1))) rfl (P3 14 1 12 rfl rfl rfl) fun _ H14 => ?_
   refine h_op H14 rfl (H14.wt rfl rfl rfl) (R_bin H14 rfl rfl rfl (B_gt Tryz.underlying3 _ _)) rfl (P3 15 1 12 rfl rfl rfl) fun _ H15 => ?_
   refine h_o H15 rfl (R_pick H15 rfl rfl rfl) (P2 16 1 rfl rfl) fun _ H16 => ?_
   refine h_o H16 rfl (R_mv H16 rfl rfl) (P2 17 1 rfl rfl) fun _ H17 => ?_
   exact h_end ⟨H17.pick _ (P2 1 17 rfl rfl), hL⟩
  ·refine h_skip H12 rfl (H12.wf rfl rfl rfl) rfl (P3 13 1 12 rfl rfl rfl) fun a13 H13 => ?_
   refine h_skip H13 rfl (H13.wf rfl rfl rfl) rfl (P3 14 1 12 rfl rfl rfl) fun _ H14 => ?_
   refine h_skip H14 rfl (H14.wf rfl rfl rfl) rfl (P3 15 1 12 rfl rfl rfl) fun _ H15 => ?_
   refine h_o H15 rfl (R_pick H15 rfl rfl rfl) (P2 16 1 rfl rfl) fun _ H16 => ?_
   refine h_o H16 rfl (R_mv H16 rfl rfl) (P2 17 1 rfl rfl) fun _ H17 => ?_
   exact h_end ⟨H17.pick _ (P2 1 17 rfl rfl), hL⟩
 clear hL H12
 rintro a18 wx ⟨H18, hL⟩
 generalize ht2 : (t1 || (decide (t.nd > 4))) = t2 at H18
 refine wpList_cut [_, _, _, _, _, _] (R := fun a' w' => Fr a' 52 [(1, .pointer (some ⟨W.heap.size, 0, none⟩)), (23, .bool (t2 || (decide ((t.own.length : Int) < 1))))] ∧ Live W [(W.heap.size, (tbC t (.slice A t.own.length c)), 28)] w') ?_ ?_
 ·cases t2
  ·refine h_op H18 rfl (H18.wt rfl rfl rfl) (R_fa H18 rfl rfl (ft_2 _ _ _)) rfl (P3 18 1 17 rfl rfl rfl) fun a19 H19 => ?_
   refine h_op H19 rfl (H19.wt rfl rfl rfl) (R_ld H19 rfl rfl (ld_sl (hL.cell 2))) rfl (P3 19 1 17 rfl rfl rfl) fun _ H20 => ?_
   refine h_op H20 rfl (H20.wt rfl rfl rfl) (R_lenS H20 rfl rfl Tryz.underlying26) rfl (P3 20 1 17 rfl rfl rfl) fun _ H21 => ?_
   refine h_op H21 rfl (H21.wt rfl rfl rfl) (R_bin H21 rfl rfl rfl (B_lt Tryz.underlying3 _ _)) rfl (P3 21 1 17 rfl rfl rfl) fun _ H22 => ?_
   refine h_o H22 rfl (R_pick H22 rfl rfl rfl) (P2 22 1 rfl rfl) fun _ H23 => ?_
   refine h_o H23 rfl (R_mv H23 rfl rfl) (P2 23 1 rfl rfl) fun _ H24 => ?_
   exact h_end ⟨H24.pick _ (P2 1 23 rfl rfl), hL⟩
  ·refine h_skip H18 rfl (H18.wf rfl rfl rfl) rfl (P3 18 1 17 rfl rfl rfl) fun a19 H19 => ?_
   refine h_skip H19 rfl (H19.wf rfl rfl rfl) rfl (P3 19 1 17 rfl rfl rfl) fun _ H20 => ?_
   refine h_skip H20 rfl (H20.wf rfl rfl rfl) rfl (P3 20 1 17 rfl rfl rfl) fun _ H21 => ?_
   refine h_skip H21 rfl (H21.wf rfl rfl rfl) rfl (P3 21 1 17 rfl rfl rfl) fun _ H22 => ?_
   refine h_o H22 rfl (R_pick H22 rfl rfl rfl) (P2 22 1 rfl rfl) fun _ H23 => ?_
   refine h_o H23 rfl (R_mv H23 rfl rfl) (P2 23 1 rfl rfl) fun _ H24 => ?_
   exact h_end ⟨H24.pick _ (P2 1 23 rfl rfl), hL⟩
 clear hL H18
 rintro a25 wx ⟨H25, hL⟩
 generalize ht3 : (t2 || (decide ((t.own.length : Int) < 1))) = t3 at H25
 refine wpList_cut [_, _, _, _, _] (R := fun a' w' => Fr a' 52 [(1, .pointer (some ⟨W.heap.size, 0, none⟩)), (28, .bool (t3 || (decide ((t.own.length : Int) > 8))))] ∧ Live W [(W.heap.size, (tbC t (.slice A t.own.length c)), 28)] w') ?_ ?_
 ·cases t3
  ·refine h_op H25 rfl (H25.wt rfl rfl rfl) (R_fa H25 rfl rfl (ft_2 _ _ _)) rfl (P3 24 1 23 rfl rfl rfl) fun a26 H26 => ?_
   refine h_op H26 rfl (H26.wt rfl rfl rfl) (R_ld H26 rfl rfl (ld_sl (hL.cell 2))) rfl (P3 25 1 23 rfl rfl rfl) fun _ H27 => ?_
   refine h_op H27 rfl (H27.wt rfl rfl rfl) (R_lenS H27 rfl rfl Tryz.underlying26) rfl (P3 26 1 23 rfl rfl rfl) fun _ H28 => ?_
   refine h_op H28 rfl (H28.wt rfl rfl rfl) (R_bin H28 rfl rfl rfl (B_gt Tryz.underlying3 _ _)) rfl (P3 27 1 23 rfl rfl rfl) fun _ H29 => ?_
   refine h_o H29 rfl (R_pick H29 rfl rfl rfl) (P2 28 1 rfl rfl) fun _ H30 => ?_
   exact h_end ⟨H30.pick _ (P2 1 28 rfl rfl), hL⟩
  ·refine h_skip H25 rfl (H25.wf rfl rfl rfl) rfl (P3 24 1 23 rfl rfl rfl) fun a26 H26 => ?_
   refine h_skip H26 rfl (H26.wf rfl rfl rfl) rfl (P3 25 1 23 rfl rfl rfl) fun _ H27 => ?_
   refine h_skip H27 rfl (H27.wf rfl rfl rfl) rfl (P3 26 1 23 rfl rfl rfl) fun _ H28 => ?_
   refine h_skip H28 rfl (H28.wf rfl rfl rfl) rfl (P3 27 1 23 rfl rfl rfl) fun _ H29 => ?_
   refine h_o H29 rfl (R_pick H29 rfl rfl rfl) (P2 28 1 rfl rfl) fun _ H30 => ?_
   exact h_end ⟨H30.pick _ (P2 1 28 rfl rfl), hL⟩
 clear hL H25
 rintro a31 wx ⟨H31, hL⟩
 generalize ht4 : (t3 || (decide ((t.own.length : Int) > 8))) = t4 at H31
 refine h_end ?_
 cases t4
 rotate_left
 ·repeat (go_not_at_region 2; go_step)
  refine wp_cond_true (H31.ev (x := .tmp 28) rfl) ?_
  repeat (go_not_at_region 2; go_step)
  refine wp_region_lit ?_
  refine h_o H31 rfl (R_as H31 rfl rfl) (P1 2 rfl) fun _ H32 => ?_
  refine h_end ?_
  repeat (go_not_at_region 999; go_step)
  refine H32.ret1 rfl rfl ⟨?_, hL.1⟩
  have e : y = false := by
   rw [hy]
   rw [← ht3, ← ht2, ← ht1, ← ht0] at ht4
   simp only [Bool.or_eq_true, decide_eq_true_eq] at ht4
   simp only [Bool.and_eq_false_iff, decide_eq_false_iff_not]
   omega
  rw [e]
 rw [← ht3, ← ht2, ← ht1, ← ht0] at ht4
 simp only [Bool.or_eq_false_iff, decide_eq_false_iff_not] at ht4
 clear ht0 ht1 ht2 ht3
 have hy2 : y = !(t.own.any (badN t.nd)) := by
  rw [hy, decide_eq_true (by omega), decide_eq_true (by omega), decide_eq_true (by omega), decide_eq_true (by omega), decide_eq_true (by omega)]
  rfl
 clear hy
 repeat (go_not_at_region 3; go_step)
 refine wp_cond_false (H31.ev (x := .tmp 28) rfl) ?_
 repeat (go_not_at_region 3; go_step)
 refine wp_region_lit ?_
 refine h_o H31 rfl (R_as H31 rfl rfl) (P2 3 1 rfl rfl) fun _ H32 => ?_
 refine h_end ?_
 repeat (go_not_at_region 4; go_step)
 obtain ⟨I, hI⟩ : ∃ I : Nat → Act → World → Prop, ∀ n a' w', I n a' w' ↔ ∃ j : Nat, n = t.own.length - j ∧ j ≤ t.own.length ∧ Fr a' 52 [(1, .pointer (some ⟨W.heap.size, 0, none⟩)), (3, .int .i64 (j : Nat))] ∧ (t.own.take j).any (badN t.nd) = false ∧ Live W [(W.heap.size, (tbC t (.slice A t.own.length c)), 28)] w' := ⟨_, fun _ _ _ => Iff.rfl⟩
 have HI := Lib.hid hI
 clear hI
 refine wp_loop_ghost I (t.own.length) ((HI.out _ _ _).2 ⟨0, rfl, Nat.zero_le _, H32.pick _ (P2 1 3 rfl rfl), rfl, hL⟩) ?_
 clear hL H32
 intro n a1 wl hi
 obtain ⟨j, rfl, hj, H0, hno, hL⟩ := (HI.out _ _ _).1 hi
 clear hi
 by_cases hjl : j < t.own.length
 ·repeat (go_not_at_region 4; go_step)
  refine wp_region_lit ?_
  refine h_o H0 rfl (R_mv H0 rfl rfl) (P3 29 1 3 rfl rfl rfl) fun _ H1 => ?_
  refine h_o H1 rfl (R_fa H1 rfl rfl (ft_2 _ _ _)) (P4 30 29 1 3 rfl rfl rfl rfl) fun _ H2 => ?_
  refine h_o H2 rfl (R_ld H2 rfl rfl (ld_sl (hL.cell 2))) (P4 31 29 1 3 rfl rfl rfl rfl) fun _ H3 => ?_
  refine h_o H3 rfl (R_lenS H3 rfl rfl Tryz.underlying26) (P4 32 29 1 3 rfl rfl rfl rfl) fun _ H4 => ?_
  refine h_o H4 rfl (R_bin H4 rfl rfl rfl (B_to (y := true) (B_lt Tryz.underlying3 _ _) (decide_eq_true (by omega)))) (P3 33 1 3 rfl rfl rfl) fun _ H5 => ?_
  refine h_end ?_
  repeat (go_not_at_region 6; go_step)
  refine wp_cond_true (H5.ev (x := .tmp 33) rfl) ?_
  obtain ⟨ad, hA, _⟩ := hR.elem hjl
  have hcw : ∀ w, Below W.heap.size W w → w.cell? (ad.add j) = some (.int .i64 (t.own.getD j 0)) := fun w hb => Rdc (K1 hb) hA hjl
  repeat (go_not_at_region 6; go_step)
  refine wp_region_held_drew (S := fun w' => Live W [(W.heap.size, (tbC t (.slice A t.own.length c)), 28)] w') (by kernel_rfl) hL.drew (fun hL' => ?_)
  replace hL := hL'
  clear hL'
  refine a_opZ 0 H5 rfl rfl (by kernel_rfl) (wn rfl) (fun w hL => R_fa H5 rfl rfl (ft_2 _ _ _)) hL rfl (P3 36 1 3 rfl rfl rfl) fun _ H6 => ?_
  refine a_opZ 1 H6 rfl rfl (by kernel_rfl) (wn rfl) (fun w hL => R_ld H6 rfl rfl (ld_sl (hL.cell 2))) hL rfl (P3 37 1 3 rfl rfl rfl) fun _ H7 => ?_
  refine a_opZ 2 H7 rfl rfl (by kernel_rfl) (wn rfl) (fun w hL => R_mv H7 rfl rfl) hL rfl (P4 38 37 1 3 rfl rfl rfl rfl) fun _ H8 => ?_
  refine a_opZ 3 H8 rfl rfl (by kernel_rfl) (wn rfl) (fun w hL => R_ixa H8 rfl rfl rfl (ix_atE hA hjl)) hL rfl (P3 39 1 3 rfl rfl rfl) fun _ H9 => ?_
  refine a_opZ 4 H9 rfl rfl (by kernel_rfl) (wn rfl) (fun w hL => R_ld H9 rfl rfl (ld_int (hcw _ hL.1))) hL rfl (P3 40 1 3 rfl rfl rfl) fun _ H10 => ?_
  refine a_opZ 5 H10 rfl rfl (by kernel_rfl) (wn rfl) (fun w hL => R_bin H10 rfl rfl rfl (B_lt Tryz.underlying3 _ _)) hL rfl (P3 41 1 3 rfl rfl rfl) fun _ H11 => ?_
  refine a_opZ 6 H11 rfl rfl (by kernel_rfl) (wn rfl) (fun w hL => R_mv H11 rfl rfl) hL rfl (P3 42 1 3 rfl rfl rfl) fun _ H12 => ?_
  replace H12 := H12.pick [(42, .bool (decide (t.own.getD j 0 < 0))), (1, .pointer (some ⟨W.heap.size, 0, none⟩)), (3, .int .i64 (j : Nat))] (P3 42 1 3 rfl rfl rfl)
  generalize hs0 : (decide (t.own.getD j 0 < 0)) = s0 at H12
  refine a_opB  7 H12 rfl rfl (by kernel_rfl) (by kernel_rfl) (by kernel_rfl) (fun _ _ _ h => h) rfl rfl rfl (fun hb w hL => by subst hb; exact R_fa H12 rfl rfl (ft_2 _ _ _)) hL rfl (P4 43 42 1 3 rfl rfl rfl rfl) fun _ H13 => ?_
  refine a_opB  8 H13 rfl rfl (by kernel_rfl) (by kernel_rfl) (by kernel_rfl) (fun _ _ _ h => h) rfl rfl rfl (fun hb w hL => by subst hb; exact R_ld H13 rfl rfl (ld_sl (hL.cell 2))) hL rfl (P4 44 42 1 3 rfl rfl rfl rfl) fun _ H14 => ?_
  refine a_opB  9 H14 rfl rfl (by kernel_rfl) (by kernel_rfl) (by kernel_rfl) (fun _ _ _ h => h) rfl rfl rfl (fun hb w hL => by subst hb; exact R_mv H14 rfl rfl) hL rfl (P5 45 44 42 1 3 rfl rfl rfl rfl rfl) fun _ H15 => ?_
  refine a_opB  10 H15 rfl rfl (by kernel_rfl) (by kernel_rfl) (by kernel_rfl) (fun _ _ _ h => h) rfl rfl rfl (fun hb w hL => by subst hb; exact R_ixa H15 rfl rfl rfl (ix_atE hA hjl)) hL rfl (P4 46 42 1 3 rfl rfl rfl rfl) fun _ H16 => ?_
  refine a_opB  11 H16 rfl rfl (by kernel_rfl) (by kernel_rfl) (by kernel_rfl) (fun _ _ _ h => h) rfl rfl rfl (fun hb w hL => by subst hb; exact R_ld H16 rfl rfl (ld_int (hcw _ hL.1))) hL rfl (P4 47 42 1 3 rfl rfl rfl rfl) fun _ H17 => ?_
  refine a_opB  12 H17 rfl rfl (by kernel_rfl) (by kernel_rfl) (by kernel_rfl) (fun _ _ _ h => h) rfl rfl rfl (fun hb w hL => by subst hb; exact R_fa H17 rfl rfl (ft_1 _ _ _)) hL rfl (P5 48 47 42 1 3 rfl rfl rfl rfl rfl) fun _ H18 => ?_
  refine a_opB  13 H18 rfl rfl (by kernel_rfl) (by kernel_rfl) (by kernel_rfl) (fun _ _ _ h => h) rfl rfl rfl (fun hb w hL => by subst hb; exact R_ld H18 rfl rfl (ld_int (hL.cell 1))) hL rfl (P5 49 47 42 1 3 rfl rfl rfl rfl rfl) fun _ H19 => ?_
  refine a_opB  14 H19 rfl rfl (by kernel_rfl) (by kernel_rfl) (by kernel_rfl) (fun _ _ _ h => h) rfl rfl rfl (fun hb w hL => by subst hb; exact R_bin H19 rfl rfl rfl (B_ge Tryz.underlying3 _ _)) hL rfl (P4 50 42 1 3 rfl rfl rfl rfl) fun _ H20 => ?_
  refine a_opZ 15 H20 rfl rfl (by kernel_rfl) (wn rfl) (fun w hL => R_pickOr H20 rfl rfl rfl) hL rfl (P3 51 1 3 rfl rfl rfl) fun _ H21 => ?_
  replace H21 := H21.pick [(51, .bool (s0 || (decide (t.own.getD j 0 ≥ t.nd)))), (1, .pointer (some ⟨W.heap.size, 0, none⟩)), (3, .int .i64 (j : Nat))] (P3 51 1 3 rfl rfl rfl)
  generalize hs1 : (s0 || (decide (t.own.getD j 0 ≥ t.nd))) = s1 at H21
  refine wpAnyH_done (by kernel_rfl) ?_ _
  have hbad : badN t.nd (t.own.getD j 0) = s1 := by
   rw [← hs1, ← hs0]
   rfl
  have htk : (t.own.take (j + 1)).any (badN t.nd) = s1 := by
   rw [List.take_add_one, List.any_append, hno, Bool.false_or, List.getElem?_eq_getElem hjl]
   rw [List.getD_eq_getElem?_getD, List.getElem?_eq_getElem hjl] at hbad
   simpa using hbad
  cases s1
  rotate_left
  ·repeat (go_not_at_region 7; go_step)
   refine wp_cond_true (H21.ev (x := .tmp 51) rfl) ?_
   repeat (go_not_at_region 7; go_step)
   refine wp_region_lit ?_
   refine h_o H21 rfl (R_as H21 rfl rfl) (P1 2 rfl) fun _ H22 => ?_
   refine h_end ?_
   repeat (go_not_at_region 999; go_step)
   refine H22.ret1 rfl rfl ⟨?_, hL.1⟩
   have e : t.own.any (badN t.nd) = true := by
    obtain ⟨z, hz, hb⟩ := List.any_eq_true.1 htk
    exact List.any_eq_true.2 ⟨z, List.mem_of_mem_take hz, hb⟩
   rw [hy2, e]
   rfl
  repeat (go_not_at_region 5; go_step)
  refine wp_cond_false (H21.ev (x := .tmp 51) rfl) ?_
  repeat (go_not_at_region 5; go_step)
  refine wp_region_lit ?_
  refine h_o H21 rfl (R_mv H21 rfl rfl) (P3 34 1 3 rfl rfl rfl) fun _ H22 => ?_
  refine h_o H22 rfl (R_bin H22 rfl rfl rfl (B_add Tryz.underlying3 _ _ (by omega) (by omega))) (P3 35 1 3 rfl rfl rfl) fun _ H23 => ?_
  refine h_o H23 rfl (R_as H23 rfl rfl) (P2 3 1 rfl rfl) fun _ H24 => ?_
  refine h_end ?_
  repeat (go_not_at_region 999; go_step)
  exact ⟨t.own.length - (j + 1), by omega, (HI.out _ _ _).2 ⟨j + 1, rfl, hjl, H24.pick _ (P2 1 3 rfl rfl), htk, hL⟩⟩
 ·obtain rfl : j = t.own.length := by omega
  repeat (go_not_at_region 4; go_step)
  refine wp_region_lit ?_
  refine h_o H0 rfl (R_mv H0 rfl rfl) (P3 29 1 3 rfl rfl rfl) fun _ H1 => ?_
  refine h_o H1 rfl (R_fa H1 rfl rfl (ft_2 _ _ _)) (P4 30 29 1 3 rfl rfl rfl rfl) fun _ H2 => ?_
  refine h_o H2 rfl (R_ld H2 rfl rfl (ld_sl (hL.cell 2))) (P4 31 29 1 3 rfl rfl rfl rfl) fun _ H3 => ?_
  refine h_o H3 rfl (R_lenS H3 rfl rfl Tryz.underlying26) (P4 32 29 1 3 rfl rfl rfl rfl) fun _ H4 => ?_
  refine h_o H4 rfl (R_bin H4 rfl rfl rfl (B_to (y := false) (B_lt Tryz.underlying3 _ _) (decide_eq_false (by omega)))) (P3 33 1 3 rfl rfl rfl) fun _ H5 => ?_
  refine h_end ?_
  repeat (go_not_at_region 8; go_step)
  refine wp_cond_false (H5.ev (x := .tmp 33) rfl) ?_
  repeat (go_not_at_region 8; go_step)
  refine wp_region_lit ?_
  refine h_o H5 rfl (R_as H5 rfl rfl) (P1 2 rfl) fun _ H6 => ?_
  refine h_end ?_
  repeat (go_not_at_region 999; go_step)
  refine H6.ret1 rfl rfl ⟨?_, hL.1⟩
  rw [List.take_length] at hno
  rw [hy2, hno]
  rfl
set_option maxRecDepth 100000 in
set_option maxHeartbeats 1000000 in
theorem rNewer_any (hR : Rd W v t.own) (hl : t.own.length ≤ 1000000000000) (hR2 : Rd W v2 u.own) (hl2 : u.own.length ≤ 1000000000000) : Calls Tryz.prog 90 #[.agg (tbC t v), .agg (tbC u v2)] W fun e W' => e = .returned (.bool (newerT t u)) ∧ Below W.heap.size W W' := by
 obtain ⟨A, c, rfl⟩ := hR.slc
 obtain ⟨A2, c2, rfl⟩ := hR2.slc
 have K1 : ∀ {w}, Below W.heap.size W w → Rd w (.slice A t.own.length c) t.own := fun hb => hR.kept fun k hk => hb.block k hk
 have K2 : ∀ {w}, Below W.heap.size W w → Rd w (.slice A2 u.own.length c2) u.own := fun hb => hR2.kept fun k hk => hb.block k hk
 have hs1 : ∀ (w : World) (o : Obj), (w.alloc o).heap.size = w.heap.size + 1 := fun w o => by simp
 have hL := ((Live.init W).alloc (tbC t (.slice A t.own.length c)) 28).alloc (tbC u (.slice A2 u.own.length c2)) 28
 simp only [hs1] at hL
 unfold newerT
 go_enter Tryz.func90, Tryz.ntmps90
 refine wp_fr (n := 34) (m := [(0, _), (1, _)]) ⟨rfl, rfl, by intro p hp; simp only [List.mem_cons, List.not_mem_nil, or_false] at hp; rcases hp with rfl | rfl <;> rfl⟩ fun a0 H0 => ?_
 repeat (go_not_at_region 0; go_step)
 refine wp_region_lit ?_
 refine h_o H0 rfl (R_box H0 rfl rfl bx_tb) (P2 2 1 rfl rfl) fun _ H1 => ?_
 refine h_o H1 rfl (R_box H1 rfl rfl bx_tb) (P2 3 2 rfl rfl) fun _ H2 => ?_
 refine h_o H2 rfl (R_as H2 rfl rfl) (P2 3 2 rfl rfl) fun _ H3 => ?_
 refine h_end ?_
 simp only [hs1] at *
 repeat (go_not_at_region 1; go_step)
 refine wp_region_lit ?_
 refine h_o H3 rfl (R_ld H3 rfl rfl (ld_tb (t := t) hL.tail.at_)) (P3 5 3 2 rfl rfl rfl) fun _ H4 => ?_
 refine h_call H4 rfl (wn rfl) (R_call1 H4 rfl rfl (fun w => by simp [go_sem])) rfl ?_
 refine (rRight_any (K1 hL.1) hl).mono ?_
 rintro e w5 ⟨rfl, hb⟩
 replace hL := hL.call hb
 clear hb
 refine ⟨_, rfl, fun a5 HH => ?_⟩
 have H5 := HH _ (P3 6 3 2 rfl rfl rfl)
 refine h_o H5 rfl (R_mv H5 rfl rfl) (P3 7 3 2 rfl rfl rfl) fun _ H6 => ?_
 replace H6 := H6.pick [(2, .pointer (some ⟨W.heap.size, 0, none⟩)), (3, .pointer (some ⟨W.heap.size + 1, 0, none⟩)), (7, .bool (rightT t))] (P3 2 3 7 rfl rfl rfl)
 generalize ht0 : (rightT t) = t0 at H6
 refine wpList_cut [_, _, _, _] (R := fun a' w' => Fr a' 34 [(2, .pointer (some ⟨W.heap.size, 0, none⟩)), (3, .pointer (some ⟨W.heap.size + 1, 0, none⟩)), (11, .bool (t0 && (rightT u)))] ∧ Live W [(W.heap.size + 1, (tbC u (.slice A2 u.own.length c2)), 28), (W.heap.size, (tbC t (.slice A t.own.length c)), 28)] w') ?_ ?_
 ·cases t0
  ·refine h_skip H6 rfl (H6.wf rfl rfl rfl) rfl (P4 8 2 3 7 rfl rfl rfl rfl) fun a7 H7 => ?_
   refine h_skip H7 rfl (H7.wf rfl rfl rfl) rfl (P4 9 2 3 7 rfl rfl rfl rfl) fun _ H8 => ?_
   refine h_o H8 rfl (R_pick H8 rfl rfl rfl) (P3 10 2 3 rfl rfl rfl) fun _ H9 => ?_
   refine h_o H9 rfl (R_mv H9 rfl rfl) (P3 11 2 3 rfl rfl rfl) fun _ H10 => ?_
   exact h_end ⟨H10.pick _ (P3 2 3 11 rfl rfl rfl), hL⟩
  ·refine h_op H6 rfl (H6.wt rfl rfl rfl) (R_ld H6 rfl rfl (ld_tb (t := u) hL.at_)) rfl (P4 8 2 3 7 rfl rfl rfl rfl) fun a7 H7 => ?_
   refine h_call H7 rfl (H7.wt rfl rfl rfl) (R_call1 H7 rfl rfl (fun w => by simp [go_sem])) rfl ?_
   refine (rRight_any (K2 hL.1) hl2).mono ?_
   rintro e w8 ⟨rfl, hb⟩
   replace hL := hL.call hb
   clear hb
   refine ⟨_, rfl, fun a8 HH => ?_⟩
   have H8 := HH _ (P4 9 2 3 7 rfl rfl rfl rfl)
   refine h_o H8 rfl (R_pick H8 rfl rfl rfl) (P3 10 2 3 rfl rfl rfl) fun _ H9 => ?_
   refine h_o H9 rfl (R_mv H9 rfl rfl) (P3 11 2 3 rfl rfl rfl) fun _ H10 => ?_
   exact h_end ⟨H10.pick _ (P3 2 3 11 rfl rfl rfl), hL⟩
 clear hL H6
 rintro a11 wx ⟨H11, hL⟩
 generalize ht1 : (t0 && (rightT u)) = t1 at H11
 refine wpList_cut [_, _, _, _, _, _, _] (R := fun a' w' => Fr a' 34 [(2, .pointer (some ⟨W.heap.size, 0, none⟩)), (3, .pointer (some ⟨W.heap.size + 1, 0, none⟩)), (18, .bool (t1 && (t.nd == u.nd)))] ∧ Live W [(W.heap.size + 1, (tbC u (.slice A2 u.own.length c2)), 28), (W.heap.size, (tbC t (.slice A t.own.length c)), 28)] w') ?_ ?_
 ·cases t1
  ·refine h_skip H11 rfl (H11.wf rfl rfl rfl) rfl (P4 12 2 3 11 rfl rfl rfl rfl) fun a12 H12 => ?_
   refine h_skip H12 rfl (H12.wf rfl rfl rfl) rfl (P4 13 2 3 11 rfl rfl rfl rfl) fun _ H13 => ?_
   refine h_skip H13 rfl (H13.wf rfl rfl rfl) rfl (P5 14 13 2 3 11 rfl rfl rfl rfl rfl) fun _ H14 => ?_
   refine h_skip H14 rfl (H14.wf rfl rfl rfl) rfl (P5 15 13 2 3 11 rfl rfl rfl rfl rfl) fun _ H15 => ?_
   refine h_skip H15 rfl (H15.wf rfl rfl rfl) rfl (P4 16 2 3 11 rfl rfl rfl rfl) fun _ H16 => ?_
   refine h_o H16 rfl (R_pick H16 rfl rfl rfl) (P3 17 2 3 rfl rfl rfl) fun _ H17 => ?_
   refine h_o H17 rfl (R_mv H17 rfl rfl) (P3 18 2 3 rfl rfl rfl) fun _ H18 => ?_
   exact h_end ⟨H18.pick _ (P3 2 3 18 rfl rfl rfl), hL⟩
  ·refine h_op H11 rfl (H11.wt rfl rfl rfl) (R_fa H11 rfl rfl (ft_1 _ _ _)) rfl (P4 12 2 3 11 rfl rfl rfl rfl) fun a12 H12 => ?_
   refine h_op H12 rfl (H12.wt rfl rfl rfl) (R_ld H12 rfl rfl (ld_int (hL.tail.cell 1))) rfl (P4 13 2 3 11 rfl rfl rfl rfl) fun _ H13 => ?_
   refine h_op H13 rfl (H13.wt rfl rfl rfl) (R_fa H13 rfl rfl (ft_1 _ _ _)) rfl (P5 14 13 2 3 11 rfl rfl rfl rfl rfl) fun _ H14 => ?_
   refine h_op H14 rfl (H14.wt rfl rfl rfl) (R_ld H14 rfl rfl (ld_int (hL.cell 1))) rfl (P5 15 13 2 3 11 rfl rfl rfl rfl rfl) fun _ H15 => ?_
   refine h_op H15 rfl (H15.wt rfl rfl rfl) (R_bin H15 rfl rfl rfl (B_eq Tryz.underlying3 _ _)) rfl (P4 16 2 3 11 rfl rfl rfl rfl) fun _ H16 => ?_
   refine h_o H16 rfl (R_pick H16 rfl rfl rfl) (P3 17 2 3 rfl rfl rfl) fun _ H17 => ?_
   refine h_o H17 rfl (R_mv H17 rfl rfl) (P3 18 2 3 rfl rfl rfl) fun _ H18 => ?_
   exact h_end ⟨H18.pick _ (P3 2 3 18 rfl rfl rfl), hL⟩
 clear hL H11
 rintro a19 wx ⟨H19, hL⟩
 generalize ht2 : (t1 && (t.nd == u.nd)) = t2 at H19
 refine wpList_cut [_, _, _, _, _, _, _, _, _] (R := fun a' w' => Fr a' 34 [(2, .pointer (some ⟨W.heap.size, 0, none⟩)), (3, .pointer (some ⟨W.heap.size + 1, 0, none⟩)), (27, .bool (t2 && ((t.own.length : Int) == (u.own.length : Int))))] ∧ Live W [(W.heap.size + 1, (tbC u (.slice A2 u.own.length c2)), 28), (W.heap.size, (tbC t (.slice A t.own.length c)), 28)] w') ?_ ?_
 ·cases t2
  ·refine h_skip H19 rfl (H19.wf rfl rfl rfl) rfl (P4 19 2 3 18 rfl rfl rfl rfl) fun a20 H20 => ?_
   refine h_skip H20 rfl (H20.wf rfl rfl rfl) rfl (P4 20 2 3 18 rfl rfl rfl rfl) fun _ H21 => ?_
   refine h_skip H21 rfl (H21.wf rfl rfl rfl) rfl (P4 21 2 3 18 rfl rfl rfl rfl) fun _ H22 => ?_
   refine h_skip H22 rfl (H22.wf rfl rfl rfl) rfl (P5 22 21 2 3 18 rfl rfl rfl rfl rfl) fun _ H23 => ?_
   refine h_skip H23 rfl (H23.wf rfl rfl rfl) rfl (P5 23 21 2 3 18 rfl rfl rfl rfl rfl) fun _ H24 => ?_
   refine h_skip H24 rfl (H24.wf rfl rfl rfl) rfl (P5 24 21 2 3 18 rfl rfl rfl rfl rfl) fun _ H25 => ?_
   refine h_skip H25 rfl (H25.wf rfl rfl rfl) rfl (P4 25 2 3 18 rfl rfl rfl rfl) fun _ H26 => ?_
   refine h_o H26 rfl (R_pick H26 rfl rfl rfl) (P3 26 2 3 rfl rfl rfl) fun _ H27 => ?_
   refine h_o H27 rfl (R_mv H27 rfl rfl) (P3 27 2 3 rfl rfl rfl) fun _ H28 => ?_
   exact h_end ⟨H28.pick _ (P3 2 3 27 rfl rfl rfl), hL⟩
  ·refine h_op H19 rfl (H19.wt rfl rfl rfl) (R_fa H19 rfl rfl (ft_2 _ _ _)) rfl (P4 19 2 3 18 rfl rfl rfl rfl) fun a20 H20 => ?_
   refine h_op H20 rfl (H20.wt rfl rfl rfl) (R_ld H20 rfl rfl (ld_sl (hL.tail.cell 2))) rfl (P4 20 2 3 18 rfl rfl rfl rfl) fun _ H21 => ?_
   refine h_op H21 rfl (H21.wt rfl rfl rfl) (R_lenS H21 rfl rfl Tryz.underlying26) rfl (P4 21 2 3 18 rfl rfl rfl rfl) fun _ H22 => ?_
   refine h_op H22 rfl (H22.wt rfl rfl rfl) (R_fa H22 rfl rfl (ft_2 _ _ _)) rfl (P5 22 21 2 3 18 rfl rfl rfl rfl rfl) fun _ H23 => ?_
   refine h_op H23 rfl (H23.wt rfl rfl rfl) (R_ld H23 rfl rfl (ld_sl (hL.cell 2))) rfl (P5 23 21 2 3 18 rfl rfl rfl rfl rfl) fun _ H24 => ?_
   refine h_op H24 rfl (H24.wt rfl rfl rfl) (R_lenS H24 rfl rfl Tryz.underlying26) rfl (P5 24 21 2 3 18 rfl rfl rfl rfl rfl) fun _ H25 => ?_
   refine h_op H25 rfl (H25.wt rfl rfl rfl) (R_bin H25 rfl rfl rfl (B_eq Tryz.underlying3 _ _)) rfl (P4 25 2 3 18 rfl rfl rfl rfl) fun _ H26 => ?_
   refine h_o H26 rfl (R_pick H26 rfl rfl rfl) (P3 26 2 3 rfl rfl rfl) fun _ H27 => ?_
   refine h_o H27 rfl (R_mv H27 rfl rfl) (P3 27 2 3 rfl rfl rfl) fun _ H28 => ?_
   exact h_end ⟨H28.pick _ (P3 2 3 27 rfl rfl rfl), hL⟩
 clear hL H19
 rintro a29 wx ⟨H29, hL⟩
 generalize ht3 : (t2 && ((t.own.length : Int) == (u.own.length : Int))) = t3 at H29
 refine wpList_cut [_, _, _, _, _, _] (R := fun a' w' => Fr a' 34 [(2, .pointer (some ⟨W.heap.size, 0, none⟩)), (3, .pointer (some ⟨W.heap.size + 1, 0, none⟩)), (33, .bool (t3 && (decide (t.ep > u.ep))))] ∧ Live W [(W.heap.size + 1, (tbC u (.slice A2 u.own.length c2)), 28), (W.heap.size, (tbC t (.slice A t.own.length c)), 28)] w') ?_ ?_
 ·cases t3
  ·refine h_skip H29 rfl (H29.wf rfl rfl rfl) rfl (P4 28 2 3 27 rfl rfl rfl rfl) fun a30 H30 => ?_
   refine h_skip H30 rfl (H30.wf rfl rfl rfl) rfl (P4 29 2 3 27 rfl rfl rfl rfl) fun _ H31 => ?_
   refine h_skip H31 rfl (H31.wf rfl rfl rfl) rfl (P5 30 29 2 3 27 rfl rfl rfl rfl rfl) fun _ H32 => ?_
   refine h_skip H32 rfl (H32.wf rfl rfl rfl) rfl (P5 31 29 2 3 27 rfl rfl rfl rfl rfl) fun _ H33 => ?_
   refine h_skip H33 rfl (H33.wf rfl rfl rfl) rfl (P4 32 2 3 27 rfl rfl rfl rfl) fun _ H34 => ?_
   refine h_o H34 rfl (R_pick H34 rfl rfl rfl) (P3 33 2 3 rfl rfl rfl) fun _ H35 => ?_
   exact h_end ⟨H35.pick _ (P3 2 3 33 rfl rfl rfl), hL⟩
  ·refine h_op H29 rfl (H29.wt rfl rfl rfl) (R_fa H29 rfl rfl (ft_0 _ _ _)) rfl (P4 28 2 3 27 rfl rfl rfl rfl) fun a30 H30 => ?_
   refine h_op H30 rfl (H30.wt rfl rfl rfl) (R_ld H30 rfl rfl (ld_int (hL.tail.cell 0))) rfl (P4 29 2 3 27 rfl rfl rfl rfl) fun _ H31 => ?_
   refine h_op H31 rfl (H31.wt rfl rfl rfl) (R_fa H31 rfl rfl (ft_0 _ _ _)) rfl (P5 30 29 2 3 27 rfl rfl rfl rfl rfl) fun _ H32 => ?_
   refine h_op H32 rfl (H32.wt rfl rfl rfl) (R_ld H32 rfl rfl (ld_int (hL.cell 0))) rfl (P5 31 29 2 3 27 rfl rfl rfl rfl rfl) fun _ H33 => ?_
   refine h_op H33 rfl (H33.wt rfl rfl rfl) (R_bin H33 rfl rfl rfl (B_gt Tryz.underlying3 _ _)) rfl (P4 32 2 3 27 rfl rfl rfl rfl) fun _ H34 => ?_
   refine h_o H34 rfl (R_pick H34 rfl rfl rfl) (P3 33 2 3 rfl rfl rfl) fun _ H35 => ?_
   exact h_end ⟨H35.pick _ (P3 2 3 33 rfl rfl rfl), hL⟩
 clear hL H29
 rintro a36 wx ⟨H36, hL⟩
 generalize ht4 : (t3 && (decide (t.ep > u.ep))) = t4 at H36
 refine h_o H36 rfl (R_as H36 rfl rfl) (P1 4 rfl) fun _ H37 => ?_
 refine h_end ?_
 repeat (go_not_at_region 999; go_step)
 refine H37.ret1 rfl rfl ⟨?_, hL.1⟩
 rw [ht0, ht1, ht2, ht3, ht4]
set_option maxRecDepth 100000 in
set_option maxHeartbeats 1000000 in
theorem rSame_self (hR : Rd W v t.own) (hl : t.own.length ≤ 1000000000000) (hR2 : Rd W v2 t.own) : Calls Tryz.prog 25 #[.agg (tbC t v), .agg (tbC t v2)] W fun e W' => e = .returned (.bool true) ∧ Below W.heap.size W W' := by
 obtain ⟨A, c, rfl⟩ := hR.slc
 obtain ⟨A2, c2, rfl⟩ := hR2.slc
 have K1 : ∀ {w}, Below W.heap.size W w → Rd w (.slice A t.own.length c) t.own := fun hb => hR.kept fun k hk => hb.block k hk
 have K2 : ∀ {w}, Below W.heap.size W w → Rd w (.slice A2 t.own.length c2) t.own := fun hb => hR2.kept fun k hk => hb.block k hk
 have hs1 : ∀ (w : World) (o : Obj), (w.alloc o).heap.size = w.heap.size + 1 := fun w o => by simp
 have hL := ((Live.init W).alloc (tbC t (.slice A t.own.length c)) 28).alloc (tbC t (.slice A2 t.own.length c2)) 28
 simp only [hs1] at hL
 go_enter Tryz.func25, Tryz.ntmps25
 refine wp_fr (n := 45) (m := [(0, _), (1, _)]) ⟨rfl, rfl, by intro p hp; simp only [List.mem_cons, List.not_mem_nil, or_false] at hp; rcases hp with rfl | rfl <;> rfl⟩ fun a0 H0 => ?_
 repeat (go_not_at_region 0; go_step)
 refine wp_region_lit ?_
 refine h_o H0 rfl (R_box H0 rfl rfl bx_tb) (P2 2 1 rfl rfl) fun _ H1 => ?_
 refine h_o H1 rfl (R_box H1 rfl rfl bx_tb) (P2 3 2 rfl rfl) fun _ H2 => ?_
 refine h_o H2 rfl (R_as H2 rfl rfl) (P2 3 2 rfl rfl) fun _ H3 => ?_
 refine h_end ?_
 simp only [hs1] at *
 repeat (go_not_at_region 1; go_step)
 refine wp_region_lit ?_
 refine h_o H3 rfl (R_fa H3 rfl rfl (ft_0 _ _ _)) (P3 6 3 2 rfl rfl rfl) fun _ H4 => ?_
 refine h_o H4 rfl (R_ld H4 rfl rfl (ld_int (hL.tail.cell 0))) (P3 7 3 2 rfl rfl rfl) fun _ H5 => ?_
 refine h_o H5 rfl (R_fa H5 rfl rfl (ft_0 _ _ _)) (P4 8 7 3 2 rfl rfl rfl rfl) fun _ H6 => ?_
 refine h_o H6 rfl (R_ld H6 rfl rfl (ld_int (hL.cell 0))) (P4 9 7 3 2 rfl rfl rfl rfl) fun _ H7 => ?_
 refine h_o H7 rfl (R_bin H7 rfl rfl rfl (B_to (y := false) (B_ne Tryz.underlying3 _ _) (bne_self_eq_false' _))) (P3 10 3 2 rfl rfl rfl) fun _ H8 => ?_
 refine h_o H8 rfl (R_mv H8 rfl rfl) (P3 11 3 2 rfl rfl rfl) fun _ H9 => ?_
 refine h_op H9 rfl (H9.wt rfl rfl rfl) (R_fa H9 rfl rfl (ft_1 _ _ _)) rfl (P4 12 11 3 2 rfl rfl rfl rfl) fun _ H10 => ?_
 refine h_op H10 rfl (H10.wt rfl rfl rfl) (R_ld H10 rfl rfl (ld_int (hL.tail.cell 1))) rfl (P4 13 11 3 2 rfl rfl rfl rfl) fun _ H11 => ?_
 refine h_op H11 rfl (H11.wt rfl rfl rfl) (R_fa H11 rfl rfl (ft_1 _ _ _)) rfl (P5 14 13 11 3 2 rfl rfl rfl rfl rfl) fun _ H12 => ?_
 refine h_op H12 rfl (H12.wt rfl rfl rfl) (R_ld H12 rfl rfl (ld_int (hL.cell 1))) rfl (P5 15 13 11 3 2 rfl rfl rfl rfl rfl) fun _ H13 => ?_
 refine h_op H13 rfl (H13.wt rfl rfl rfl) (R_bin H13 rfl rfl rfl (B_to (y := false) (B_ne Tryz.underlying3 _ _) (bne_self_eq_false' _))) rfl (P4 16 11 3 2 rfl rfl rfl rfl) fun _ H14 => ?_
 refine h_o H14 rfl (R_pick H14 rfl rfl rfl) (P3 17 3 2 rfl rfl rfl) fun _ H15 => ?_
 refine h_o H15 rfl (R_mv H15 rfl rfl) (P3 18 3 2 rfl rfl rfl) fun _ H16 => ?_
 refine h_op H16 rfl (H16.wt rfl rfl rfl) (R_fa H16 rfl rfl (ft_2 _ _ _)) rfl (P4 19 18 3 2 rfl rfl rfl rfl) fun _ H17 => ?_
 refine h_op H17 rfl (H17.wt rfl rfl rfl) (R_ld H17 rfl rfl (ld_sl (hL.tail.cell 2))) rfl (P4 20 18 3 2 rfl rfl rfl rfl) fun _ H18 => ?_
 refine h_op H18 rfl (H18.wt rfl rfl rfl) (R_lenS H18 rfl rfl Tryz.underlying26) rfl (P4 21 18 3 2 rfl rfl rfl rfl) fun _ H19 => ?_
 refine h_op H19 rfl (H19.wt rfl rfl rfl) (R_fa H19 rfl rfl (ft_2 _ _ _)) rfl (P5 22 21 18 3 2 rfl rfl rfl rfl rfl) fun _ H20 => ?_
 refine h_op H20 rfl (H20.wt rfl rfl rfl) (R_ld H20 rfl rfl (ld_sl (hL.cell 2))) rfl (P5 23 21 18 3 2 rfl rfl rfl rfl rfl) fun _ H21 => ?_
 refine h_op H21 rfl (H21.wt rfl rfl rfl) (R_lenS H21 rfl rfl Tryz.underlying26) rfl (P5 24 21 18 3 2 rfl rfl rfl rfl rfl) fun _ H22 => ?_
 refine h_op H22 rfl (H22.wt rfl rfl rfl) (R_bin H22 rfl rfl rfl (B_to (y := false) (B_ne Tryz.underlying3 _ _) (bne_self_eq_false' _))) rfl (P4 25 18 3 2 rfl rfl rfl rfl) fun _ H23 => ?_
 refine h_o H23 rfl (R_pick H23 rfl rfl rfl) (P3 26 3 2 rfl rfl rfl) fun _ H24 => ?_
 refine h_end ?_
 repeat (go_not_at_region 3; go_step)
 refine wp_cond_false (H24.ev (x := .tmp 26) rfl) ?_
 repeat (go_not_at_region 3; go_step)
 refine wp_region_lit ?_
 refine h_o H24 rfl (R_as H24 rfl rfl) (P3 5 3 2 rfl rfl rfl) fun _ H25 => ?_
 refine h_end ?_
 repeat (go_not_at_region 4; go_step)
 obtain ⟨I, hI⟩ : ∃ I : Nat → Act → World → Prop, ∀ n a' w', I n a' w' ↔ ∃ j : Nat, n = t.own.length - j ∧ j ≤ t.own.length ∧ Fr a' 45 [(2, .pointer (some ⟨W.heap.size, 0, none⟩)), (3, .pointer (some ⟨W.heap.size + 1, 0, none⟩)), (5, .int .i64 (j : Nat))] ∧ Live W [(W.heap.size + 1, (tbC t (.slice A2 t.own.length c2)), 28), (W.heap.size, (tbC t (.slice A t.own.length c)), 28)] w' := ⟨_, fun _ _ _ => Iff.rfl⟩
 have HI := Lib.hid hI
 clear hI
 refine wp_loop_ghost I (t.own.length) ((HI.out _ _ _).2 ⟨0, rfl, Nat.zero_le _, H25.pick _ (P3 2 3 5 rfl rfl rfl), hL⟩) ?_
 clear hL H25
 intro n a1 wl hi
 obtain ⟨j, rfl, hj, H0, hL⟩ := (HI.out _ _ _).1 hi
 clear hi
 by_cases hjl : j < t.own.length
 ·repeat (go_not_at_region 4; go_step)
  refine wp_region_lit ?_
  refine h_o H0 rfl (R_mv H0 rfl rfl) (P4 27 2 3 5 rfl rfl rfl rfl) fun _ H1 => ?_
  refine h_o H1 rfl (R_fa H1 rfl rfl (ft_2 _ _ _)) (P5 28 27 2 3 5 rfl rfl rfl rfl rfl) fun _ H2 => ?_
  refine h_o H2 rfl (R_ld H2 rfl rfl (ld_sl (hL.tail.cell 2))) (P5 29 27 2 3 5 rfl rfl rfl rfl rfl) fun _ H3 => ?_
  refine h_o H3 rfl (R_lenS H3 rfl rfl Tryz.underlying26) (P5 30 27 2 3 5 rfl rfl rfl rfl rfl) fun _ H4 => ?_
  refine h_o H4 rfl (R_bin H4 rfl rfl rfl (B_to (y := true) (B_lt Tryz.underlying3 _ _) (decide_eq_true (by omega)))) (P4 31 2 3 5 rfl rfl rfl rfl) fun _ H5 => ?_
  refine h_end ?_
  repeat (go_not_at_region 6; go_step)
  refine wp_cond_true (H5.ev (x := .tmp 31) rfl) ?_
  obtain ⟨ad, hA, _⟩ := hR.elem hjl
  have hcw : ∀ w, Below W.heap.size W w → w.cell? (ad.add j) = some (.int .i64 (t.own.getD j 0)) := fun w hb => Rdc (K1 hb) hA hjl
  obtain ⟨ad2, hA2, _⟩ := hR2.elem hjl
  have hcw2 : ∀ w, Below W.heap.size W w → w.cell? (ad2.add j) = some (.int .i64 (t.own.getD j 0)) := fun w hb => Rdc (K2 hb) hA2 hjl
  repeat (go_not_at_region 6; go_step)
  refine wp_region_held_drew (S := fun w' => Live W [(W.heap.size + 1, (tbC t (.slice A2 t.own.length c2)), 28), (W.heap.size, (tbC t (.slice A t.own.length c)), 28)] w') (by kernel_rfl) hL.drew (fun hL' => ?_)
  replace hL := hL'
  clear hL'
  refine a_opZ 0 H5 rfl rfl (by kernel_rfl) (wn rfl) (fun w hL => R_fa H5 rfl rfl (ft_2 _ _ _)) hL rfl (P4 34 2 3 5 rfl rfl rfl rfl) fun _ H6 => ?_
  refine a_opZ 1 H6 rfl rfl (by kernel_rfl) (wn rfl) (fun w hL => R_ld H6 rfl rfl (ld_sl (hL.tail.cell 2))) hL rfl (P4 35 2 3 5 rfl rfl rfl rfl) fun _ H7 => ?_
  refine a_opZ 2 H7 rfl rfl (by kernel_rfl) (wn rfl) (fun w hL => R_mv H7 rfl rfl) hL rfl (P5 36 35 2 3 5 rfl rfl rfl rfl rfl) fun _ H8 => ?_
  refine a_opZ 3 H8 rfl rfl (by kernel_rfl) (wn rfl) (fun w hL => R_ixa H8 rfl rfl rfl (ix_atE hA hjl)) hL rfl (P4 37 2 3 5 rfl rfl rfl rfl) fun _ H9 => ?_
  refine a_opZ 4 H9 rfl rfl (by kernel_rfl) (wn rfl) (fun w hL => R_ld H9 rfl rfl (ld_int (hcw _ hL.1))) hL rfl (P4 38 2 3 5 rfl rfl rfl rfl) fun _ H10 => ?_
  refine a_opZ 5 H10 rfl rfl (by kernel_rfl) (wn rfl) (fun w hL => R_fa H10 rfl rfl (ft_2 _ _ _)) hL rfl (P5 39 38 2 3 5 rfl rfl rfl rfl rfl) fun _ H11 => ?_
  refine a_opZ 6 H11 rfl rfl (by kernel_rfl) (wn rfl) (fun w hL => R_ld H11 rfl rfl (ld_sl (hL.cell 2))) hL rfl (P5 40 38 2 3 5 rfl rfl rfl rfl rfl) fun _ H12 => ?_
  refine a_opZ 7 H12 rfl rfl (by kernel_rfl) (wn rfl) (fun w hL => R_mv H12 rfl rfl) hL rfl (P6 41 40 38 2 3 5 rfl rfl rfl rfl rfl rfl) fun _ H13 => ?_
  refine a_opZ 8 H13 rfl rfl (by kernel_rfl) (wn rfl) (fun w hL => R_ixa H13 rfl rfl rfl (ix_atE hA2 hjl)) hL rfl (P5 42 38 2 3 5 rfl rfl rfl rfl rfl) fun _ H14 => ?_
  refine a_opZ 9 H14 rfl rfl (by kernel_rfl) (wn rfl) (fun w hL => R_ld H14 rfl rfl (ld_int (hcw2 _ hL.1))) hL rfl (P5 43 38 2 3 5 rfl rfl rfl rfl rfl) fun _ H15 => ?_
  refine a_opZ 10 H15 rfl rfl (by kernel_rfl) (wn rfl) (fun w hL => R_bin H15 rfl rfl rfl (B_to (y := false) (B_ne Tryz.underlying3 _ _) (bne_self_eq_false' _))) hL rfl (P4 44 2 3 5 rfl rfl rfl rfl) fun _ H16 => ?_
  refine wpAnyH_done (by kernel_rfl) ?_ _
  repeat (go_not_at_region 5; go_step)
  refine wp_cond_false (H16.ev (x := .tmp 44) rfl) ?_
  repeat (go_not_at_region 5; go_step)
  refine wp_region_lit ?_
  refine h_o H16 rfl (R_mv H16 rfl rfl) (P4 32 2 3 5 rfl rfl rfl rfl) fun _ H17 => ?_
  refine h_o H17 rfl (R_bin H17 rfl rfl rfl (B_add Tryz.underlying3 _ _ (by omega) (by omega))) (P4 33 2 3 5 rfl rfl rfl rfl) fun _ H18 => ?_
  refine h_o H18 rfl (R_as H18 rfl rfl) (P3 5 2 3 rfl rfl rfl) fun _ H19 => ?_
  refine h_end ?_
  repeat (go_not_at_region 999; go_step)
  exact ⟨t.own.length - (j + 1), by omega, (HI.out _ _ _).2 ⟨j + 1, rfl, hjl, H19.pick _ (P3 2 3 5 rfl rfl rfl), hL⟩⟩
 ·repeat (go_not_at_region 4; go_step)
  refine wp_region_lit ?_
  refine h_o H0 rfl (R_mv H0 rfl rfl) (P4 27 2 3 5 rfl rfl rfl rfl) fun _ H1 => ?_
  refine h_o H1 rfl (R_fa H1 rfl rfl (ft_2 _ _ _)) (P5 28 27 2 3 5 rfl rfl rfl rfl rfl) fun _ H2 => ?_
  refine h_o H2 rfl (R_ld H2 rfl rfl (ld_sl (hL.tail.cell 2))) (P5 29 27 2 3 5 rfl rfl rfl rfl rfl) fun _ H3 => ?_
  refine h_o H3 rfl (R_lenS H3 rfl rfl Tryz.underlying26) (P5 30 27 2 3 5 rfl rfl rfl rfl rfl) fun _ H4 => ?_
  refine h_o H4 rfl (R_bin H4 rfl rfl rfl (B_to (y := false) (B_lt Tryz.underlying3 _ _) (decide_eq_false (by omega)))) (P4 31 2 3 5 rfl rfl rfl rfl) fun _ H5 => ?_
  refine h_end ?_
  repeat (go_not_at_region 8; go_step)
  refine wp_cond_false (H5.ev (x := .tmp 31) rfl) ?_
  repeat (go_not_at_region 8; go_step)
  refine wp_region_lit ?_
  refine h_o H5 rfl (R_as H5 rfl rfl) (P1 4 rfl) fun _ H6 => ?_
  refine h_end ?_
  repeat (go_not_at_region 999; go_step)
  exact H6.ret1 rfl rfl ⟨rfl, hL.1⟩
set_option maxRecDepth 100000 in
set_option maxHeartbeats 1000000 in
theorem rKeep_any (hR : Rd W v t.own) (hl : t.own.length ≤ 1000000000000) (hR2 : Rd W v2 u.own) (hl2 : u.own.length ≤ 1000000000000) : Calls Tryz.prog 62 #[.agg (tbC t v), .agg (tbC u v2)] W fun e W' => e = .returned (.tuple #[.agg (tbC (keepT t u).1 (if newerT u t = true then v2 else v)), .bool (keepT t u).2]) ∧ Below W.heap.size W W' := by
 obtain ⟨A, c, rfl⟩ := hR.slc
 obtain ⟨A2, c2, rfl⟩ := hR2.slc
 have K1 : ∀ {w}, Below W.heap.size W w → Rd w (.slice A t.own.length c) t.own := fun hb => hR.kept fun k hk => hb.block k hk
 have K2 : ∀ {w}, Below W.heap.size W w → Rd w (.slice A2 u.own.length c2) u.own := fun hb => hR2.kept fun k hk => hb.block k hk
 have hL := Live.init W
 unfold keepT
 go_enter Tryz.func62, Tryz.ntmps62
 refine wp_fr (n := 11) (m := [(0, _), (1, _)]) ⟨rfl, rfl, by intro p hp; simp only [List.mem_cons, List.not_mem_nil, or_false] at hp; rcases hp with rfl | rfl <;> rfl⟩ fun a0 H0 => ?_
 repeat (go_not_at_region 0; go_step)
 refine wp_region_lit ?_
 refine h_opL [(W.heap.size, (tbC t (.slice A t.own.length c)), 28)] H0 rfl (wn rfl) (R_box H0 rfl rfl bx_tb) (hL.alloc _ _) rfl (P2 2 1 rfl rfl) fun _ w1 H1 hL => ?_
 refine h_opL [(w1.heap.size, (tbC u (.slice A2 u.own.length c2)), 28), (W.heap.size, (tbC t (.slice A t.own.length c)), 28)] H1 rfl (wn rfl) (R_box H1 rfl rfl bx_tb) (hL.alloc _ _) rfl (P2 3 2 rfl rfl) fun _ w2 H2 hL => ?_
 refine h_opL [(w2.heap.size, (tbC ⟨0, 0, []⟩ (.slice none 0 0)), 28), (w1.heap.size, (tbC u (.slice A2 u.own.length c2)), 28), (W.heap.size, (tbC t (.slice A t.own.length c)), 28)] H2 rfl (wn rfl) (R_alloc rfl al_tb) (hL.alloc _ _) rfl (P3 4 3 2 rfl rfl rfl) fun _ w3 H3 hL => ?_
 refine h_o H3 rfl (R_as H3 rfl rfl) (P3 4 3 2 rfl rfl rfl) fun _ H4 => ?_
 refine h_end ?_
 repeat (go_not_at_region 1; go_step)
 refine wp_region_lit ?_
 refine h_o H4 rfl (R_ld H4 rfl rfl (ld_tb (t := u) hL.tail.at_)) (P4 6 4 3 2 rfl rfl rfl rfl) fun _ H5 => ?_
 refine h_o H5 rfl (R_ld H5 rfl rfl (ld_tb (t := t) hL.tail.tail.at_)) (P5 7 6 4 3 2 rfl rfl rfl rfl rfl) fun _ H6 => ?_
 refine h_call H6 rfl (wn rfl) (R_call2 H6 rfl rfl rfl (fun w => by simp [go_sem])) rfl ?_
 refine (rNewer_any (K2 hL.1) hl2 (K1 hL.1) hl).mono ?_
 rintro e w7 ⟨rfl, hb⟩
 replace hL := hL.call hb
 clear hb
 refine ⟨_, rfl, fun a7 HH => ?_⟩
 have H7 := HH _ (P4 8 4 3 2 rfl rfl rfl rfl)
 refine h_end ?_
 cases hn : newerT u t
 rotate_left
 ·rw [hn] at H7
  repeat (go_not_at_region 2; go_step)
  refine wp_cond_true (H7.ev (x := .tmp 8) rfl) ?_
  repeat (go_not_at_region 2; go_step)
  refine wp_region_lit ?_
  refine h_o H7 rfl (R_ld H7 rfl rfl (ld_tb (t := u) hL.tail.at_)) (P2 9 4 rfl rfl) fun _ H8 => ?_
  refine h_stL [(w2.heap.size, (tbC u (.slice A2 u.own.length c2)), 28), (w1.heap.size, (tbC u (.slice A2 u.own.length c2)), 28), (W.heap.size, (tbC t (.slice A t.own.length c)), 28)] H8 rfl (wn rfl) (R_st H8 rfl rfl rfl (st_tb (t := ⟨0, 0, []⟩) (p := none) (l := 0) (c := 0) hL.at_)) (hL.row _) fun _ w9 H9 hL => ?_
  refine h_o H9 rfl (R_as H9 rfl rfl) (P2 5 4 rfl rfl) fun _ H10 => ?_
  refine h_end ?_
  repeat (go_not_at_region 999; go_step)
  exact bodyPost_ret (v := .tuple #[.agg (tbC u (.slice A2 u.own.length c2)), .bool true]) (keep_results rfl (H10.getD rfl) (H10.getD rfl) hL.at_) H10.1 ⟨by rw [hn]; rfl, hL.1⟩
 ·rw [hn] at H7
  repeat (go_not_at_region 3; go_step)
  refine wp_cond_false (H7.ev (x := .tmp 8) rfl) ?_
  repeat (go_not_at_region 3; go_step)
  refine wp_region_lit ?_
  refine h_o H7 rfl (R_ld H7 rfl rfl (ld_tb (t := t) hL.tail.tail.at_)) (P2 10 4 rfl rfl) fun _ H8 => ?_
  refine h_stL [(w2.heap.size, (tbC t (.slice A t.own.length c)), 28), (w1.heap.size, (tbC u (.slice A2 u.own.length c2)), 28), (W.heap.size, (tbC t (.slice A t.own.length c)), 28)] H8 rfl (wn rfl) (R_st H8 rfl rfl rfl (st_tb (t := ⟨0, 0, []⟩) (p := none) (l := 0) (c := 0) hL.at_)) (hL.row _) fun _ w9 H9 hL => ?_
  refine h_o H9 rfl (R_as H9 rfl rfl) (P2 5 4 rfl rfl) fun _ H10 => ?_
  refine h_end ?_
  repeat (go_not_at_region 999; go_step)
  exact bodyPost_ret (v := .tuple #[.agg (tbC t (.slice A t.own.length c)), .bool false]) (keep_results rfl (H10.getD rfl) (H10.getD rfl) hL.at_) H10.1 ⟨by rw [hn]; rfl, hL.1⟩
end
end Go.Proofs.YthkeiclhllikjaaGreat.R
