/-
  Two sources that are alike tell alike.
-/
import Derived.Test.YthkeiclhllikjaaGreatSvM
set_option linter.unusedSimpArgs false
set_option linter.unusedVariables false
namespace Go.Proofs.YthkeiclhllikjaaGreat
open Go.RowKit
section
variable {w0 W w : World} {L X X1 X2 : List Thg} {S : PSrc} {v v1 v2 va vb : Value} {g n : Nat} {l : List (Int × Int × ByteArray)} {pa boa baa pb bob bab : Nat}
theorem PRow.shape {e : TypeId} {size : Nat} {xs : List Value} (h : PRow e size v n xs X) : ∃ q c, v = .slice q n c := by
 rcases h.2 with ⟨rfl, rfl, _⟩ | ⟨g, cap, cur, rfl, _⟩
 ·exact ⟨_, _, rfl⟩
 ·exact ⟨_, _, rfl⟩
theorem PRow.cellsP {q : Option Addr} {c : Nat} (h : PRow 45 3 (.slice q l.length c) l.length (pkF l) X) : ∀ w, LV w0 (X ++ L) w → ∀ j (hj : j < l.length), ∃ g, q = some ⟨g, 0, none⟩ ∧ w.cell? ⟨g, j * 3, none⟩ = some (.int .i64 l[j].1) ∧ w.cell? ⟨g, j * 3 + 1, none⟩ = some (.int .i64 l[j].2.1) ∧ w.cell? ⟨g, j * 3 + 2, none⟩ = some (.string l[j].2.2) := by
 intro w hL j hj
 obtain ⟨q2, c2, he, hc⟩ := h.pk hL
 cases he
 exact hc j hj
theorem ld_pk {k : Nat} {a b : Int} {s : ByteArray} (h0 : w.cell? ⟨g, k, none⟩ = some (.int .i64 a)) (h1 : w.cell? ⟨g, k + 1, none⟩ = some (.int .i64 b)) (h2 : w.cell? ⟨g, k + 2, none⟩ = some (.string s)) : (Instr.loadAt 45 (.pointer (some ⟨g, k, none⟩))).run Tryz.prog w = .ok (.agg #[.int .i64 a, .int .i64 b, .string s]) w := by
 simp [go_sem, h0, h1, h2]
theorem B_pkne {Y Z : Operand} {a b : Int} {s : ByteArray} : ((do eqGuard .neq 45 Y Z (.agg #[.int .i64 a, .int .i64 b, .string s]) (.agg #[.int .i64 a, .int .i64 b, .string s]); binOp .neq 45 (.agg #[.int .i64 a, .int .i64 b, .string s]) (.agg #[.int .i64 a, .int .i64 b, .string s])) : Sem Value).run Tryz.prog w = .ok (.bool false) w := by
 simp [go_sem, bne]
theorem B_bne {Y Z : Operand} {a : Bool} : ((do eqGuard .neq 4 Y Z (.bool a) (.bool a); binOp .neq 4 (.bool a) (.bool a)) : Sem Value).run Tryz.prog w = .ok (.bool false) w := by cases a <;> simp [go_sem]
set_option maxRecDepth 100000 in
set_option maxHeartbeats 1000000 in
theorem packets_any (h1 : PRow 45 3 v1 l.length (pkF l) X1) (h2 : PRow 45 3 v2 l.length (pkF l) X2) (hL : LV w0 (X1 ++ (X2 ++ L)) W) (hl : l.length ≤ 1000000) : Calls Tryz.prog 26 #[v1, v2] W fun e W' => e = .returned (.bool true) ∧ LV w0 (X1 ++ (X2 ++ L)) W' := by
 obtain ⟨q1, c1, rfl⟩ := h1.shape
 obtain ⟨q2, c2, rfl⟩ := h2.shape
 have hc1 := fun w (h : LV w0 (X1 ++ (X2 ++ L)) w) => h1.cellsP w h
 have hc2 := fun w (h : LV w0 (X1 ++ (X2 ++ L)) w) => h2.cellsP w h.dropl
 go_enter Tryz.func26, Tryz.ntmps26
 refine wp_fr (n := 26) (m := [(0, _), (1, _)]) ⟨rfl, rfl, by intro p hp; simp only [List.mem_cons, List.not_mem_nil, or_false] at hp; rcases hp with rfl | rfl <;> rfl⟩ fun a0 H0 => ?_
 repeat (go_not_at_region 0; go_step)
 refine wp_region_lit ?_
 refine h_o H0 rfl (R_as H0 rfl rfl) (P2 0 1 rfl rfl) fun _ H1 => ?_
 refine h_end ?_
 repeat (go_not_at_region 1; go_step)
 refine wp_region_lit ?_
 refine h_o H1 rfl (R_mv H1 rfl rfl) (P3 6 0 1 rfl rfl rfl) fun _ H2 => ?_
 refine h_o H2 rfl (R_lenS H2 rfl rfl Tryz.underlying41) (P3 7 0 1 rfl rfl rfl) fun _ H3 => ?_
 refine h_o H3 rfl (R_mv H3 rfl rfl) (P4 8 7 0 1 rfl rfl rfl rfl) fun _ H4 => ?_
 refine h_o H4 rfl (R_lenS H4 rfl rfl Tryz.underlying41) (P4 9 7 0 1 rfl rfl rfl rfl) fun _ H5 => ?_
 refine h_o H5 rfl (R_bin H5 rfl rfl rfl (B_to (y := false) (B_ne Tryz.underlying3 _ _) (by simp))) (P3 10 0 1 rfl rfl rfl) fun _ H6 => ?_
 refine h_end ?_
 repeat (go_not_at_region 3; go_step)
 refine wp_cond_false (H6.ev (x := .tmp 10) rfl) ?_
 repeat (go_not_at_region 3; go_step)
 refine wp_region_lit ?_
 refine h_o H6 rfl (R_as H6 rfl rfl) (P3 5 0 1 rfl rfl rfl) fun _ H7 => ?_
 refine h_end ?_
 repeat (go_not_at_region 4; go_step)
 obtain ⟨I, hI⟩ : ∃ I : Nat → Act → World → Prop, ∀ n a' w', I n a' w' ↔ ∃ j : Nat, n = l.length - j ∧ j ≤ l.length ∧ Fr a' 26 [(0, .slice q1 l.length c1), (1, .slice q2 l.length c2), (5, .int .i64 (j : Nat))] ∧ LV w0 (X1 ++ (X2 ++ L)) w' := ⟨_, fun _ _ _ => Iff.rfl⟩
 have HI := Lib.hid hI
 clear hI
 refine wp_loop_ghost I l.length ((HI.out _ _ _).2 ⟨0, rfl, Nat.zero_le _, H7.pick _ (P3 0 1 5 rfl rfl rfl), hL⟩) ?_
 clear hL H7
 intro n a1 wl hi
 obtain ⟨j, rfl, hj, H0, hL⟩ := (HI.out _ _ _).1 hi
 clear hi
 by_cases hjl : j < l.length
 ·repeat (go_not_at_region 4; go_step)
  refine wp_region_lit ?_
  refine h_o H0 rfl (R_mv H0 rfl rfl) (P4 11 0 1 5 rfl rfl rfl rfl) fun _ H1 => ?_
  refine h_o H1 rfl (R_mv H1 rfl rfl) (P5 12 11 0 1 5 rfl rfl rfl rfl rfl) fun _ H2 => ?_
  refine h_o H2 rfl (R_lenS H2 rfl rfl Tryz.underlying41) (P5 13 11 0 1 5 rfl rfl rfl rfl rfl) fun _ H3 => ?_
  refine h_o H3 rfl (R_bin H3 rfl rfl rfl (B_to (y := true) (B_lt Tryz.underlying3 _ _) (decide_eq_true (by omega)))) (P4 14 0 1 5 rfl rfl rfl rfl) fun _ H4 => ?_
  refine h_end ?_
  repeat (go_not_at_region 6; go_step)
  refine wp_cond_true (H4.ev (x := .tmp 14) rfl) ?_
  obtain ⟨g1, rfl, _⟩ := hc1 _ hL j hjl
  obtain ⟨g2, rfl, _⟩ := hc2 _ hL j hjl
  have hx1 : ∀ w, LV w0 (X1 ++ (X2 ++ L)) w → w.cell? ⟨g1, j * 3, none⟩ = some (.int .i64 l[j].1) ∧ w.cell? ⟨g1, j * 3 + 1, none⟩ = some (.int .i64 l[j].2.1) ∧ w.cell? ⟨g1, j * 3 + 2, none⟩ = some (.string l[j].2.2) := fun w h => by obtain ⟨g, e, hh⟩ := hc1 w h j hjl; cases e; exact hh
  have hx2 : ∀ w, LV w0 (X1 ++ (X2 ++ L)) w → w.cell? ⟨g2, j * 3, none⟩ = some (.int .i64 l[j].1) ∧ w.cell? ⟨g2, j * 3 + 1, none⟩ = some (.int .i64 l[j].2.1) ∧ w.cell? ⟨g2, j * 3 + 2, none⟩ = some (.string l[j].2.2) := fun w h => by obtain ⟨g, e, hh⟩ := hc2 w h j hjl; cases e; exact hh
  repeat (go_not_at_region 6; go_step)
  refine wp_region_held_drew (S := fun w' => LV w0 (X1 ++ (X2 ++ L)) w') (by kernel_rfl) hL.drew (fun hL' => ?_)
  replace hL := hL'
  clear hL'
  refine a_opZ 0 H4 rfl rfl (by kernel_rfl) (wn rfl) (fun w hL => R_mv H4 rfl rfl) (hL) rfl (P4 17 0 1 5 rfl rfl rfl rfl) fun _ H5 => ?_
  refine a_opZ 1 H5 rfl rfl (by kernel_rfl) (wn rfl) (fun w hL => R_mv H5 rfl rfl) (hL) rfl (P5 18 17 0 1 5 rfl rfl rfl rfl rfl) fun _ H6 => ?_
  refine a_opZ 4 H6 rfl rfl (by kernel_rfl) (wn rfl) (fun w hL => R_mv H6 rfl rfl) (hL) rfl (P6 21 18 17 0 1 5 rfl rfl rfl rfl rfl rfl) fun _ H7 => ?_
  refine a_opZ 5 H7 rfl rfl (by kernel_rfl) (wn rfl) (fun w hL => R_mv H7 rfl rfl) (hL) rfl (P7 22 21 18 17 0 1 5 rfl rfl rfl rfl rfl rfl rfl) fun _ H8 => ?_
  refine a_opZ 2 H8 rfl rfl (by kernel_rfl) (wn rfl) (fun w hL => R_ixa H8 rfl rfl rfl (ix_pkj hjl)) (hL) rfl (P6 19 22 21 0 1 5 rfl rfl rfl rfl rfl rfl) fun _ H9 => ?_
  refine a_opZ 6 H9 rfl rfl (by kernel_rfl) (wn rfl) (fun w hL => R_ixa H9 rfl rfl rfl (ix_pkj hjl)) (hL) rfl (P5 23 19 0 1 5 rfl rfl rfl rfl rfl) fun _ H10 => ?_
  refine a_opZ 3 H10 rfl rfl (by kernel_rfl) (wn rfl) (fun w hL => R_ld H10 rfl rfl (ld_pk (hx1 _ hL).1 (hx1 _ hL).2.1 (hx1 _ hL).2.2)) (hL) rfl (P5 20 23 0 1 5 rfl rfl rfl rfl rfl) fun _ H11 => ?_
  refine a_opZ 7 H11 rfl rfl (by kernel_rfl) (wn rfl) (fun w hL => R_ld H11 rfl rfl (ld_pk (hx2 _ hL).1 (hx2 _ hL).2.1 (hx2 _ hL).2.2)) (hL) rfl (P5 24 20 0 1 5 rfl rfl rfl rfl rfl) fun _ H12 => ?_
  refine a_opZ 8 H12 rfl rfl (by kernel_rfl) (wn rfl) (fun w hL => R_bin H12 rfl rfl rfl B_pkne) (hL) rfl (P4 25 0 1 5 rfl rfl rfl rfl) fun _ H13 => ?_
  refine wpAnyH_done (by kernel_rfl) ?_ _
  repeat (go_not_at_region 5; go_step)
  refine wp_cond_false (H13.ev (x := .tmp 25) rfl) ?_
  repeat (go_not_at_region 5; go_step)
  refine wp_region_lit ?_
  refine h_o H13 rfl (R_mv H13 rfl rfl) (P4 15 0 1 5 rfl rfl rfl rfl) fun _ H14 => ?_
  refine h_o H14 rfl (R_bin H14 rfl rfl rfl (B_add Tryz.underlying3 _ _ (by omega) (by omega))) (P4 16 0 1 5 rfl rfl rfl rfl) fun _ H15 => ?_
  refine h_o H15 rfl (R_as H15 rfl rfl) (P3 5 0 1 rfl rfl rfl) fun _ H16 => ?_
  refine h_end ?_
  repeat (go_not_at_region 999; go_step)
  refine ⟨l.length - (j + 1), by omega, (HI.out _ _ _).2 ⟨j + 1, rfl, hjl, H16.pick _ (P3 0 1 5 rfl rfl rfl), hL⟩⟩
 ·repeat (go_not_at_region 4; go_step)
  refine wp_region_lit ?_
  refine h_o H0 rfl (R_mv H0 rfl rfl) (P4 11 0 1 5 rfl rfl rfl rfl) fun _ H1 => ?_
  refine h_o H1 rfl (R_mv H1 rfl rfl) (P5 12 11 0 1 5 rfl rfl rfl rfl rfl) fun _ H2 => ?_
  refine h_o H2 rfl (R_lenS H2 rfl rfl Tryz.underlying41) (P5 13 11 0 1 5 rfl rfl rfl rfl rfl) fun _ H3 => ?_
  refine h_o H3 rfl (R_bin H3 rfl rfl rfl (B_to (y := false) (B_lt Tryz.underlying3 _ _) (decide_eq_false (by omega)))) (P4 14 0 1 5 rfl rfl rfl rfl) fun _ H4 => ?_
  refine h_end ?_
  repeat (go_not_at_region 8; go_step)
  refine wp_cond_false (H4.ev (x := .tmp 14) rfl) ?_
  repeat (go_not_at_region 8; go_step)
  refine wp_region_lit ?_
  refine h_o H4 rfl (R_as H4 rfl rfl) (P1 4 rfl) fun _ H5 => ?_
  refine h_end ?_
  repeat (go_not_at_region 999; go_step)
  exact H5.ret1 rfl rfl ⟨rfl, hL⟩
end
end Go.Proofs.YthkeiclhllikjaaGreat
