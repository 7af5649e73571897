/-
  Rows are compared: slices.Equal three times, meterref09.Same.
-/
import Derived.Test.YtnjfjdfjheiocaaGreatShS
import Derived.ChangeKeysEq
set_option linter.unusedSimpArgs false
set_option linter.unusedVariables false
namespace Go.Proofs.YtnjfjdfjheiocaaGreat
open Go.RowKit
theorem info_i64 : (Tryz.prog.info? 2).isSome = true := by kernel_rfl
set_option maxRecDepth 100000 in
theorem eq_hist {w : World} (d : Nat) (a0 a1 a2 a3 b0 b1 b2 b3 : Int) : (Op.equalIn (d + 2) 53 (.agg #[.int .i64 a0, .int .i64 a1, .int .i64 a2, .int .i64 a3]) (.agg #[.int .i64 b0, .int .i64 b1, .int .i64 b2, .int .i64 b3])).run Tryz.prog w = .ok (decide (a0 = b0 ∧ a1 = b1 ∧ a2 = b2 ∧ a3 = b3)) w := by
  obtain ⟨i, hi⟩ := Option.isSome_iff_exists.1 info_i64
  have e4 : List.range 4 = [0, 1, 2, 3] := rfl
  rw [run_equalIn_array (P := Tryz.prog) (w := w) (d := d + 1) (xs := _) (ys := _) (hu := Tryz.underlying53) (hi := hi), cells_i64, e4]
  simp only [Op.eqItems]
  simp [go_sem, part]
  by_cases h0 : a0 = b0 <;> by_cases h1 : a1 = b1 <;> by_cases h2 : a2 = b2 <;> by_cases h3 : a3 = b3 <;> simp [h0, h1, h2, h3, go_sem]
set_option maxRecDepth 100000 in
theorem B_nout {A B : Operand} {w : World} (p q : Win × A8) : ((do eqGuard .neq 57 A B (.agg (outA p)) (.agg (outA q)); binOp .neq 57 (.agg (outA p)) (.agg (outA q))) : Sem Value).run Tryz.prog w = .ok (.bool (decide (p ≠ q))) w := by
  obtain ⟨⟨p0, p1⟩, p2, p3, p4, p5, p6, p7, p8, p9⟩ := p
  obtain ⟨⟨q0, q1⟩, q2, q3, q4, q5, q6, q7, q8, q9⟩ := q
  unfold outA outE
  simp [go_sem, eq_hist 9996]
  by_cases h1 : p1.toList = q1.toList
  · have e1 := toList_inj h1
    subst e1
    by_cases h0 : p0 = q0 <;> by_cases h2 : p2 = q2 <;> by_cases h3 : p3 = q3 <;> by_cases h4 : p4 = q4 <;> by_cases h5 : p5 = q5 <;> simp [h0, h2, h3, h4, h5]
    all_goals
      by_cases h6 : p6 = q6 <;> by_cases h7 : p7 = q7 <;> by_cases h8 : p8 = q8 <;> by_cases h9 : p9 = q9 <;> simp [h6, h7, h8, h9]
  · have e1 : ¬ p1 = q1 := fun e => h1 (by rw [e])
    simp [h1, e1]
set_option maxRecDepth 100000 in
theorem B_nen {A B : Operand} {w : World} (p q : Int × Int × Int) : ((do eqGuard .neq 93 A B (.agg (enC p).toArray) (.agg (enC q).toArray); binOp .neq 93 (.agg (enC p).toArray) (.agg (enC q).toArray)) : Sem Value).run Tryz.prog w = .ok (.bool (decide (p ≠ q))) w := by
  obtain ⟨p0, p1, p2⟩ := p
  obtain ⟨q0, q1, q2⟩ := q
  simp [go_sem]
  by_cases h0 : p0 = q0 <;> by_cases h1 : p1 = q1 <;> by_cases h2 : p2 = q2 <;> simp [h0, h1, h2]
theorem B_nin {A B : Operand} {w : World} (p q : Int) : ((do eqGuard .neq 3 A B (.int .i64 p) (.int .i64 q); binOp .neq 3 (.int .i64 p) (.int .i64 q)) : Sem Value).run Tryz.prog w = .ok (.bool (decide (p ≠ q))) w := by
  rw [B_ne Tryz.underlying3]
  by_cases h : p = q <;> simp [h]
section
variable {w0 W w : World} {L : List Thg} {q1 q2 q : Option Addr} {c1 c2 : Nat} {a : Addr}
theorem ix_en {n c j : Nat} (e : q = some a) (h : j < n) : (Instr.indexAt 61 (.slice q n c) (.int .i64 (j : Nat))).run Tryz.prog w = .ok (.pointer (some (a.add (j * 3)))) w := by
  subst e
  simp [go_sem, h]
theorem ix_in {n c j : Nat} (e : q = some a) (h : j < n) : (Instr.indexAt 52 (.slice q n c) (.int .i64 (j : Nat))).run Tryz.prog w = .ok (.pointer (some (a.add (j * 1)))) w := by
  subst e
  rw [Nat.mul_one]
  exact ix_two h
theorem infoEn1 : (Tryz.prog.info? 93).map (·.size) = some 3 := by kernel_rfl
theorem ld_enA {p : Int × Int × Int} (h : ∀ (k : Nat) u, (enC p).toArray[k]? = some u → w.cell? (a.add k) = some u) : (Instr.loadAt 93 (.pointer (some a))).run Tryz.prog w = .ok (.agg (enC p).toArray) w :=
  ld_rowA h Tryz.underlying93 rfl infoEn1
theorem ld_inA {p : Int} (h : ∀ (k : Nat) u, (#[.int .i64 p] : Array Value)[k]? = some u → w.cell? (a.add k) = some u) : (Instr.loadAt 3 (.pointer (some a))).run Tryz.prog w = .ok (.int .i64 p) w := by
  have h1 := h 0 _ rfl
  have e : a.add 0 = a := by simp [Addr.add]
  rw [e] at h1
  exact ld_inn h1
/-- A row of old or new memory, in every world of this kind. -/
def RdW {α : Type} (w0 : World) (L : List Thg) (K : Nat) (f : α → Array Value) (q : Option Addr) (M : List α) : Prop :=
  ∀ w, LV w0 L w → ∀ j (hj : j < M.length), ∃ ad, q = some ad ∧ ∀ (k : Nat) u, (f M[j])[k]? = some u → w.cell? ((ad.add (j * K)).add k) = some u
theorem eq_next {α : Type} {M N : List α} {j : Nat} (hj : j < M.length) (hj2 : j < N.length) (h : M.take j = N.take j) (e : M[j] = N[j]) : M.take (j + 1) = N.take (j + 1) := by
  rw [List.take_succ_eq_append_getElem hj, List.take_succ_eq_append_getElem hj2, h, e]
set_option maxRecDepth 100000 in
theorem eqO_any {M N : List (Win × A8)} (hL : LV w0 L W) (r1 : RdW w0 L 10 outA q1 M) (r2 : RdW w0 L 10 outA q2 N) (hm : M.length < 1000000) (hn : N.length < 1000000) : Calls Tryz.prog 53 #[.slice q1 M.length c1, .slice q2 N.length c2] W fun e W' => e = .returned (.bool (decide (M = N))) ∧ LV w0 L W' := by
  go_enter Tryz.func53, Tryz.ntmps53
  refine wp_fr (n := 26) (m := [(0, _), (1, _)]) ⟨rfl, rfl, by intro p hp; simp only [List.mem_cons, List.not_mem_nil, or_false] at hp; rcases hp with rfl | rfl <;> rfl⟩ fun a0 H0 => ?_
  repeat (go_not_at_region 0; go_step)
  refine wp_region_lit ?_
  refine h_op H0 rfl (wn rfl) (R_as H0 rfl rfl) rfl (P2 0 1 rfl rfl) fun a1 H1 => ?_
  clear H0
  refine h_end ?_
  repeat (go_not_at_region 1; go_step)
  refine wp_region_lit ?_
  refine h_op H1 rfl (wn rfl) (R_mv H1 rfl rfl) rfl (P3 6 0 1 rfl rfl rfl) fun a2 H2 => ?_
  clear H1
  refine h_op H2 rfl (wn rfl) (R_lenS H2 rfl rfl Tryz.underlying27) rfl (P3 7 0 1 rfl rfl rfl) fun a3 H3 => ?_
  clear H2
  refine h_op H3 rfl (wn rfl) (R_mv H3 rfl rfl) rfl (P4 8 7 0 1 rfl rfl rfl rfl) fun a4 H4 => ?_
  clear H3
  refine h_op H4 rfl (wn rfl) (R_lenS H4 rfl rfl Tryz.underlying27) rfl (P4 9 7 0 1 rfl rfl rfl rfl) fun a5 H5 => ?_
  clear H4
  refine h_op H5 rfl (wn rfl) (R_bin H5 rfl rfl rfl (B_nin _ _)) rfl (P3 10 0 1 rfl rfl rfl) fun a6 H6 => ?_
  clear H5
  refine h_end ?_
  by_cases hlen : (M.length : Int) = (N.length : Nat)
  rotate_left
  · rw [decide_eq_true (show ¬ _ from hlen)] at H6
    repeat (go_not_at_region 2; go_step)
    refine wp_cond_true (H6.ev (x := .tmp 10) rfl) ?_
    repeat (go_not_at_region 2; go_step)
    refine wp_region_lit ?_
    refine h_op H6 rfl (wn rfl) (R_as H6 rfl rfl) rfl (P1 4 rfl) fun a7 H7 => ?_
    clear H6
    refine h_end ?_
    repeat (go_not_at_region 999; go_step)
    refine H7.ret1 rfl rfl ⟨?_, hL⟩
    rw [decide_eq_false (fun e => hlen (by rw [e]))]
  rw [decide_eq_false (show ¬ _ from fun e => e hlen)] at H6
  have hl : M.length = N.length := by omega
  repeat (go_not_at_region 3; go_step)
  refine wp_cond_false (H6.ev (x := .tmp 10) rfl) ?_
  repeat (go_not_at_region 3; go_step)
  refine wp_region_lit ?_
  refine h_op H6 rfl (wn rfl) (R_mv H6 rfl rfl) rfl (P3 11 0 1 rfl rfl rfl) fun a7 H7 => ?_
  clear H6
  refine h_op H7 rfl (wn rfl) (R_lenS H7 rfl rfl Tryz.underlying27) rfl (P3 12 0 1 rfl rfl rfl) fun a8 H8 => ?_
  clear H7
  refine h_op H8 rfl (wn rfl) (R_mv H8 rfl rfl) rfl (P4 13 12 0 1 rfl rfl rfl rfl) fun a9 H9 => ?_
  clear H8
  refine h_end ?_
  repeat (go_not_at_region 4; go_step)
  obtain ⟨I, hI⟩ : ∃ I : Nat → Act → World → Prop, ∀ n a' w', I n a' w' ↔ ∃ j : Nat, n = M.length - j ∧ j ≤ M.length ∧ M.take j = N.take j ∧ Fr a' 26 [(0, .slice q1 M.length c1), (1, .slice q2 N.length c2), (12, .int .i64 (M.length : Nat)), (13, .int .i64 (j : Nat))] ∧ LV w0 L w' := ⟨_, fun _ _ _ => Iff.rfl⟩
  have HI := Lib.hid hI
  clear hI
  refine wp_loop_ghost I M.length ((HI.out _ _ _).2 ⟨0, rfl, Nat.zero_le _, rfl, H9.pick _ (P4 0 1 12 13 rfl rfl rfl rfl), hL⟩) ?_
  clear hL H9
  intro n a1 wl hi'
  obtain ⟨j, rfl, hj, htk, H0, hL⟩ := (HI.out _ _ _).1 hi'
  clear hi'
  by_cases hjl : j < M.length
  · repeat (go_not_at_region 4; go_step)
    refine wp_region_lit ?_
    refine h_op H0 rfl (wn rfl) (R_bin H0 rfl rfl rfl (B_to (y := true) (B_lt Tryz.underlying3 _ _) (decide_eq_true (by omega)))) rfl (P5 14 0 1 12 13 rfl rfl rfl rfl rfl) fun a1 H1 => ?_
    clear H0
    refine h_end ?_
    repeat (go_not_at_region 5; go_step)
    refine wp_cond_true (H1.ev (x := .tmp 14) rfl) ?_
    repeat (go_not_at_region 5; go_step)
    refine wp_region_lit ?_
    refine h_op H1 rfl (wn rfl) (R_mv H1 rfl rfl) rfl (P5 15 0 1 12 13 rfl rfl rfl rfl rfl) fun a2 H2 => ?_
    clear H1
    refine h_op H2 rfl (wn rfl) (R_as H2 rfl rfl) rfl (P5 5 0 1 12 13 rfl rfl rfl rfl rfl) fun a3 H3 => ?_
    clear H2
    refine h_end ?_
    have hjn : j < N.length := by omega
    obtain ⟨ad1, hq1, _⟩ := r1 wl hL j hjl
    obtain ⟨ad2, hq2, _⟩ := r2 wl hL j hjn
    have hc1 : ∀ w, LV w0 L w → ∀ (k : Nat) u, (outA M[j])[k]? = some u → w.cell? ((ad1.add (j * 10)).add k) = some u := fun w h => by
      obtain ⟨a', e', h'⟩ := r1 w h j hjl
      rw [hq1] at e'
      cases e'
      exact h'
    have hc2 : ∀ w, LV w0 L w → ∀ (k : Nat) u, (outA N[j])[k]? = some u → w.cell? ((ad2.add (j * 10)).add k) = some u := fun w h => by
      obtain ⟨a', e', h'⟩ := r2 w h j hjn
      rw [hq2] at e'
      cases e'
      exact h'
    repeat (go_not_at_region 6; go_step)
    refine wp_region_held_drew (S := fun w' => LV w0 L w') (by kernel_rfl) hL.drew (fun hL' => ?_)
    replace hL := hL'
    clear hL'
    refine a_op  0 H3 rfl rfl (by kernel_rfl) (by kernel_rfl) (by kernel_rfl) (fun _ _ _ h => h) (wn rfl) (fun w hL => R_mv H3 rfl rfl) hL rfl (P6 16 5 0 1 12 13 rfl rfl rfl rfl rfl rfl) fun a4 H4 => ?_
    clear H3
    refine a_op  1 H4 rfl rfl (by kernel_rfl) (by kernel_rfl) (by kernel_rfl) (fun _ _ _ h => h) (wn rfl) (fun w hL => R_mv H4 rfl rfl) hL rfl (P7 17 16 5 0 1 12 13 rfl rfl rfl rfl rfl rfl rfl) fun a5 H5 => ?_
    clear H4
    refine a_op  2 H5 rfl rfl (by kernel_rfl) (by kernel_rfl) (by kernel_rfl) (fun _ _ _ h => h) (wn rfl) (fun w hL => R_ixa H5 rfl rfl rfl (ix_out hq1 hjl)) hL rfl (P6 18 5 0 1 12 13 rfl rfl rfl rfl rfl rfl) fun a6 H6 => ?_
    clear H5
    refine a_op  3 H6 rfl rfl (by kernel_rfl) (by kernel_rfl) (by kernel_rfl) (fun _ _ _ h => h) (wn rfl) (fun w hL => R_ld H6 rfl rfl (ld_outA (p := M[j]) (hc1 _ hL))) hL rfl (P6 19 5 0 1 12 13 rfl rfl rfl rfl rfl rfl) fun a7 H7 => ?_
    clear H6
    refine a_op  4 H7 rfl rfl (by kernel_rfl) (by kernel_rfl) (by kernel_rfl) (fun _ _ _ h => h) (wn rfl) (fun w hL => R_mv H7 rfl rfl) hL rfl (P7 20 19 5 0 1 12 13 rfl rfl rfl rfl rfl rfl rfl) fun a8 H8 => ?_
    clear H7
    refine a_op  5 H8 rfl rfl (by kernel_rfl) (by kernel_rfl) (by kernel_rfl) (fun _ _ _ h => h) (wn rfl) (fun w hL => R_mv H8 rfl rfl) hL rfl (P7 21 20 19 0 1 12 13 rfl rfl rfl rfl rfl rfl rfl) fun a9 H9 => ?_
    clear H8
    refine a_op  6 H9 rfl rfl (by kernel_rfl) (by kernel_rfl) (by kernel_rfl) (fun _ _ _ h => h) (wn rfl) (fun w hL => R_ixa H9 rfl rfl rfl (ix_out hq2 hjn)) hL rfl (P6 22 19 0 1 12 13 rfl rfl rfl rfl rfl rfl) fun a10 H10 => ?_
    clear H9
    refine a_op  7 H10 rfl rfl (by kernel_rfl) (by kernel_rfl) (by kernel_rfl) (fun _ _ _ h => h) (wn rfl) (fun w hL => R_ld H10 rfl rfl (ld_outA (p := N[j]) (hc2 _ hL))) hL rfl (P6 23 19 0 1 12 13 rfl rfl rfl rfl rfl rfl) fun a11 H11 => ?_
    clear H10
    refine a_op  8 H11 rfl rfl (by kernel_rfl) (by kernel_rfl) (by kernel_rfl) (fun _ _ _ h => h) (wn rfl) (fun w hL => R_bin H11 rfl rfl rfl (B_nout _ _)) hL rfl (P5 24 0 1 12 13 rfl rfl rfl rfl rfl) fun a12 H12 => ?_
    clear H11
    refine wpAnyH_done (by kernel_rfl) ?_ _
    by_cases he : M[j] = N[j]
    · rw [decide_eq_false (show ¬ _ from fun e => e he)] at H12
      repeat (go_not_at_region 8; go_step)
      refine wp_cond_false (H12.ev (x := .tmp 24) rfl) ?_
      repeat (go_not_at_region 8; go_step)
      refine wp_region_lit ?_
      refine h_op H12 rfl (wn rfl) (R_bin H12 rfl rfl rfl (B_add Tryz.underlying3 _ _ (by omega) (by omega))) rfl (P5 25 0 1 12 13 rfl rfl rfl rfl rfl) fun a13 H13 => ?_
      clear H12
      refine h_op H13 rfl (wn rfl) (R_mv H13 rfl rfl) rfl (P4 13 0 1 12 rfl rfl rfl rfl) fun a14 H14 => ?_
      clear H13
      refine h_end ?_
      exact ⟨M.length - (j + 1), by omega, (HI.out _ _ _).2 ⟨j + 1, rfl, by omega, eq_next hjl hjn htk he, H14.pick _ (P4 0 1 12 13 rfl rfl rfl rfl), hL⟩⟩
    · rw [decide_eq_true (show ¬ _ from he)] at H12
      repeat (go_not_at_region 7; go_step)
      refine wp_cond_true (H12.ev (x := .tmp 24) rfl) ?_
      repeat (go_not_at_region 7; go_step)
      refine wp_region_lit ?_
      refine h_op H12 rfl (wn rfl) (R_as H12 rfl rfl) rfl (P1 4 rfl) fun a13 H13 => ?_
      clear H12
      refine h_end ?_
      repeat (go_not_at_region 999; go_step)
      refine H13.ret1 rfl rfl ⟨?_, hL⟩
      rw [decide_eq_false (fun e => he (by simp only [e]))]
  · repeat (go_not_at_region 4; go_step)
    refine wp_region_lit ?_
    refine h_op H0 rfl (wn rfl) (R_bin H0 rfl rfl rfl (B_to (y := false) (B_lt Tryz.underlying3 _ _) (decide_eq_false (by omega)))) rfl (P5 14 0 1 12 13 rfl rfl rfl rfl rfl) fun a1 H1 => ?_
    clear H0
    refine h_end ?_
    repeat (go_not_at_region 9; go_step)
    refine wp_cond_false (H1.ev (x := .tmp 14) rfl) ?_
    repeat (go_not_at_region 9; go_step)
    refine wp_region_lit ?_
    refine h_op H1 rfl (wn rfl) (R_as H1 rfl rfl) rfl (P1 4 rfl) fun a2 H2 => ?_
    clear H1
    refine h_end ?_
    repeat (go_not_at_region 999; go_step)
    refine H2.ret1 rfl rfl ⟨?_, hL⟩
    have ej : j = M.length := by omega
    rw [ej, List.take_length] at htk
    rw [hl, List.take_length] at htk
    rw [decide_eq_true htk]
set_option maxRecDepth 100000 in
theorem eqI_any {M N : List (Int)} (hL : LV w0 L W) (r1 : RdW w0 L 1 (fun z : Int => (#[.int .i64 z] : Array Value)) q1 M) (r2 : RdW w0 L 1 (fun z : Int => (#[.int .i64 z] : Array Value)) q2 N) (hm : M.length < 1000000) (hn : N.length < 1000000) : Calls Tryz.prog 54 #[.slice q1 M.length c1, .slice q2 N.length c2] W fun e W' => e = .returned (.bool (decide (M = N))) ∧ LV w0 L W' := by
  go_enter Tryz.func54, Tryz.ntmps54
  refine wp_fr (n := 26) (m := [(0, _), (1, _)]) ⟨rfl, rfl, by intro p hp; simp only [List.mem_cons, List.not_mem_nil, or_false] at hp; rcases hp with rfl | rfl <;> rfl⟩ fun a0 H0 => ?_
  repeat (go_not_at_region 0; go_step)
  refine wp_region_lit ?_
  refine h_op H0 rfl (wn rfl) (R_as H0 rfl rfl) rfl (P2 0 1 rfl rfl) fun a1 H1 => ?_
  clear H0
  refine h_end ?_
  repeat (go_not_at_region 1; go_step)
  refine wp_region_lit ?_
  refine h_op H1 rfl (wn rfl) (R_mv H1 rfl rfl) rfl (P3 6 0 1 rfl rfl rfl) fun a2 H2 => ?_
  clear H1
  refine h_op H2 rfl (wn rfl) (R_lenS H2 rfl rfl Tryz.underlying52) rfl (P3 7 0 1 rfl rfl rfl) fun a3 H3 => ?_
  clear H2
  refine h_op H3 rfl (wn rfl) (R_mv H3 rfl rfl) rfl (P4 8 7 0 1 rfl rfl rfl rfl) fun a4 H4 => ?_
  clear H3
  refine h_op H4 rfl (wn rfl) (R_lenS H4 rfl rfl Tryz.underlying52) rfl (P4 9 7 0 1 rfl rfl rfl rfl) fun a5 H5 => ?_
  clear H4
  refine h_op H5 rfl (wn rfl) (R_bin H5 rfl rfl rfl (B_nin _ _)) rfl (P3 10 0 1 rfl rfl rfl) fun a6 H6 => ?_
  clear H5
  refine h_end ?_
  by_cases hlen : (M.length : Int) = (N.length : Nat)
  rotate_left
  · rw [decide_eq_true (show ¬ _ from hlen)] at H6
    repeat (go_not_at_region 2; go_step)
    refine wp_cond_true (H6.ev (x := .tmp 10) rfl) ?_
    repeat (go_not_at_region 2; go_step)
    refine wp_region_lit ?_
    refine h_op H6 rfl (wn rfl) (R_as H6 rfl rfl) rfl (P1 4 rfl) fun a7 H7 => ?_
    clear H6
    refine h_end ?_
    repeat (go_not_at_region 999; go_step)
    refine H7.ret1 rfl rfl ⟨?_, hL⟩
    rw [decide_eq_false (fun e => hlen (by rw [e]))]
  rw [decide_eq_false (show ¬ _ from fun e => e hlen)] at H6
  have hl : M.length = N.length := by omega
  repeat (go_not_at_region 3; go_step)
  refine wp_cond_false (H6.ev (x := .tmp 10) rfl) ?_
  repeat (go_not_at_region 3; go_step)
  refine wp_region_lit ?_
  refine h_op H6 rfl (wn rfl) (R_mv H6 rfl rfl) rfl (P3 11 0 1 rfl rfl rfl) fun a7 H7 => ?_
  clear H6
  refine h_op H7 rfl (wn rfl) (R_lenS H7 rfl rfl Tryz.underlying52) rfl (P3 12 0 1 rfl rfl rfl) fun a8 H8 => ?_
  clear H7
  refine h_op H8 rfl (wn rfl) (R_mv H8 rfl rfl) rfl (P4 13 12 0 1 rfl rfl rfl rfl) fun a9 H9 => ?_
  clear H8
  refine h_end ?_
  repeat (go_not_at_region 4; go_step)
  obtain ⟨I, hI⟩ : ∃ I : Nat → Act → World → Prop, ∀ n a' w', I n a' w' ↔ ∃ j : Nat, n = M.length - j ∧ j ≤ M.length ∧ M.take j = N.take j ∧ Fr a' 26 [(0, .slice q1 M.length c1), (1, .slice q2 N.length c2), (12, .int .i64 (M.length : Nat)), (13, .int .i64 (j : Nat))] ∧ LV w0 L w' := ⟨_, fun _ _ _ => Iff.rfl⟩
  have HI := Lib.hid hI
  clear hI
  refine wp_loop_ghost I M.length ((HI.out _ _ _).2 ⟨0, rfl, Nat.zero_le _, rfl, H9.pick _ (P4 0 1 12 13 rfl rfl rfl rfl), hL⟩) ?_
  clear hL H9
  intro n a1 wl hi'
  obtain ⟨j, rfl, hj, htk, H0, hL⟩ := (HI.out _ _ _).1 hi'
  clear hi'
  by_cases hjl : j < M.length
  · repeat (go_not_at_region 4; go_step)
    refine wp_region_lit ?_
    refine h_op H0 rfl (wn rfl) (R_bin H0 rfl rfl rfl (B_to (y := true) (B_lt Tryz.underlying3 _ _) (decide_eq_true (by omega)))) rfl (P5 14 0 1 12 13 rfl rfl rfl rfl rfl) fun a1 H1 => ?_
    clear H0
    refine h_end ?_
    repeat (go_not_at_region 5; go_step)
    refine wp_cond_true (H1.ev (x := .tmp 14) rfl) ?_
    repeat (go_not_at_region 5; go_step)
    refine wp_region_lit ?_
    refine h_op H1 rfl (wn rfl) (R_mv H1 rfl rfl) rfl (P5 15 0 1 12 13 rfl rfl rfl rfl rfl) fun a2 H2 => ?_
    clear H1
    refine h_op H2 rfl (wn rfl) (R_as H2 rfl rfl) rfl (P5 5 0 1 12 13 rfl rfl rfl rfl rfl) fun a3 H3 => ?_
    clear H2
    refine h_end ?_
    have hjn : j < N.length := by omega
    obtain ⟨ad1, hq1, _⟩ := r1 wl hL j hjl
    obtain ⟨ad2, hq2, _⟩ := r2 wl hL j hjn
    have hc1 : ∀ w, LV w0 L w → ∀ (k : Nat) u, ((fun z : Int => (#[.int .i64 z] : Array Value)) M[j])[k]? = some u → w.cell? ((ad1.add (j * 1)).add k) = some u := fun w h => by
      obtain ⟨a', e', h'⟩ := r1 w h j hjl
      rw [hq1] at e'
      cases e'
      exact h'
    have hc2 : ∀ w, LV w0 L w → ∀ (k : Nat) u, ((fun z : Int => (#[.int .i64 z] : Array Value)) N[j])[k]? = some u → w.cell? ((ad2.add (j * 1)).add k) = some u := fun w h => by
      obtain ⟨a', e', h'⟩ := r2 w h j hjn
      rw [hq2] at e'
      cases e'
      exact h'
    repeat (go_not_at_region 6; go_step)
    refine wp_region_held_drew (S := fun w' => LV w0 L w') (by kernel_rfl) hL.drew (fun hL' => ?_)
    replace hL := hL'
    clear hL'
    refine a_op  0 H3 rfl rfl (by kernel_rfl) (by kernel_rfl) (by kernel_rfl) (fun _ _ _ h => h) (wn rfl) (fun w hL => R_mv H3 rfl rfl) hL rfl (P6 16 5 0 1 12 13 rfl rfl rfl rfl rfl rfl) fun a4 H4 => ?_
    clear H3
    refine a_op  1 H4 rfl rfl (by kernel_rfl) (by kernel_rfl) (by kernel_rfl) (fun _ _ _ h => h) (wn rfl) (fun w hL => R_mv H4 rfl rfl) hL rfl (P7 17 16 5 0 1 12 13 rfl rfl rfl rfl rfl rfl rfl) fun a5 H5 => ?_
    clear H4
    refine a_op  2 H5 rfl rfl (by kernel_rfl) (by kernel_rfl) (by kernel_rfl) (fun _ _ _ h => h) (wn rfl) (fun w hL => R_ixa H5 rfl rfl rfl (ix_in hq1 hjl)) hL rfl (P6 18 5 0 1 12 13 rfl rfl rfl rfl rfl rfl) fun a6 H6 => ?_
    clear H5
    refine a_op  3 H6 rfl rfl (by kernel_rfl) (by kernel_rfl) (by kernel_rfl) (fun _ _ _ h => h) (wn rfl) (fun w hL => R_ld H6 rfl rfl (ld_inA (p := M[j]) (hc1 _ hL))) hL rfl (P6 19 5 0 1 12 13 rfl rfl rfl rfl rfl rfl) fun a7 H7 => ?_
    clear H6
    refine a_op  4 H7 rfl rfl (by kernel_rfl) (by kernel_rfl) (by kernel_rfl) (fun _ _ _ h => h) (wn rfl) (fun w hL => R_mv H7 rfl rfl) hL rfl (P7 20 19 5 0 1 12 13 rfl rfl rfl rfl rfl rfl rfl) fun a8 H8 => ?_
    clear H7
    refine a_op  5 H8 rfl rfl (by kernel_rfl) (by kernel_rfl) (by kernel_rfl) (fun _ _ _ h => h) (wn rfl) (fun w hL => R_mv H8 rfl rfl) hL rfl (P7 21 20 19 0 1 12 13 rfl rfl rfl rfl rfl rfl rfl) fun a9 H9 => ?_
    clear H8
    refine a_op  6 H9 rfl rfl (by kernel_rfl) (by kernel_rfl) (by kernel_rfl) (fun _ _ _ h => h) (wn rfl) (fun w hL => R_ixa H9 rfl rfl rfl (ix_in hq2 hjn)) hL rfl (P6 22 19 0 1 12 13 rfl rfl rfl rfl rfl rfl) fun a10 H10 => ?_
    clear H9
    refine a_op  7 H10 rfl rfl (by kernel_rfl) (by kernel_rfl) (by kernel_rfl) (fun _ _ _ h => h) (wn rfl) (fun w hL => R_ld H10 rfl rfl (ld_inA (p := N[j]) (hc2 _ hL))) hL rfl (P6 23 19 0 1 12 13 rfl rfl rfl rfl rfl rfl) fun a11 H11 => ?_
    clear H10
    refine a_op  8 H11 rfl rfl (by kernel_rfl) (by kernel_rfl) (by kernel_rfl) (fun _ _ _ h => h) (wn rfl) (fun w hL => R_bin H11 rfl rfl rfl (B_nin _ _)) hL rfl (P5 24 0 1 12 13 rfl rfl rfl rfl rfl) fun a12 H12 => ?_
    clear H11
    refine wpAnyH_done (by kernel_rfl) ?_ _
    by_cases he : M[j] = N[j]
    · rw [decide_eq_false (show ¬ _ from fun e => e he)] at H12
      repeat (go_not_at_region 8; go_step)
      refine wp_cond_false (H12.ev (x := .tmp 24) rfl) ?_
      repeat (go_not_at_region 8; go_step)
      refine wp_region_lit ?_
      refine h_op H12 rfl (wn rfl) (R_bin H12 rfl rfl rfl (B_add Tryz.underlying3 _ _ (by omega) (by omega))) rfl (P5 25 0 1 12 13 rfl rfl rfl rfl rfl) fun a13 H13 => ?_
      clear H12
      refine h_op H13 rfl (wn rfl) (R_mv H13 rfl rfl) rfl (P4 13 0 1 12 rfl rfl rfl rfl) fun a14 H14 => ?_
      clear H13
      refine h_end ?_
      exact ⟨M.length - (j + 1), by omega, (HI.out _ _ _).2 ⟨j + 1, rfl, by omega, eq_next hjl hjn htk he, H14.pick _ (P4 0 1 12 13 rfl rfl rfl rfl), hL⟩⟩
    · rw [decide_eq_true (show ¬ _ from he)] at H12
      repeat (go_not_at_region 7; go_step)
      refine wp_cond_true (H12.ev (x := .tmp 24) rfl) ?_
      repeat (go_not_at_region 7; go_step)
      refine wp_region_lit ?_
      refine h_op H12 rfl (wn rfl) (R_as H12 rfl rfl) rfl (P1 4 rfl) fun a13 H13 => ?_
      clear H12
      refine h_end ?_
      repeat (go_not_at_region 999; go_step)
      refine H13.ret1 rfl rfl ⟨?_, hL⟩
      rw [decide_eq_false (fun e => he (by simp only [e]))]
  · repeat (go_not_at_region 4; go_step)
    refine wp_region_lit ?_
    refine h_op H0 rfl (wn rfl) (R_bin H0 rfl rfl rfl (B_to (y := false) (B_lt Tryz.underlying3 _ _) (decide_eq_false (by omega)))) rfl (P5 14 0 1 12 13 rfl rfl rfl rfl rfl) fun a1 H1 => ?_
    clear H0
    refine h_end ?_
    repeat (go_not_at_region 9; go_step)
    refine wp_cond_false (H1.ev (x := .tmp 14) rfl) ?_
    repeat (go_not_at_region 9; go_step)
    refine wp_region_lit ?_
    refine h_op H1 rfl (wn rfl) (R_as H1 rfl rfl) rfl (P1 4 rfl) fun a2 H2 => ?_
    clear H1
    refine h_end ?_
    repeat (go_not_at_region 999; go_step)
    refine H2.ret1 rfl rfl ⟨?_, hL⟩
    have ej : j = M.length := by omega
    rw [ej, List.take_length] at htk
    rw [hl, List.take_length] at htk
    rw [decide_eq_true htk]
set_option maxRecDepth 100000 in
theorem eqE_any {M N : List (Int × Int × Int)} (hL : LV w0 L W) (r1 : RdW w0 L 3 (fun q : Int × Int × Int => (enC q).toArray) q1 M) (r2 : RdW w0 L 3 (fun q : Int × Int × Int => (enC q).toArray) q2 N) (hm : M.length < 1000000) (hn : N.length < 1000000) : Calls Tryz.prog 55 #[.slice q1 M.length c1, .slice q2 N.length c2] W fun e W' => e = .returned (.bool (decide (M = N))) ∧ LV w0 L W' := by
  go_enter Tryz.func55, Tryz.ntmps55
  refine wp_fr (n := 26) (m := [(0, _), (1, _)]) ⟨rfl, rfl, by intro p hp; simp only [List.mem_cons, List.not_mem_nil, or_false] at hp; rcases hp with rfl | rfl <;> rfl⟩ fun a0 H0 => ?_
  repeat (go_not_at_region 0; go_step)
  refine wp_region_lit ?_
  refine h_op H0 rfl (wn rfl) (R_as H0 rfl rfl) rfl (P2 0 1 rfl rfl) fun a1 H1 => ?_
  clear H0
  refine h_end ?_
  repeat (go_not_at_region 1; go_step)
  refine wp_region_lit ?_
  refine h_op H1 rfl (wn rfl) (R_mv H1 rfl rfl) rfl (P3 6 0 1 rfl rfl rfl) fun a2 H2 => ?_
  clear H1
  refine h_op H2 rfl (wn rfl) (R_lenS H2 rfl rfl Tryz.underlying61) rfl (P3 7 0 1 rfl rfl rfl) fun a3 H3 => ?_
  clear H2
  refine h_op H3 rfl (wn rfl) (R_mv H3 rfl rfl) rfl (P4 8 7 0 1 rfl rfl rfl rfl) fun a4 H4 => ?_
  clear H3
  refine h_op H4 rfl (wn rfl) (R_lenS H4 rfl rfl Tryz.underlying61) rfl (P4 9 7 0 1 rfl rfl rfl rfl) fun a5 H5 => ?_
  clear H4
  refine h_op H5 rfl (wn rfl) (R_bin H5 rfl rfl rfl (B_nin _ _)) rfl (P3 10 0 1 rfl rfl rfl) fun a6 H6 => ?_
  clear H5
  refine h_end ?_
  by_cases hlen : (M.length : Int) = (N.length : Nat)
  rotate_left
  · rw [decide_eq_true (show ¬ _ from hlen)] at H6
    repeat (go_not_at_region 2; go_step)
    refine wp_cond_true (H6.ev (x := .tmp 10) rfl) ?_
    repeat (go_not_at_region 2; go_step)
    refine wp_region_lit ?_
    refine h_op H6 rfl (wn rfl) (R_as H6 rfl rfl) rfl (P1 4 rfl) fun a7 H7 => ?_
    clear H6
    refine h_end ?_
    repeat (go_not_at_region 999; go_step)
    refine H7.ret1 rfl rfl ⟨?_, hL⟩
    rw [decide_eq_false (fun e => hlen (by rw [e]))]
  rw [decide_eq_false (show ¬ _ from fun e => e hlen)] at H6
  have hl : M.length = N.length := by omega
  repeat (go_not_at_region 3; go_step)
  refine wp_cond_false (H6.ev (x := .tmp 10) rfl) ?_
  repeat (go_not_at_region 3; go_step)
  refine wp_region_lit ?_
  refine h_op H6 rfl (wn rfl) (R_mv H6 rfl rfl) rfl (P3 11 0 1 rfl rfl rfl) fun a7 H7 => ?_
  clear H6
  refine h_op H7 rfl (wn rfl) (R_lenS H7 rfl rfl Tryz.underlying61) rfl (P3 12 0 1 rfl rfl rfl) fun a8 H8 => ?_
  clear H7
  refine h_op H8 rfl (wn rfl) (R_mv H8 rfl rfl) rfl (P4 13 12 0 1 rfl rfl rfl rfl) fun a9 H9 => ?_
  clear H8
  refine h_end ?_
  repeat (go_not_at_region 4; go_step)
  obtain ⟨I, hI⟩ : ∃ I : Nat → Act → World → Prop, ∀ n a' w', I n a' w' ↔ ∃ j : Nat, n = M.length - j ∧ j ≤ M.length ∧ M.take j = N.take j ∧ Fr a' 26 [(0, .slice q1 M.length c1), (1, .slice q2 N.length c2), (12, .int .i64 (M.length : Nat)), (13, .int .i64 (j : Nat))] ∧ LV w0 L w' := ⟨_, fun _ _ _ => Iff.rfl⟩
  have HI := Lib.hid hI
  clear hI
  refine wp_loop_ghost I M.length ((HI.out _ _ _).2 ⟨0, rfl, Nat.zero_le _, rfl, H9.pick _ (P4 0 1 12 13 rfl rfl rfl rfl), hL⟩) ?_
  clear hL H9
  intro n a1 wl hi'
  obtain ⟨j, rfl, hj, htk, H0, hL⟩ := (HI.out _ _ _).1 hi'
  clear hi'
  by_cases hjl : j < M.length
  · repeat (go_not_at_region 4; go_step)
    refine wp_region_lit ?_
    refine h_op H0 rfl (wn rfl) (R_bin H0 rfl rfl rfl (B_to (y := true) (B_lt Tryz.underlying3 _ _) (decide_eq_true (by omega)))) rfl (P5 14 0 1 12 13 rfl rfl rfl rfl rfl) fun a1 H1 => ?_
    clear H0
    refine h_end ?_
    repeat (go_not_at_region 5; go_step)
    refine wp_cond_true (H1.ev (x := .tmp 14) rfl) ?_
    repeat (go_not_at_region 5; go_step)
    refine wp_region_lit ?_
    refine h_op H1 rfl (wn rfl) (R_mv H1 rfl rfl) rfl (P5 15 0 1 12 13 rfl rfl rfl rfl rfl) fun a2 H2 => ?_
    clear H1
    refine h_op H2 rfl (wn rfl) (R_as H2 rfl rfl) rfl (P5 5 0 1 12 13 rfl rfl rfl rfl rfl) fun a3 H3 => ?_
    clear H2
    refine h_end ?_
    have hjn : j < N.length := by omega
    obtain ⟨ad1, hq1, _⟩ := r1 wl hL j hjl
    obtain ⟨ad2, hq2, _⟩ := r2 wl hL j hjn
    have hc1 : ∀ w, LV w0 L w → ∀ (k : Nat) u, ((fun q : Int × Int × Int => (enC q).toArray) M[j])[k]? = some u → w.cell? ((ad1.add (j * 3)).add k) = some u := fun w h => by
      obtain ⟨a', e', h'⟩ := r1 w h j hjl
      rw [hq1] at e'
      cases e'
      exact h'
    have hc2 : ∀ w, LV w0 L w → ∀ (k : Nat) u, ((fun q : Int × Int × Int => (enC q).toArray) N[j])[k]? = some u → w.cell? ((ad2.add (j * 3)).add k) = some u := fun w h => by
      obtain ⟨a', e', h'⟩ := r2 w h j hjn
      rw [hq2] at e'
      cases e'
      exact h'
    repeat (go_not_at_region 6; go_step)
    refine wp_region_held_drew (S := fun w' => LV w0 L w') (by kernel_rfl) hL.drew (fun hL' => ?_)
    replace hL := hL'
    clear hL'
    refine a_op  0 H3 rfl rfl (by kernel_rfl) (by kernel_rfl) (by kernel_rfl) (fun _ _ _ h => h) (wn rfl) (fun w hL => R_mv H3 rfl rfl) hL rfl (P6 16 5 0 1 12 13 rfl rfl rfl rfl rfl rfl) fun a4 H4 => ?_
    clear H3
    refine a_op  1 H4 rfl rfl (by kernel_rfl) (by kernel_rfl) (by kernel_rfl) (fun _ _ _ h => h) (wn rfl) (fun w hL => R_mv H4 rfl rfl) hL rfl (P7 17 16 5 0 1 12 13 rfl rfl rfl rfl rfl rfl rfl) fun a5 H5 => ?_
    clear H4
    refine a_op  2 H5 rfl rfl (by kernel_rfl) (by kernel_rfl) (by kernel_rfl) (fun _ _ _ h => h) (wn rfl) (fun w hL => R_ixa H5 rfl rfl rfl (ix_en hq1 hjl)) hL rfl (P6 18 5 0 1 12 13 rfl rfl rfl rfl rfl rfl) fun a6 H6 => ?_
    clear H5
    refine a_op  3 H6 rfl rfl (by kernel_rfl) (by kernel_rfl) (by kernel_rfl) (fun _ _ _ h => h) (wn rfl) (fun w hL => R_ld H6 rfl rfl (ld_enA (p := M[j]) (hc1 _ hL))) hL rfl (P6 19 5 0 1 12 13 rfl rfl rfl rfl rfl rfl) fun a7 H7 => ?_
    clear H6
    refine a_op  4 H7 rfl rfl (by kernel_rfl) (by kernel_rfl) (by kernel_rfl) (fun _ _ _ h => h) (wn rfl) (fun w hL => R_mv H7 rfl rfl) hL rfl (P7 20 19 5 0 1 12 13 rfl rfl rfl rfl rfl rfl rfl) fun a8 H8 => ?_
    clear H7
    refine a_op  5 H8 rfl rfl (by kernel_rfl) (by kernel_rfl) (by kernel_rfl) (fun _ _ _ h => h) (wn rfl) (fun w hL => R_mv H8 rfl rfl) hL rfl (P7 21 20 19 0 1 12 13 rfl rfl rfl rfl rfl rfl rfl) fun a9 H9 => ?_
    clear H8
    refine a_op  6 H9 rfl rfl (by kernel_rfl) (by kernel_rfl) (by kernel_rfl) (fun _ _ _ h => h) (wn rfl) (fun w hL => R_ixa H9 rfl rfl rfl (ix_en hq2 hjn)) hL rfl (P6 22 19 0 1 12 13 rfl rfl rfl rfl rfl rfl) fun a10 H10 => ?_
    clear H9
    refine a_op  7 H10 rfl rfl (by kernel_rfl) (by kernel_rfl) (by kernel_rfl) (fun _ _ _ h => h) (wn rfl) (fun w hL => R_ld H10 rfl rfl (ld_enA (p := N[j]) (hc2 _ hL))) hL rfl (P6 23 19 0 1 12 13 rfl rfl rfl rfl rfl rfl) fun a11 H11 => ?_
    clear H10
    refine a_op  8 H11 rfl rfl (by kernel_rfl) (by kernel_rfl) (by kernel_rfl) (fun _ _ _ h => h) (wn rfl) (fun w hL => R_bin H11 rfl rfl rfl (B_nen _ _)) hL rfl (P5 24 0 1 12 13 rfl rfl rfl rfl rfl) fun a12 H12 => ?_
    clear H11
    refine wpAnyH_done (by kernel_rfl) ?_ _
    by_cases he : M[j] = N[j]
    · rw [decide_eq_false (show ¬ _ from fun e => e he)] at H12
      repeat (go_not_at_region 8; go_step)
      refine wp_cond_false (H12.ev (x := .tmp 24) rfl) ?_
      repeat (go_not_at_region 8; go_step)
      refine wp_region_lit ?_
      refine h_op H12 rfl (wn rfl) (R_bin H12 rfl rfl rfl (B_add Tryz.underlying3 _ _ (by omega) (by omega))) rfl (P5 25 0 1 12 13 rfl rfl rfl rfl rfl) fun a13 H13 => ?_
      clear H12
      refine h_op H13 rfl (wn rfl) (R_mv H13 rfl rfl) rfl (P4 13 0 1 12 rfl rfl rfl rfl) fun a14 H14 => ?_
      clear H13
      refine h_end ?_
      exact ⟨M.length - (j + 1), by omega, (HI.out _ _ _).2 ⟨j + 1, rfl, by omega, eq_next hjl hjn htk he, H14.pick _ (P4 0 1 12 13 rfl rfl rfl rfl), hL⟩⟩
    · rw [decide_eq_true (show ¬ _ from he)] at H12
      repeat (go_not_at_region 7; go_step)
      refine wp_cond_true (H12.ev (x := .tmp 24) rfl) ?_
      repeat (go_not_at_region 7; go_step)
      refine wp_region_lit ?_
      refine h_op H12 rfl (wn rfl) (R_as H12 rfl rfl) rfl (P1 4 rfl) fun a13 H13 => ?_
      clear H12
      refine h_end ?_
      repeat (go_not_at_region 999; go_step)
      refine H13.ret1 rfl rfl ⟨?_, hL⟩
      rw [decide_eq_false (fun e => he (by simp only [e]))]
  · repeat (go_not_at_region 4; go_step)
    refine wp_region_lit ?_
    refine h_op H0 rfl (wn rfl) (R_bin H0 rfl rfl rfl (B_to (y := false) (B_lt Tryz.underlying3 _ _) (decide_eq_false (by omega)))) rfl (P5 14 0 1 12 13 rfl rfl rfl rfl rfl) fun a1 H1 => ?_
    clear H0
    refine h_end ?_
    repeat (go_not_at_region 9; go_step)
    refine wp_cond_false (H1.ev (x := .tmp 14) rfl) ?_
    repeat (go_not_at_region 9; go_step)
    refine wp_region_lit ?_
    refine h_op H1 rfl (wn rfl) (R_as H1 rfl rfl) rfl (P1 4 rfl) fun a2 H2 => ?_
    clear H1
    refine h_end ?_
    repeat (go_not_at_region 999; go_step)
    refine H2.ret1 rfl rfl ⟨?_, hL⟩
    have ej : j = M.length := by omega
    rw [ej, List.take_length] at htk
    rw [hl, List.take_length] at htk
    rw [decide_eq_true htk]
set_option maxRecDepth 100000 in
theorem rsame_any {M N : List (Win × A8)} (hL : LV w0 L W) (r1 : RdW w0 L 10 outA q1 M) (r2 : RdW w0 L 10 outA q2 N) (hm : M.length < 1000000) (hn : N.length < 1000000) : Calls Tryz.prog 15 #[.slice q1 M.length c1, .slice q2 N.length c2] W fun e W' => e = .returned (.bool (decide (M = N))) ∧ LV w0 L W' := by
  go_enter Tryz.func15, Tryz.ntmps15
  refine wp_fr (n := 26) (m := [(0, _), (1, _)]) ⟨rfl, rfl, by intro p hp; simp only [List.mem_cons, List.not_mem_nil, or_false] at hp; rcases hp with rfl | rfl <;> rfl⟩ fun a0 H0 => ?_
  repeat (go_not_at_region 0; go_step)
  refine wp_region_lit ?_
  refine h_op H0 rfl (wn rfl) (R_as H0 rfl rfl) rfl (P2 0 1 rfl rfl) fun a1 H1 => ?_
  clear H0
  refine h_end ?_
  repeat (go_not_at_region 1; go_step)
  refine wp_region_lit ?_
  refine h_op H1 rfl (wn rfl) (R_mv H1 rfl rfl) rfl (P3 6 0 1 rfl rfl rfl) fun a2 H2 => ?_
  clear H1
  refine h_op H2 rfl (wn rfl) (R_lenS H2 rfl rfl Tryz.underlying27) rfl (P3 7 0 1 rfl rfl rfl) fun a3 H3 => ?_
  clear H2
  refine h_op H3 rfl (wn rfl) (R_mv H3 rfl rfl) rfl (P4 8 7 0 1 rfl rfl rfl rfl) fun a4 H4 => ?_
  clear H3
  refine h_op H4 rfl (wn rfl) (R_lenS H4 rfl rfl Tryz.underlying27) rfl (P4 9 7 0 1 rfl rfl rfl rfl) fun a5 H5 => ?_
  clear H4
  refine h_op H5 rfl (wn rfl) (R_bin H5 rfl rfl rfl (B_nin _ _)) rfl (P3 10 0 1 rfl rfl rfl) fun a6 H6 => ?_
  clear H5
  refine h_end ?_
  by_cases hlen : (M.length : Int) = (N.length : Nat)
  rotate_left
  · rw [decide_eq_true (show ¬ _ from hlen)] at H6
    repeat (go_not_at_region 2; go_step)
    refine wp_cond_true (H6.ev (x := .tmp 10) rfl) ?_
    repeat (go_not_at_region 2; go_step)
    refine wp_region_lit ?_
    refine h_op H6 rfl (wn rfl) (R_as H6 rfl rfl) rfl (P1 4 rfl) fun a7 H7 => ?_
    clear H6
    refine h_end ?_
    repeat (go_not_at_region 999; go_step)
    refine H7.ret1 rfl rfl ⟨?_, hL⟩
    rw [decide_eq_false (fun e => hlen (by rw [e]))]
  rw [decide_eq_false (show ¬ _ from fun e => e hlen)] at H6
  have hl : M.length = N.length := by omega
  repeat (go_not_at_region 3; go_step)
  refine wp_cond_false (H6.ev (x := .tmp 10) rfl) ?_
  repeat (go_not_at_region 3; go_step)
  refine wp_region_lit ?_
  refine h_op H6 rfl (wn rfl) (R_as H6 rfl rfl) rfl (P3 5 0 1 rfl rfl rfl) fun a7 H7 => ?_
  clear H6
  refine h_end ?_
  repeat (go_not_at_region 4; go_step)
  obtain ⟨I, hI⟩ : ∃ I : Nat → Act → World → Prop, ∀ n a' w', I n a' w' ↔ ∃ j : Nat, n = M.length - j ∧ j ≤ M.length ∧ M.take j = N.take j ∧ Fr a' 26 [(0, .slice q1 M.length c1), (1, .slice q2 N.length c2), (5, .int .i64 (j : Nat))] ∧ LV w0 L w' := ⟨_, fun _ _ _ => Iff.rfl⟩
  have HI := Lib.hid hI
  clear hI
  refine wp_loop_ghost I M.length ((HI.out _ _ _).2 ⟨0, rfl, Nat.zero_le _, rfl, H7.pick _ (P3 0 1 5 rfl rfl rfl), hL⟩) ?_
  clear hL H7
  intro n a1 wl hi'
  obtain ⟨j, rfl, hj, htk, H0, hL⟩ := (HI.out _ _ _).1 hi'
  clear hi'
  by_cases hjl : j < M.length
  · repeat (go_not_at_region 4; go_step)
    refine wp_region_lit ?_
    refine h_op H0 rfl (wn rfl) (R_mv H0 rfl rfl) rfl (P4 11 0 1 5 rfl rfl rfl rfl) fun a1 H1 => ?_
    clear H0
    refine h_op H1 rfl (wn rfl) (R_mv H1 rfl rfl) rfl (P5 12 11 0 1 5 rfl rfl rfl rfl rfl) fun a2 H2 => ?_
    clear H1
    refine h_op H2 rfl (wn rfl) (R_lenS H2 rfl rfl Tryz.underlying27) rfl (P5 13 11 0 1 5 rfl rfl rfl rfl rfl) fun a3 H3 => ?_
    clear H2
    refine h_op H3 rfl (wn rfl) (R_bin H3 rfl rfl rfl (B_to (y := true) (B_lt Tryz.underlying3 _ _) (decide_eq_true (by omega)))) rfl (P4 14 0 1 5 rfl rfl rfl rfl) fun a4 H4 => ?_
    clear H3
    refine h_end ?_
    repeat (go_not_at_region 6; go_step)
    refine wp_cond_true (H4.ev (x := .tmp 14) rfl) ?_
    have hjn : j < N.length := by omega
    obtain ⟨ad1, hq1, _⟩ := r1 wl hL j hjl
    obtain ⟨ad2, hq2, _⟩ := r2 wl hL j hjn
    have hc1 : ∀ w, LV w0 L w → ∀ (k : Nat) u, (outA M[j])[k]? = some u → w.cell? ((ad1.add (j * 10)).add k) = some u := fun w h => by
      obtain ⟨a', e', h'⟩ := r1 w h j hjl
      rw [hq1] at e'
      cases e'
      exact h'
    have hc2 : ∀ w, LV w0 L w → ∀ (k : Nat) u, (outA N[j])[k]? = some u → w.cell? ((ad2.add (j * 10)).add k) = some u := fun w h => by
      obtain ⟨a', e', h'⟩ := r2 w h j hjn
      rw [hq2] at e'
      cases e'
      exact h'
    repeat (go_not_at_region 6; go_step)
    refine wp_region_held_drew (S := fun w' => LV w0 L w') (by kernel_rfl) hL.drew (fun hL' => ?_)
    replace hL := hL'
    clear hL'
    refine a_op  0 H4 rfl rfl (by kernel_rfl) (by kernel_rfl) (by kernel_rfl) (fun _ _ _ h => h) (wn rfl) (fun w hL => R_mv H4 rfl rfl) hL rfl (P4 17 0 1 5 rfl rfl rfl rfl) fun a5 H5 => ?_
    clear H4
    refine a_op  1 H5 rfl rfl (by kernel_rfl) (by kernel_rfl) (by kernel_rfl) (fun _ _ _ h => h) (wn rfl) (fun w hL => R_mv H5 rfl rfl) hL rfl (P5 18 17 0 1 5 rfl rfl rfl rfl rfl) fun a6 H6 => ?_
    clear H5
    refine a_op  2 H6 rfl rfl (by kernel_rfl) (by kernel_rfl) (by kernel_rfl) (fun _ _ _ h => h) (wn rfl) (fun w hL => R_ixa H6 rfl rfl rfl (ix_out hq1 hjl)) hL rfl (P4 19 0 1 5 rfl rfl rfl rfl) fun a7 H7 => ?_
    clear H6
    refine a_op  3 H7 rfl rfl (by kernel_rfl) (by kernel_rfl) (by kernel_rfl) (fun _ _ _ h => h) (wn rfl) (fun w hL => R_ld H7 rfl rfl (ld_outA (p := M[j]) (hc1 _ hL))) hL rfl (P4 20 0 1 5 rfl rfl rfl rfl) fun a8 H8 => ?_
    clear H7
    refine a_op  4 H8 rfl rfl (by kernel_rfl) (by kernel_rfl) (by kernel_rfl) (fun _ _ _ h => h) (wn rfl) (fun w hL => R_mv H8 rfl rfl) hL rfl (P5 21 20 0 1 5 rfl rfl rfl rfl rfl) fun a9 H9 => ?_
    clear H8
    refine a_op  5 H9 rfl rfl (by kernel_rfl) (by kernel_rfl) (by kernel_rfl) (fun _ _ _ h => h) (wn rfl) (fun w hL => R_mv H9 rfl rfl) hL rfl (P6 22 21 20 0 1 5 rfl rfl rfl rfl rfl rfl) fun a10 H10 => ?_
    clear H9
    refine a_op  6 H10 rfl rfl (by kernel_rfl) (by kernel_rfl) (by kernel_rfl) (fun _ _ _ h => h) (wn rfl) (fun w hL => R_ixa H10 rfl rfl rfl (ix_out hq2 hjn)) hL rfl (P5 23 20 0 1 5 rfl rfl rfl rfl rfl) fun a11 H11 => ?_
    clear H10
    refine a_op  7 H11 rfl rfl (by kernel_rfl) (by kernel_rfl) (by kernel_rfl) (fun _ _ _ h => h) (wn rfl) (fun w hL => R_ld H11 rfl rfl (ld_outA (p := N[j]) (hc2 _ hL))) hL rfl (P5 24 20 0 1 5 rfl rfl rfl rfl rfl) fun a12 H12 => ?_
    clear H11
    refine a_op  8 H12 rfl rfl (by kernel_rfl) (by kernel_rfl) (by kernel_rfl) (fun _ _ _ h => h) (wn rfl) (fun w hL => R_bin H12 rfl rfl rfl (B_nout _ _)) hL rfl (P4 25 0 1 5 rfl rfl rfl rfl) fun a13 H13 => ?_
    clear H12
    refine wpAnyH_done (by kernel_rfl) ?_ _
    by_cases he : M[j] = N[j]
    · rw [decide_eq_false (show ¬ _ from fun e => e he)] at H13
      repeat (go_not_at_region 5; go_step)
      refine wp_cond_false (H13.ev (x := .tmp 25) rfl) ?_
      repeat (go_not_at_region 5; go_step)
      refine wp_region_lit ?_
      refine h_op H13 rfl (wn rfl) (R_mv H13 rfl rfl) rfl (P4 15 0 1 5 rfl rfl rfl rfl) fun a14 H14 => ?_
      clear H13
      refine h_op H14 rfl (wn rfl) (R_bin H14 rfl rfl rfl (B_add Tryz.underlying3 _ _ (by omega) (by omega))) rfl (P4 16 0 1 5 rfl rfl rfl rfl) fun a15 H15 => ?_
      clear H14
      refine h_op H15 rfl (wn rfl) (R_as H15 rfl rfl) rfl (P3 5 0 1 rfl rfl rfl) fun a16 H16 => ?_
      clear H15
      refine h_end ?_
      exact ⟨M.length - (j + 1), by omega, (HI.out _ _ _).2 ⟨j + 1, rfl, by omega, eq_next hjl hjn htk he, H16.pick _ (P3 0 1 5 rfl rfl rfl), hL⟩⟩
    · rw [decide_eq_true (show ¬ _ from he)] at H13
      repeat (go_not_at_region 7; go_step)
      refine wp_cond_true (H13.ev (x := .tmp 25) rfl) ?_
      repeat (go_not_at_region 7; go_step)
      refine wp_region_lit ?_
      refine h_op H13 rfl (wn rfl) (R_as H13 rfl rfl) rfl (P1 4 rfl) fun a14 H14 => ?_
      clear H13
      refine h_end ?_
      repeat (go_not_at_region 999; go_step)
      refine H14.ret1 rfl rfl ⟨?_, hL⟩
      rw [decide_eq_false (fun e => he (by simp only [e]))]
  · repeat (go_not_at_region 4; go_step)
    refine wp_region_lit ?_
    refine h_op H0 rfl (wn rfl) (R_mv H0 rfl rfl) rfl (P4 11 0 1 5 rfl rfl rfl rfl) fun a1 H1 => ?_
    clear H0
    refine h_op H1 rfl (wn rfl) (R_mv H1 rfl rfl) rfl (P5 12 11 0 1 5 rfl rfl rfl rfl rfl) fun a2 H2 => ?_
    clear H1
    refine h_op H2 rfl (wn rfl) (R_lenS H2 rfl rfl Tryz.underlying27) rfl (P5 13 11 0 1 5 rfl rfl rfl rfl rfl) fun a3 H3 => ?_
    clear H2
    refine h_op H3 rfl (wn rfl) (R_bin H3 rfl rfl rfl (B_to (y := false) (B_lt Tryz.underlying3 _ _) (decide_eq_false (by omega)))) rfl (P4 14 0 1 5 rfl rfl rfl rfl) fun a4 H4 => ?_
    clear H3
    refine h_end ?_
    repeat (go_not_at_region 8; go_step)
    refine wp_cond_false (H4.ev (x := .tmp 14) rfl) ?_
    repeat (go_not_at_region 8; go_step)
    refine wp_region_lit ?_
    refine h_op H4 rfl (wn rfl) (R_as H4 rfl rfl) rfl (P1 4 rfl) fun a5 H5 => ?_
    clear H4
    refine h_end ?_
    repeat (go_not_at_region 999; go_step)
    refine H5.ret1 rfl rfl ⟨?_, hL⟩
    have ej : j = M.length := by omega
    rw [ej, List.take_length] at htk
    rw [hl, List.take_length] at htk
    rw [decide_eq_true htk]
end
end Go.Proofs.YtnjfjdfjheiocaaGreat
