/-
  agg.Right: the walk.
-/
import Derived.Test.YtnjfjdfjheiocaaGreatShX
import Derived.Test.YtnjfjdfjheiocaaGreatAgR
import Derived.Test.YtnjfjdfjheiocaaGreatTabL
set_option linter.unusedSimpArgs false
set_option linter.unusedVariables false
namespace Go.Proofs.YtnjfjdfjheiocaaGreat
open Go.RowKit
section
variable {a : A8} {W w : World} {b : Nat}
set_option maxRecDepth 100000 in
theorem B_eag {A B : Operand} (p q : A8) : (EOp.bin .eql 55 A B (.agg p.arr) (.agg q.arr)).run.run Tryz.prog w = .ok (.bool (decide (p = q))) w := by
  obtain ⟨p2, p3, p4, p5, p6, p7, p8, p9⟩ := p
  obtain ⟨q2, q3, q4, q5, q6, q7, q8, q9⟩ := q
  unfold A8.arr
  simp [go_sem, eq_hist 9997]
  by_cases h2 : p2 = q2 <;> by_cases h3 : p3 = q3 <;> by_cases h4 : p4 = q4 <;> by_cases h5 : p5 = q5 <;> simp [h2, h3, h4, h5]
  all_goals
    by_cases h6 : p6 = q6 <;> by_cases h7 : p7 = q7 <;> by_cases h8 : p8 = q8 <;> by_cases h9 : p9 = q9 <;> simp [h6, h7, h8, h9]
theorem bd_az : (Instr.build 55 #[]).run Tryz.prog w = .ok (.agg A8.zero.arr) w := by
  simp [go_sem]
  rfl
theorem sl_h4 : (Instr.sliceAt 53 (.pointer (some ⟨b, 4, none⟩)) none none none).run Tryz.prog w = .ok (.slice (some ⟨b, 4, none⟩) 4 4) w := by simp [go_sem]
theorem h4_cells (h : w.heap[b]? = some (.cells a.arr 55 (0, 0))) : ∀ (j : Nat) u, (#[.int .i64 a.h0, .int .i64 a.h1, .int .i64 a.h2, .int .i64 a.h3] : Array Value)[j]? = some u → w.cell? ((⟨b, 4, none⟩ : Addr).add j) = some u := by
  intro j u hu
  rw [show (⟨b, 4, none⟩ : Addr).add j = ⟨b, 4 + j, none⟩ from by unfold Addr.add; by_cases hk : j = 0 <;> simp [hk], cells_at h]
  have hj : j < 4 := by
    have := (Array.getElem?_eq_some_iff.1 hu).1
    simpa using this
  match j, hj with
  | 0, _ | 1, _ | 2, _ | 3, _ => exact hu
set_option maxRecDepth 100000 in
theorem ix4h {k : Nat} (h : k < 4) : (Instr.index 53 (.agg #[.int .i64 a.h0, .int .i64 a.h1, .int .i64 a.h2, .int .i64 a.h3]) (.int .i64 (k : Nat))).run Tryz.prog w = .ok (.int .i64 (a.h k)) w := by
  match k, h with
  | 0, _ => exact (by kernel_rfl : (Instr.index 53 (.agg #[.int .i64 a.h0, .int .i64 a.h1, .int .i64 a.h2, .int .i64 a.h3]) (.int .i64 0)).run Tryz.prog w = .ok (.int .i64 a.h0) w)
  | 1, _ => exact (by kernel_rfl : (Instr.index 53 (.agg #[.int .i64 a.h0, .int .i64 a.h1, .int .i64 a.h2, .int .i64 a.h3]) (.int .i64 1)).run Tryz.prog w = .ok (.int .i64 a.h1) w)
  | 2, _ => exact (by kernel_rfl : (Instr.index 53 (.agg #[.int .i64 a.h0, .int .i64 a.h1, .int .i64 a.h2, .int .i64 a.h3]) (.int .i64 2)).run Tryz.prog w = .ok (.int .i64 a.h2) w)
  | 3, _ => exact (by kernel_rfl : (Instr.index 53 (.agg #[.int .i64 a.h0, .int .i64 a.h1, .int .i64 a.h2, .int .i64 a.h3]) (.int .i64 3)).run Tryz.prog w = .ok (.int .i64 a.h3) w)
theorem decide3 {p q r : Prop} [Decidable p] [Decidable q] [Decidable r] : decide (p ∧ q ∧ r) = (decide p && (decide q && decide r)) := by simp only [Bool.decide_and]
set_option maxRecDepth 100000 in
set_option maxHeartbeats 1000000 in
theorem right8_any (a : A8) (W : World) : Calls Tryz.prog 99 #[.agg a.arr] W fun e w' => e = .returned (.bool (rightB a)) ∧ Below W.heap.size W w' := by
  obtain ⟨y, hy⟩ : ∃ y, y = rightB a := ⟨_, rfl⟩
  rw [← hy]
  unfold rightB at hy
  have hL := Live.init W
  go_enter Tryz.func99, Tryz.ntmps99
  refine wp_fr (n := 67) (m := [(0, _)]) ⟨rfl, rfl, by intro p hp; simp only [List.mem_cons, List.not_mem_nil, or_false] at hp; rcases hp with rfl <;> rfl⟩ fun a0 H0 => ?_
  repeat (go_not_at_region 0; go_step)
  refine wp_region_lit ?_
  refine uvL 0 H0 rfl bx_ag (hL.alloc _ _) rfl fun _ w1 H1 hL => ?_
  refine us 1 H1 rfl fun _ H2 => ?_
  refine h_end ?_
  obtain ⟨g, hg⟩ : ∃ g, g = W.heap.size := ⟨_, rfl⟩
  rw [← hg] at H2 hL
  clear hg
  have hb := hL.at_
  by_cases hc : a.c = 0
  · repeat (go_not_at_region 1; go_step)
    refine wp_region_lit ?_
    refine uv 1 H2 rfl (ld1 rfl (cells_at hb 0)) rfl fun _ H3 => ?_
    refine uv 0 H3 rfl (eq_t hc) rfl fun _ H4 => ?_
    refine h_end ?_
    repeat (go_not_at_region 2; go_step)
    refine wp_cond_true (H4.ev (x := .tmp 10) rfl) ?_
    repeat (go_not_at_region 2; go_step)
    refine wp_region_lit ?_
    refine uv 0 H4 rfl (ldb rfl hb) rfl fun _ H5 => ?_
    refine uv 0 H5 rfl bd_az rfl fun _ H6 => ?_
    refine uv 0 H6 rfl (B_eag a A8.zero) rfl fun _ H7 => ?_
    refine us 1 H7 rfl fun _ H8 => ?_
    refine h_end ?_
    repeat (go_not_at_region 999; go_step)
    refine H8.ret1 rfl rfl ⟨?_, hL.1⟩
    rw [if_pos hc] at hy
    rw [hy]
    refine congrArg (fun b => Ending.returned (Value.bool b)) (decide_eq_decide.2 ?_)
    obtain ⟨x0, x1, x2, x3, x4, x5, x6, x7⟩ := a
    unfold A8.zero
    simp only at hc
    subst hc
    simp only [A8.mk.injEq, true_and]
  rw [if_neg hc] at hy
  repeat (go_not_at_region 1; go_step)
  refine wp_region_lit ?_
  refine uv 1 H2 rfl (ld1 rfl (cells_at hb 0)) rfl fun _ H3 => ?_
  refine uv 0 H3 rfl (eq_f hc) rfl fun _ H4 => ?_
  refine h_end ?_
  repeat (go_not_at_region 3; go_step)
  refine wp_cond_false (H4.ev (x := .tmp 10) rfl) ?_
  repeat (go_not_at_region 3; go_step)
  refine wp_region_lit ?_
  by_cases h1 : a.c < 0
  · refine uv 1 H4 rfl (ld1 rfl (cells_at hb 0)) rfl fun _ H5 => ?_
    refine uv 0 H5 rfl (lt_t h1) rfl fun _ H6 => ?_
    refine us 13 H6 rfl fun _ H7 => ?_
    refine h_end ?_
    repeat (go_not_at_region 4; go_step)
    refine wp_cond_true (H7.ev (x := .tmp 29) rfl) ?_
    repeat (go_not_at_region 4; go_step)
    refine wp_region_lit ?_
    refine us 1 H7 rfl fun _ H8 => ?_
    refine h_end ?_
    repeat (go_not_at_region 999; go_step)
    exact H8.ret1 rfl rfl ⟨by rw [hy, if_pos (.inl h1)], hL.1⟩
  by_cases h2 : a.mx < a.mn
  · refine uv 1 H4 rfl (ld1 rfl (cells_at hb 0)) rfl fun _ H5 => ?_
    refine uv 0 H5 rfl (lt_f h1) rfl fun _ H6 => ?_
    refine uv 2 H6 rfl (ld1 rfl (cells_at hb 2)) rfl fun _ H7 => ?_
    refine uv 1 H7 rfl (ld1 rfl (cells_at hb 3)) rfl fun _ H8 => ?_
    refine uv 0 H8 rfl (gt_t h2) rfl fun _ H9 => ?_
    refine us 7 H9 rfl fun _ H10 => ?_
    refine h_end ?_
    repeat (go_not_at_region 4; go_step)
    refine wp_cond_true (H10.ev (x := .tmp 29) rfl) ?_
    repeat (go_not_at_region 4; go_step)
    refine wp_region_lit ?_
    refine us 1 H10 rfl fun _ H11 => ?_
    refine h_end ?_
    repeat (go_not_at_region 999; go_step)
    exact H11.ret1 rfl rfl ⟨by rw [hy, if_pos (.inr (.inl h2))], hL.1⟩
  by_cases h3 : mn4 a.h0 a.h1 a.h2 a.h3 < 0
  · refine uv 1 H4 rfl (ld1 rfl (cells_at hb 0)) rfl fun _ H5 => ?_
    refine uv 0 H5 rfl (lt_f h1) rfl fun _ H6 => ?_
    refine uv 2 H6 rfl (ld1 rfl (cells_at hb 2)) rfl fun _ H7 => ?_
    refine uv 1 H7 rfl (ld1 rfl (cells_at hb 3)) rfl fun _ H8 => ?_
    refine uv 0 H8 rfl (gt_f h2) rfl fun _ H9 => ?_
    refine uv 3 H9 rfl sl_h4 rfl fun _ H10 => ?_
    refine uc 0 H10 rfl (by kernel_rfl) (min4_any hb) ?_
    rintro e w11 ⟨rfl, hw⟩
    rw [← hw] at hL hb
    refine ⟨_, rfl, _, rfl, fun _ H11 => ?_⟩
    refine uv 0 H11 rfl (lt_t h3) rfl fun _ H12 => ?_
    refine us 1 H12 rfl fun _ H13 => ?_
    refine h_end ?_
    repeat (go_not_at_region 4; go_step)
    refine wp_cond_true (H13.ev (x := .tmp 29) rfl) ?_
    repeat (go_not_at_region 4; go_step)
    refine wp_region_lit ?_
    refine us 1 H13 rfl fun _ H14 => ?_
    refine h_end ?_
    repeat (go_not_at_region 999; go_step)
    exact H14.ret1 rfl rfl ⟨by rw [hy, if_pos (.inr (.inr h3))], hL.1⟩
  have hno : ¬ (a.c < 0 ∨ a.mx < a.mn ∨ mn4 a.h0 a.h1 a.h2 a.h3 < 0) := by rintro (h | h | h) <;> contradiction
  rw [if_neg hno] at hy
  refine uv 1 H4 rfl (ld1 rfl (cells_at hb 0)) rfl fun _ H5 => ?_
  refine uv 0 H5 rfl (lt_f h1) rfl fun _ H6 => ?_
  refine uv 2 H6 rfl (ld1 rfl (cells_at hb 2)) rfl fun _ H7 => ?_
  refine uv 1 H7 rfl (ld1 rfl (cells_at hb 3)) rfl fun _ H8 => ?_
  refine uv 0 H8 rfl (gt_f h2) rfl fun _ H9 => ?_
  refine uv 3 H9 rfl sl_h4 rfl fun _ H10 => ?_
  refine uc 0 H10 rfl (by kernel_rfl) (min4_any hb) ?_
  rintro e w11 ⟨rfl, hw⟩
  rw [← hw] at hL hb
  refine ⟨_, rfl, _, rfl, fun _ H11 => ?_⟩
  refine uv 0 H11 rfl (lt_f h3) rfl fun _ H12 => ?_
  refine us 1 H12 rfl fun _ H13 => ?_
  refine h_end ?_
  repeat (go_not_at_region 5; go_step)
  refine wp_cond_false (H13.ev (x := .tmp 29) rfl) ?_
  repeat (go_not_at_region 5; go_step)
  refine wp_region_lit ?_
  refine uv 1 H13 rfl sl_h4 rfl fun _ H14 => ?_
  refine uc 0 H14 rfl (by kernel_rfl) (contains4_any hb) ?_
  rintro e w15 ⟨rfl, hw⟩
  rw [← hw] at hL hb
  refine ⟨_, rfl, _, rfl, fun _ H15 => ?_⟩
  refine h_end ?_
  by_cases h4 : 0 ≤ idx4 9223372036854775807 a.h0 a.h1 a.h2 a.h3
  · rw [decide_eq_true (show idx4 9223372036854775807 a.h0 a.h1 a.h2 a.h3 ≥ 0 from h4)] at H15
    repeat (go_not_at_region 6; go_step)
    refine wp_cond_true (H15.ev (x := .tmp 32) rfl) ?_
    repeat (go_not_at_region 6; go_step)
    refine wp_region_lit ?_
    refine us 1 H15 rfl fun _ H16 => ?_
    refine h_end ?_
    repeat (go_not_at_region 999; go_step)
    exact H16.ret1 rfl rfl ⟨by rw [hy, if_pos h4], hL.1⟩
  rw [if_neg h4] at hy
  rw [decide_eq_false (show ¬ idx4 9223372036854775807 a.h0 a.h1 a.h2 a.h3 ≥ 0 from h4)] at H15
  repeat (go_not_at_region 7; go_step)
  refine wp_cond_false (H15.ev (x := .tmp 32) rfl) ?_
  repeat (go_not_at_region 7; go_step)
  refine wp_region_lit ?_
  refine us 1 H15 rfl fun _ H16 => ?_
  refine h_end ?_
  repeat (go_not_at_region 8; go_step)
  refine wp_region_lit ?_
  refine us 2 H16 rfl fun _ H17 => ?_
  refine h_end ?_
  repeat (go_not_at_region 9; go_step)
  refine wp_region_lit ?_
  refine uv 1 H17 rfl (ldr rfl (h4_cells hb)) rfl fun _ H18 => ?_
  refine us 1 H18 rfl fun _ H19 => ?_
  refine h_end ?_
  repeat (go_not_at_region 10; go_step)
  obtain ⟨I, hI⟩ : ∃ I : Nat → Act → World → Prop, ∀ n a' w', I n a' w' ↔ ∃ k : Nat, n = 4 - k ∧ k ≤ 4 ∧ Fr a' 67 [(1, .pointer (some ⟨g, 0, none⟩)), (3, .int .i64 (sumK a k)), (4, .int .i64 (lowK a k)), (5, .int .i64 (highK a k)), (34, .agg #[.int .i64 a.h0, .int .i64 a.h1, .int .i64 a.h2, .int .i64 a.h3]), (35, .int .i64 (k : Nat))] ∧ Live W [(g, a.arr, 55)] w' := ⟨_, fun _ _ _ => Iff.rfl⟩
  have HI := Lib.hid hI
  clear hI
  refine wp_loop_ghost I 4 ((HI.out _ _ _).2 ⟨0, rfl, by decide, H19.pick _ (P6 1 3 4 5 34 35 rfl rfl rfl rfl rfl rfl), hL⟩) ?_
  clear hL hb
  intro n a1 wl hi'
  obtain ⟨k, rfl, hk, H0, hL⟩ := (HI.out _ _ _).1 hi'
  clear hi'
  have hb := hL.at_
  by_cases hk4 : k < 4
  · repeat (go_not_at_region 10; go_step)
    refine wp_region_lit ?_
    refine uv 0 H0 rfl (lt_t (by omega)) rfl fun _ H1 => ?_
    refine h_end ?_
    repeat (go_not_at_region 11; go_step)
    refine wp_cond_true (H1.ev (x := .tmp 36) rfl) ?_
    repeat (go_not_at_region 11; go_step)
    refine wp_region_lit ?_
    refine uv 1 H1 rfl (ix4h hk4) rfl fun _ H2 => ?_
    refine us 2 H2 rfl fun _ H3 => ?_
    refine h_end ?_
    repeat (go_not_at_region 12; go_step)
    refine wp_region_lit ?_
    refine uc 2 H3 rfl (by kernel_rfl) (plus_any (sumK a k) (a.h k) _) ?_
    rintro e w4 ⟨rfl, hw⟩
    rw [hw] at hL hb
    refine ⟨_, rfl, _, rfl, fun _ H4 => ?_⟩
    refine us 1 H4 rfl fun _ H5 => ?_
    refine h_end ?_
    repeat (go_not_at_region 13; go_step)
    refine wp_region_lit ?_
    by_cases hp : 0 < a.h k
    · refine uv 1 H5 rfl (gt_t hp) rfl fun _ H6 => ?_
      refine h_end ?_
      repeat (go_not_at_region 14; go_step)
      refine wp_cond_true (H6.ev (x := .tmp 43) rfl) ?_
      repeat (go_not_at_region 14; go_step)
      refine wp_region_lit ?_
      refine uv 2 H6 rfl mn_i rfl fun _ H7 => ?_
      refine us 3 H7 rfl fun _ H8 => ?_
      refine h_end ?_
      repeat (go_not_at_region 15; go_step)
      refine wp_region_lit ?_
      refine uv 0 H8 rfl (add_i (by omega) (by omega)) rfl fun _ H9 => ?_
      refine us 1 H9 rfl fun _ H10 => ?_
      refine h_end ?_
      refine ⟨4 - (k + 1), by omega, (HI.out _ _ _).2 ⟨k + 1, rfl, by omega, ?_, hL⟩⟩
      rw [show sumK a (k + 1) = plusW (sumK a k) (a.h k) from rfl, show lowK a (k + 1) = mnI (lowK a k) k from if_pos hp, show highK a (k + 1) = k from if_pos hp]
      exact H10.pick _ (P6 1 3 4 5 34 35 rfl rfl rfl rfl rfl rfl)
    · refine uv 1 H5 rfl (gt_f hp) rfl fun _ H6 => ?_
      refine h_end ?_
      repeat (go_not_at_region 15; go_step)
      refine wp_cond_false (H6.ev (x := .tmp 43) rfl) ?_
      try refine wp_skip ?_
      repeat (go_not_at_region 15; go_step)
      refine wp_region_lit ?_
      refine uv 0 H6 rfl (add_i (by omega) (by omega)) rfl fun _ H7 => ?_
      refine us 1 H7 rfl fun _ H8 => ?_
      refine h_end ?_
      refine ⟨4 - (k + 1), by omega, (HI.out _ _ _).2 ⟨k + 1, rfl, by omega, ?_, hL⟩⟩
      rw [show sumK a (k + 1) = plusW (sumK a k) (a.h k) from rfl, show lowK a (k + 1) = lowK a k from if_neg hp, show highK a (k + 1) = highK a k from if_neg hp]
      exact H8.pick _ (P6 1 3 4 5 34 35 rfl rfl rfl rfl rfl rfl)
  · obtain rfl : k = 4 := by omega
    rw [decide3] at hy
    repeat (go_not_at_region 10; go_step)
    refine wp_region_lit ?_
    refine uv 0 H0 rfl (lt_f (by omega)) rfl fun _ H1 => ?_
    refine h_end ?_
    repeat (go_not_at_region 16; go_step)
    refine wp_cond_false (H1.ev (x := .tmp 36) rfl) ?_
    repeat (go_not_at_region 16; go_step)
    refine wp_region_lit ?_
    by_cases q1 : sumK a 4 = a.c
    rotate_left
    · refine uv 2 H1 rfl (ld1 rfl (cells_at hb 0)) rfl fun _ H2 => ?_
      refine uv 0 H2 rfl (eq_f q1) rfl fun _ H3 => ?_
      refine us 15 H3 rfl fun _ H4 => ?_
      refine h_end ?_
      repeat (go_not_at_region 999; go_step)
      exact H4.ret1 rfl rfl ⟨by rw [hy, decide_eq_false q1]; rfl, hL.1⟩
    by_cases q2 : lowK a 4 = bucketW a.mn
    rotate_left
    · refine uv 2 H1 rfl (ld1 rfl (cells_at hb 0)) rfl fun _ H2 => ?_
      refine uv 0 H2 rfl (eq_t q1) rfl fun _ H3 => ?_
      refine uv 3 H3 rfl (ld1 rfl (cells_at hb 2)) rfl fun _ H4 => ?_
      refine uc 0 H4 rfl (by kernel_rfl) (bucket_any a.mn _) ?_
      rintro e w5 ⟨rfl, hw⟩
      rw [hw] at hL hb
      refine ⟨_, rfl, _, rfl, fun _ H5 => ?_⟩
      refine uv 0 H5 rfl (eq_f q2) rfl fun _ H6 => ?_
      refine us 9 H6 rfl fun _ H7 => ?_
      refine h_end ?_
      repeat (go_not_at_region 999; go_step)
      exact H7.ret1 rfl rfl ⟨by rw [hy, decide_eq_false q2, Bool.false_and, Bool.and_false], hL.1⟩
    by_cases q3 : highK a 4 = bucketW a.mx
    rotate_left
    · refine uv 2 H1 rfl (ld1 rfl (cells_at hb 0)) rfl fun _ H2 => ?_
      refine uv 0 H2 rfl (eq_t q1) rfl fun _ H3 => ?_
      refine uv 3 H3 rfl (ld1 rfl (cells_at hb 2)) rfl fun _ H4 => ?_
      refine uc 0 H4 rfl (by kernel_rfl) (bucket_any a.mn _) ?_
      rintro e w5 ⟨rfl, hw⟩
      rw [hw] at hL hb
      refine ⟨_, rfl, _, rfl, fun _ H5 => ?_⟩
      refine uv 0 H5 rfl (eq_t q2) rfl fun _ H6 => ?_
      refine uv 4 H6 rfl (ld1 rfl (cells_at hb 3)) rfl fun _ H7 => ?_
      refine uc 0 H7 rfl (by kernel_rfl) (bucket_any a.mx _) ?_
      rintro e w8 ⟨rfl, hw⟩
      rw [hw] at hL hb
      refine ⟨_, rfl, _, rfl, fun _ H8 => ?_⟩
      refine uv 0 H8 rfl (eq_f q3) rfl fun _ H9 => ?_
      refine us 2 H9 rfl fun _ H10 => ?_
      refine h_end ?_
      repeat (go_not_at_region 999; go_step)
      exact H10.ret1 rfl rfl ⟨by rw [hy, decide_eq_false q3, Bool.and_false, Bool.and_false], hL.1⟩
    refine uv 2 H1 rfl (ld1 rfl (cells_at hb 0)) rfl fun _ H2 => ?_
    refine uv 0 H2 rfl (eq_t q1) rfl fun _ H3 => ?_
    refine uv 3 H3 rfl (ld1 rfl (cells_at hb 2)) rfl fun _ H4 => ?_
    refine uc 0 H4 rfl (by kernel_rfl) (bucket_any a.mn _) ?_
    rintro e w5 ⟨rfl, hw⟩
    rw [hw] at hL hb
    refine ⟨_, rfl, _, rfl, fun _ H5 => ?_⟩
    refine uv 0 H5 rfl (eq_t q2) rfl fun _ H6 => ?_
    refine uv 4 H6 rfl (ld1 rfl (cells_at hb 3)) rfl fun _ H7 => ?_
    refine uc 0 H7 rfl (by kernel_rfl) (bucket_any a.mx _) ?_
    rintro e w8 ⟨rfl, hw⟩
    rw [hw] at hL hb
    refine ⟨_, rfl, _, rfl, fun _ H8 => ?_⟩
    refine uv 0 H8 rfl (eq_t q3) rfl fun _ H9 => ?_
    refine us 2 H9 rfl fun _ H10 => ?_
    refine h_end ?_
    repeat (go_not_at_region 999; go_step)
    exact H10.ret1 rfl rfl ⟨by rw [hy, decide_eq_true q1, decide_eq_true q2, decide_eq_true q3]; rfl, hL.1⟩
end
end Go.Proofs.YtnjfjdfjheiocaaGreat
