/-
  agg.Right, in short steps.
-/
import Derived.Test.YtnjfjdfjheiocaaGreatAgP
set_option linter.unusedSimpArgs false
set_option linter.unusedVariables false
namespace Go.Proofs.YtnjfjdfjheiocaaGreat
open Go.RowKit
section
variable {a : A8} {W w : World} {b : Nat}
theorem hist_at (hb : w.heap[b]? = some (.cells a.arr 55 (0, 0))) {j : Nat} (h : j < 4) : w.cell? ((⟨b, 4, none⟩ : Addr).add (j * 1)) = some (.int .i64 (a.h j)) := by
  rw [show (⟨b, 4, none⟩ : Addr).add (j * 1) = ⟨b, 4 + j, none⟩ from by unfold Addr.add; by_cases hk : j = 0 <;> simp [hk], cells_at hb]
  exact arr_h h
theorem hist_at0 (hb : w.heap[b]? = some (.cells a.arr 55 (0, 0))) : w.cell? ((⟨b, 4, none⟩ : Addr).add (0 * 1)) = some (.int .i64 (a.h 0)) := hist_at hb (by decide)
theorem ix_sl {q : Addr} {n c j : Nat} (h : j < n) : (Instr.indexAt 178 (.slice (some q) n c) (.int .i64 (j : Nat))).run Tryz.prog w = .ok (.pointer (some (q.add (j * 1)))) w := by
  simp [go_sem, h]
theorem ix_sl0 {q : Addr} {n c : Nat} (h : 0 < n) : (Instr.indexAt 178 (.slice (some q) n c) (.int .i64 0)).run Tryz.prog w = .ok (.pointer (some (q.add (0 * 1)))) w := ix_sl (j := 0) h
def mnK (f : Nat → Int) : Nat → Int
  | 0 => f 0
  | k + 1 => mnI (mnK f k) (f (k + 1))
set_option maxRecDepth 100000 in
theorem min4_any (hb : W.heap[b]? = some (.cells a.arr 55 (0, 0))) : Calls Tryz.prog 119 #[.slice (some ⟨b, 4, none⟩) 4 4] W fun e w' => e = .returned (.int .i64 (mn4 a.h0 a.h1 a.h2 a.h3)) ∧ w' = W := by
  go_enter Tryz.func119, Tryz.ntmps119
  refine wp_fr (n := 25) (m := [(0, _)]) ⟨rfl, rfl, by intro p hp; simp only [List.mem_cons, List.not_mem_nil, or_false] at hp; rcases hp with rfl <;> rfl⟩ fun a0 H0 => ?_
  repeat (go_not_at_region 0; go_step)
  refine wp_region_lit ?_
  refine us 1 H0 rfl fun _ H1 => ?_
  refine h_end ?_
  repeat (go_not_at_region 1; go_step)
  refine wp_region_lit ?_
  refine uv 2 H1 rfl (lt_f (by decide)) rfl fun _ H2 => ?_
  refine h_end ?_
  repeat (go_not_at_region 3; go_step)
  refine wp_cond_false (H2.ev (x := .tmp 7) rfl) ?_
  repeat (go_not_at_region 3; go_step)
  refine wp_region_lit ?_
  refine uv 1 H2 rfl (ix_sl0 (by decide)) rfl fun _ H3 => ?_
  refine uv 0 H3 rfl (ld1 rfl (hist_at0 hb)) rfl fun _ H4 => ?_
  refine us 1 H4 rfl fun _ H5 => ?_
  refine h_end ?_
  repeat (go_not_at_region 4; go_step)
  refine wp_region_lit ?_
  refine us 1 H5 rfl fun _ H6 => ?_
  refine h_end ?_
  repeat (go_not_at_region 5; go_step)
  obtain ⟨I, hI⟩ : ∃ I : Nat → Act → World → Prop, ∀ n a' w', I n a' w' ↔ ∃ k : Nat, n = 3 - k ∧ k ≤ 3 ∧ Fr a' 25 [(0, .slice (some ⟨b, 4, none⟩) 4 4), (3, .int .i64 (mnK a.h k)), (4, .int .i64 ((k + 1 : Nat) : Int))] ∧ w' = W := ⟨_, fun _ _ _ => Iff.rfl⟩
  have HI := Lib.hid hI
  clear hI
  refine wp_loop_ghost I 3 ((HI.out _ _ _).2 ⟨0, rfl, by decide, H6.pick _ (P3 0 3 4 rfl rfl rfl), rfl⟩) ?_
  intro n a1 wl hi'
  obtain ⟨k, rfl, hk, H0, rfl⟩ := (HI.out _ _ _).1 hi'
  clear hi'
  by_cases hk3 : k < 3
  · repeat (go_not_at_region 5; go_step)
    refine wp_region_lit ?_
    refine uv 3 H0 rfl (lt_t (by omega)) rfl fun _ H1 => ?_
    refine h_end ?_
    repeat (go_not_at_region 7; go_step)
    refine wp_cond_true (H1.ev (x := .tmp 15) rfl) ?_
    repeat (go_not_at_region 7; go_step)
    refine wp_region_lit ?_
    refine uv 3 H1 rfl (ix_sl (by omega)) rfl fun _ H2 => ?_
    refine uv 0 H2 rfl (ld1 rfl (hist_at hb (by omega))) rfl fun _ H3 => ?_
    refine uv 0 H3 rfl mn_i rfl fun _ H4 => ?_
    refine us 1 H4 rfl fun _ H5 => ?_
    refine h_end ?_
    repeat (go_not_at_region 6; go_step)
    refine wp_region_lit ?_
    refine uv 1 H5 rfl (add_i (by omega) (by omega)) rfl fun _ H6 => ?_
    refine us 1 H6 rfl fun _ H7 => ?_
    refine h_end ?_
    exact ⟨3 - (k + 1), by omega, (HI.out _ _ _).2 ⟨k + 1, rfl, by omega, H7.pick _ (P3 0 3 4 rfl rfl rfl), rfl⟩⟩
  · obtain rfl : k = 3 := by omega
    repeat (go_not_at_region 5; go_step)
    refine wp_region_lit ?_
    refine uv 3 H0 rfl (lt_f (by omega)) rfl fun _ H1 => ?_
    refine h_end ?_
    repeat (go_not_at_region 8; go_step)
    refine wp_cond_false (H1.ev (x := .tmp 15) rfl) ?_
    repeat (go_not_at_region 8; go_step)
    refine wp_region_lit ?_
    refine us 2 H1 rfl fun _ H2 => ?_
    refine h_end ?_
    repeat (go_not_at_region 999; go_step)
    exact H2.ret1 rfl rfl ⟨rfl, rfl⟩
theorem idx4_eq {v : Int} {j : Nat} (hj : j < 4) (h : ∀ i, i < j → a.h i ≠ v) (e : a.h j = v) : idx4 v a.h0 a.h1 a.h2 a.h3 = (j : Nat) := by
  unfold idx4
  match j, hj with
  | 0, _ => rw [if_pos (show v = a.h0 from e.symm)]; rfl
  | 1, _ =>
    have h0 : a.h0 ≠ v := h 0 (by decide)
    rw [if_neg (fun e => h0 e.symm), if_pos (show v = a.h1 from e.symm)]; rfl
  | 2, _ =>
    have h0 : a.h0 ≠ v := h 0 (by decide)
    have h1 : a.h1 ≠ v := h 1 (by decide)
    rw [if_neg (fun e => h0 e.symm), if_neg (fun e => h1 e.symm), if_pos (show v = a.h2 from e.symm)]; rfl
  | 3, _ =>
    have h0 : a.h0 ≠ v := h 0 (by decide)
    have h1 : a.h1 ≠ v := h 1 (by decide)
    have h2 : a.h2 ≠ v := h 2 (by decide)
    rw [if_neg (fun e => h0 e.symm), if_neg (fun e => h1 e.symm), if_neg (fun e => h2 e.symm), if_pos (show v = a.h3 from e.symm)]; rfl
theorem idx4_no {v : Int} (h : ∀ i, i < 4 → a.h i ≠ v) : idx4 v a.h0 a.h1 a.h2 a.h3 = -1 := by
  have h0 : a.h0 ≠ v := h 0 (by decide)
  have h1 : a.h1 ≠ v := h 1 (by decide)
  have h2 : a.h2 ≠ v := h 2 (by decide)
  have h3 : a.h3 ≠ v := h 3 (by decide)
  unfold idx4
  rw [if_neg (fun e => h0 e.symm), if_neg (fun e => h1 e.symm), if_neg (fun e => h2 e.symm), if_neg (fun e => h3 e.symm)]
set_option maxRecDepth 100000 in
theorem idx4_any {v : Int} (hb : W.heap[b]? = some (.cells a.arr 55 (0, 0))) : Calls Tryz.prog 130 #[.slice (some ⟨b, 4, none⟩) 4 4, .int .i64 v] W fun e w' => e = .returned (.int .i64 (idx4 v a.h0 a.h1 a.h2 a.h3)) ∧ w' = W := by
  go_enter Tryz.func130, Tryz.ntmps130
  refine wp_fr (n := 19) (m := [(0, _), (1, _)]) ⟨rfl, rfl, by intro p hp; simp only [List.mem_cons, List.not_mem_nil, or_false] at hp; rcases hp with rfl | rfl <;> rfl⟩ fun a0 H0 => ?_
  repeat (go_not_at_region 0; go_step)
  refine wp_region_lit ?_
  refine us 1 H0 rfl fun _ H1 => ?_
  refine h_end ?_
  repeat (go_not_at_region 1; go_step)
  refine wp_region_lit ?_
  refine us 3 H1 rfl fun _ H2 => ?_
  refine h_end ?_
  repeat (go_not_at_region 2; go_step)
  obtain ⟨I, hI⟩ : ∃ I : Nat → Act → World → Prop, ∀ n a' w', I n a' w' ↔ ∃ k : Nat, n = 4 - k ∧ k ≤ 4 ∧ (∀ i, i < k → a.h i ≠ v) ∧ Fr a' 19 [(0, .slice (some ⟨b, 4, none⟩) 4 4), (1, .int .i64 v), (7, .int .i64 4), (8, .int .i64 (k : Nat))] ∧ w' = W := ⟨_, fun _ _ _ => Iff.rfl⟩
  have HI := Lib.hid hI
  clear hI
  refine wp_loop_ghost I 4 ((HI.out _ _ _).2 ⟨0, rfl, by decide, fun i hi => absurd hi (Nat.not_lt_zero i), H2.pick _ (P4 0 1 7 8 rfl rfl rfl rfl), rfl⟩) ?_
  intro n a1 wl hi'
  obtain ⟨k, rfl, hk, hno, H0, rfl⟩ := (HI.out _ _ _).1 hi'
  clear hi'
  by_cases hk4 : k < 4
  · repeat (go_not_at_region 2; go_step)
    refine wp_region_lit ?_
    refine uv 0 H0 rfl (lt_t (by omega)) rfl fun _ H1 => ?_
    refine h_end ?_
    repeat (go_not_at_region 3; go_step)
    refine wp_cond_true (H1.ev (x := .tmp 9) rfl) ?_
    repeat (go_not_at_region 3; go_step)
    refine wp_region_lit ?_
    refine us 2 H1 rfl fun _ H2 => ?_
    refine h_end ?_
    repeat (go_not_at_region 4; go_step)
    refine wp_region_lit ?_
    refine uv 3 H2 rfl (ix_sl (by omega)) rfl fun _ H3 => ?_
    refine uv 0 H3 rfl (ld1 rfl (hist_at hb (by omega))) rfl fun _ H4 => ?_
    by_cases he : a.h k = v
    · refine uv 0 H4 rfl (eq_t he.symm) rfl fun _ H5 => ?_
      refine h_end ?_
      repeat (go_not_at_region 5; go_step)
      refine wp_cond_true (H5.ev (x := .tmp 16) rfl) ?_
      repeat (go_not_at_region 5; go_step)
      refine wp_region_lit ?_
      refine us 2 H5 rfl fun _ H6 => ?_
      refine h_end ?_
      repeat (go_not_at_region 999; go_step)
      exact H6.ret1 rfl rfl ⟨by rw [idx4_eq hk4 hno he], rfl⟩
    · refine uv 0 H4 rfl (eq_f (fun e => he e.symm)) rfl fun _ H5 => ?_
      refine h_end ?_
      repeat (go_not_at_region 6; go_step)
      refine wp_cond_false (H5.ev (x := .tmp 16) rfl) ?_
      repeat (go_not_at_region 6; go_step)
      refine wp_region_lit ?_
      refine uv 0 H5 rfl (add_i (by omega) (by omega)) rfl fun _ H6 => ?_
      refine us 1 H6 rfl fun _ H7 => ?_
      refine h_end ?_
      refine ⟨4 - (k + 1), by omega, (HI.out _ _ _).2 ⟨k + 1, rfl, by omega, fun i hi => ?_, H7.pick _ (P4 0 1 7 8 rfl rfl rfl rfl), rfl⟩⟩
      rcases Nat.lt_or_ge i k with h | h
      · exact hno i h
      · rw [show i = k by omega]; exact he
  · obtain rfl : k = 4 := by omega
    repeat (go_not_at_region 2; go_step)
    refine wp_region_lit ?_
    refine uv 0 H0 rfl (lt_f (by omega)) rfl fun _ H1 => ?_
    refine h_end ?_
    repeat (go_not_at_region 7; go_step)
    refine wp_cond_false (H1.ev (x := .tmp 9) rfl) ?_
    repeat (go_not_at_region 7; go_step)
    refine wp_region_lit ?_
    refine us 1 H1 rfl fun _ H2 => ?_
    refine h_end ?_
    repeat (go_not_at_region 999; go_step)
    exact H2.ret1 rfl rfl ⟨by rw [idx4_no hno], rfl⟩
set_option maxRecDepth 100000 in
theorem contains4_any {v : Int} (hb : W.heap[b]? = some (.cells a.arr 55 (0, 0))) : Calls Tryz.prog 120 #[.slice (some ⟨b, 4, none⟩) 4 4, .int .i64 v] W fun e w' => e = .returned (.bool (decide (idx4 v a.h0 a.h1 a.h2 a.h3 ≥ 0))) ∧ w' = W := by
  go_enter Tryz.func120, Tryz.ntmps120
  refine wp_fr (n := 9) (m := [(0, _), (1, _)]) ⟨rfl, rfl, by intro p hp; simp only [List.mem_cons, List.not_mem_nil, or_false] at hp; rcases hp with rfl | rfl <;> rfl⟩ fun a0 H0 => ?_
  repeat (go_not_at_region 0; go_step)
  refine wp_region_lit ?_
  refine us 1 H0 rfl fun _ H1 => ?_
  refine h_end ?_
  repeat (go_not_at_region 1; go_step)
  refine wp_region_lit ?_
  refine uc 2 H1 rfl (by kernel_rfl) (idx4_any hb) ?_
  rintro e w2 ⟨rfl, rfl⟩
  refine ⟨_, rfl, _, rfl, fun _ H2 => ?_⟩
  refine us 2 H2 rfl fun _ H3 => ?_
  refine h_end ?_
  repeat (go_not_at_region 999; go_step)
  exact H3.ret1 rfl rfl ⟨rfl, rfl⟩
end
end Go.Proofs.YtnjfjdfjheiocaaGreat
