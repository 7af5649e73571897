/-
  DigestMarks: the law's walk.
-/
import Derived.Test.YtnjfjdfjheiocaaGreatDgB
set_option linter.unusedSimpArgs false
set_option linter.unusedVariables false
namespace Go.Proofs.YtnjfjdfjheiocaaGreat
open Go.RowKit
theorem play_ok {n : Nat} {S : PSt} (h : SOk n S) : ∀ (l : List PItem), SOk (n + l.length) (playM S l).2 := by
  intro l
  induction l generalizing n S with
  | nil => exact h
  | cons x l ih =>
    have := ih (apply_ok x h)
    unfold playM
    rw [List.length_cons, show n + (l.length + 1) = n + 1 + l.length by omega]
    exact this
theorem play_sv {n : Nat} {S : PSt} (h : SV n S) : ∀ (l : List PItem), (∀ x ∈ l, -9223372036854775808 ≤ x.n ∧ x.n < 9223372036854775808) → n + l.length < 4611686018427387900 → SV (n + l.length) (playM S l).2 := by
  intro l
  induction l generalizing n S with
  | nil => intro _ _; exact h
  | cons x l ih =>
    intro hx hn
    rw [List.length_cons] at hn
    have h1 := hx x List.mem_cons_self
    have := ih (apply_sv (x := x) h h1.1 h1.2 (by omega)) (fun y hy => hx y (List.mem_cons_of_mem _ hy)) (by omega)
    unfold playM
    rw [List.length_cons, show n + (l.length + 1) = n + 1 + l.length by omega]
    exact this
theorem sameS_refl {S : PSt} : sameS S S = true := by simp [sameS]
section
variable {W w : World} {t : TypeId} {A B : Operand}
theorem eq_comm_b {x y : Int} : decide (x = y) = (y == x) := by
  by_cases h : x = y
  · subst h; simp
  · have : ¬ y = x := fun e => h e.symm
    simp [h, this]
theorem eq_comm_n {x y : Nat} : decide (x = y) = ((y : Int) == (x : Int)) := by
  by_cases h : x = y
  · subst h; simp
  · have : ¬ y = x := fun e => h e.symm
    simp [h]
    omega
theorem beq_t {a b : Bool} (h : a = b) : (EOp.bin .eql 4 A B (.bool a) (.bool b)).run.run Tryz.prog w = .ok (.bool true) w := by
  subst h
  cases a <;> simp [go_sem]
set_option maxRecDepth 100000 in
set_option maxHeartbeats 1000000 in
theorem marks_any {v : Value} {l : List PItem} {pn : Nat} {m : Int} (hl : RdC W 8 v (l.map itC)) (hll : l.length ≤ maxLen) (hx : ∀ x ∈ l, -9223372036854775808 ≤ x.n ∧ x.n < 9223372036854775808) : Calls Tryz.prog 7 #[v, .int .u64 (pn : Nat), .int .i64 m] W fun e W' => e = .returned (.bool true) ∧ Below W.heap.size W W' := by
  obtain ⟨q, c, rfl⟩ := hl.slc
  rw [List.length_map] at hl ⊢
  have hRl : ∀ w L, LV W L w → RdC w 8 (.slice q l.length c) (l.map itC) := fun w L h => hl.kept h.1.block
  have hgr := great_any hl hll
  clear hl
  have hL := LV.init W
  go_enter Tryz.func7, Tryz.ntmps7
  refine wp_fr (n := 69) (m := [(0, _), (1, _), (2, _)]) ⟨rfl, rfl, by intro p hp; simp only [List.mem_cons, List.not_mem_nil, or_false] at hp; rcases hp with rfl | rfl | rfl <;> rfl⟩ fun a0 H0 => ?_
  repeat (go_not_at_region 0; go_step)
  refine wp_region_lit ?_
  refine us 1 H0 rfl fun _ H1 => ?_
  refine h_end ?_
  repeat (go_not_at_region 1; go_step)
  refine wp_region_lit ?_
  refine uc 1 H1 rfl (by kernel_rfl) (hgr) ?_
  rintro e w2 ⟨b0, rfl, hw, hb0⟩
  replace hL := hL.eqw hw
  refine ⟨_, rfl, _, rfl, fun _ H2 => ?_⟩
  refine h_end ?_
  cases b0
  rotate_left
  · repeat (go_not_at_region 2; go_step)
    refine wp_cond_true (H2.ev (x := .tmp 14) rfl) ?_
    repeat (go_not_at_region 2; go_step)
    refine wp_region_lit ?_
    refine uc 0 H2 rfl (by kernel_rfl) (dwakes_ok) ?_
    rintro e w3 ⟨rfl, hb⟩
    replace hL := hL.call hb
    refine ⟨_, rfl, _, rfl, fun _ H3 => ?_⟩
    refine us 1 H3 rfl fun _ H4 => ?_
    refine h_end ?_
    repeat (go_not_at_region 999; go_step)
    exact H4.ret1 rfl rfl ⟨rfl, hL.1⟩
  obtain ⟨hs1, hs2⟩ := hb0 rfl
  repeat (go_not_at_region 3; go_step)
  refine wp_cond_false (H2.ev (x := .tmp 14) rfl) ?_
  repeat (go_not_at_region 3; go_step)
  refine wp_region_lit ?_
  refine uc 0 H2 rfl (by kernel_rfl) (shnew_any hL) ?_
  rintro e w3 ⟨A, rfl, hL⟩
  refine ⟨_, rfl, _, rfl, fun _ H3 => ?_⟩
  refine us 1 H3 rfl fun _ H4 => ?_
  refine h_end ?_
  repeat (go_not_at_region 4; go_step)
  refine wp_region_lit ?_
  refine us 1 H4 rfl fun _ H5 => ?_
  refine h_end ?_
  repeat (go_not_at_region 5; go_step)
  obtain ⟨I, hI⟩ : ∃ I : Nat → Act → World → Prop, ∀ n a' w', I n a' w' ↔ ∃ j : Nat, n = l.length - j ∧ j ≤ l.length ∧ Fr a' 69 [(0, .slice q l.length c), (1, .int .u64 (pn : Nat)), (2, .int .i64 m), (7, .pointer (some ⟨A.g, 0, none⟩)), (8, .int .i64 (j : Nat))] ∧ LV W (stT A (playM newM (l.take j)).2 []) w' := ⟨_, fun _ _ _ => Iff.rfl⟩
  have HI := Lib.hid hI
  clear hI
  refine wp_loop_ghost I l.length ((HI.out _ _ _).2 ⟨0, rfl, Nat.zero_le _, H5.pick _ (P5 0 1 2 7 8 rfl rfl rfl rfl rfl), hL⟩) ?_
  clear hL
  intro n a1 wl hi'
  obtain ⟨j, rfl, hj, H0, hL⟩ := (HI.out _ _ _).1 hi'
  clear hi'
  by_cases hjl : j < l.length
  · have hoj := play_ok (sok_new) (l.take j)
    rw [List.length_take] at hoj
    obtain ⟨ad, hq, hc⟩ := (hRl _ _ hL).elem (List.length_map _) hjl
    rw [List.getElem_map] at hc
    repeat (go_not_at_region 5; go_step)
    refine wp_region_lit ?_
    refine uv 3 H0 rfl (lt_t (by omega)) rfl fun _ H1 => ?_
    refine h_end ?_
    repeat (go_not_at_region 7; go_step)
    refine wp_cond_true (H1.ev (x := .tmp 20) rfl) ?_
    repeat (go_not_at_region 7; go_step)
    refine wp_region_lit ?_
    refine uv 3 H1 rfl (by rw [hq]; exact ix_itA hjl) rfl fun _ H2 => ?_
    refine uv 0 H2 rfl (ld_itA hc) rfl fun _ H3 => ?_
    refine uc 0 H3 rfl (by kernel_rfl) (apply_any (x := l[j]) hL (Nat.le_trans (hs2 _ (List.getElem_mem hjl)) (by decide)) (by have := hoj.ml; omega) (fun i => by have := hoj.cl i; omega)) ?_
    rintro e w4 ⟨v1, X1, rfl, hr1, hL2⟩
    have hL := LV.dropl hL2
    refine ⟨_, rfl, _, rfl, fun _ H4 => ?_⟩
    refine h_end ?_
    repeat (go_not_at_region 6; go_step)
    refine wp_region_lit ?_
    refine uv 1 H4 rfl (add_i (by omega) (by omega)) rfl fun _ H5 => ?_
    refine us 1 H5 rfl fun _ H6 => ?_
    refine h_end ?_
    refine ⟨l.length - (j + 1), by omega, (HI.out _ _ _).2 ⟨j + 1, rfl, by omega, H6.pick _ (P5 0 1 2 7 8 rfl rfl rfl rfl rfl), ?_⟩⟩
    rw [play_take hjl]
    exact hL
  · obtain rfl : j = l.length := by omega
    rw [List.take_length] at hL
    have hok := play_ok sok_new l
    have hsv := play_sv sv_new l hx (by omega)
    rw [Nat.zero_add] at hok hsv
    have hpk := hsv.pok hok (by omega)
    obtain ⟨S, hS⟩ : ∃ S, S = (playM newM l).2 := ⟨_, rfl⟩
    rw [← hS] at hL hok hsv hpk
    repeat (go_not_at_region 5; go_step)
    refine wp_region_lit ?_
    refine uv 3 H0 rfl (lt_f (by omega)) rfl fun _ H1 => ?_
    refine h_end ?_
    repeat (go_not_at_region 8; go_step)
    refine wp_cond_false (H1.ev (x := .tmp 20) rfl) ?_
    repeat (go_not_at_region 8; go_step)
    refine wp_region_lit ?_
    refine uc 1 H1 rfl (by kernel_rfl) (shtwin_any hL) ?_
    rintro e w2 ⟨B, rfl, hL⟩
    refine ⟨_, rfl, _, rfl, fun _ H2 => ?_⟩
    refine us 1 H2 rfl fun _ H3 => ?_
    refine h_end ?_
    replace hL := LV.two (X := []) hL
    repeat (go_not_at_region 9; go_step)
    refine wp_region_lit ?_
    refine uc 1 H3 rfl (by kernel_rfl) (digest_any hpk hL) ?_
    rintro e w4 ⟨rfl, hL⟩
    refine ⟨_, rfl, _, rfl, fun _ H4 => ?_⟩
    refine us 1 H4 rfl fun _ H5 => ?_
    refine h_end ?_
    repeat (go_not_at_region 10; go_step)
    refine wp_region_lit ?_
    refine uc 3 H5 rfl (by kernel_rfl) (agree_any (dgN S) (m) hpk hL) ?_
    rintro e w6 ⟨rfl, hL⟩
    refine ⟨_, rfl, _, rfl, fun _ H6 => ?_⟩
    refine uc 2 H6 rfl (by kernel_rfl) (shmark_any hL) ?_
    rintro e w7 ⟨rfl, hL⟩
    refine ⟨_, rfl, _, rfl, fun _ H7 => ?_⟩
    refine uv 1 H7 rfl (beq_t (by rw [decide_eq_true rfl, Bool.true_and]; exact eq_comm_b)) rfl fun _ H8 => ?_
    refine us 1 H8 rfl fun _ H9 => ?_
    refine h_end ?_
    repeat (go_not_at_region 11; go_step)
    refine wp_region_lit ?_
    refine uc 3 H9 rfl (by kernel_rfl) (shmark_any hL) ?_
    rintro e w10 ⟨rfl, hL⟩
    refine ⟨_, rfl, _, rfl, fun _ H10 => ?_⟩
    refine uc 0 H10 rfl (by kernel_rfl) (agree_any (pn) (S.mark) hpk hL) ?_
    rintro e w11 ⟨rfl, hL⟩
    refine ⟨_, rfl, _, rfl, fun _ H11 => ?_⟩
    refine uv 3 H11 rfl (beq_t (by rw [decide_eq_true (show S.mark = S.mark from rfl), Bool.and_true]; exact eq_comm_n)) rfl fun _ H12 => ?_
    refine us 1 H12 rfl fun _ H13 => ?_
    refine h_end ?_
    repeat (go_not_at_region 12; go_step)
    refine wp_region_lit ?_
    refine uc 6 H13 rfl (by kernel_rfl) (digest_any hpk hL) ?_
    rintro e w14 ⟨rfl, hL⟩
    refine ⟨_, rfl, _, rfl, fun _ H14 => ?_⟩
    refine uv 1 H14 rfl (eq_t rfl) rfl fun _ H15 => ?_
    refine uc 4 H15 rfl (by kernel_rfl) (shsame_any hL (by have := hok.ml; omega) (by have := hok.ml; omega) (fun i => hok.cd (by omega) i) (fun i => hok.cd (by omega) i)) ?_
    rintro e w16 ⟨he, hL⟩
    rw [sameS_refl] at he
    subst he
    refine ⟨_, rfl, _, rfl, fun _ H16 => ?_⟩
    refine uc 2 H16 rfl (by kernel_rfl) (dwakes_ok) ?_
    rintro e w17 ⟨rfl, hb⟩
    replace hL := hL.call hb
    refine ⟨_, rfl, _, rfl, fun _ H17 => ?_⟩
    refine us 2 H17 rfl fun _ H18 => ?_
    refine h_end ?_
    repeat (go_not_at_region 999; go_step)
    exact H18.ret1 rfl rfl ⟨rfl, hL.1⟩
end
end Go.Proofs.YtnjfjdfjheiocaaGreat
