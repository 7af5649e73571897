/-
  DigestGoes: the law's walk.
-/
import Derived.Test.YtnjfjdfjheiocaaGreatDgM
set_option linter.unusedSimpArgs false
set_option linter.unusedVariables false
namespace Go.Proofs.YtnjfjdfjheiocaaGreat
open Go.RowKit
section
variable {W w : World} {t : TypeId} {A B : Operand}
theorem rem_10 {z : Int} : (EOp.bin .rem t A B (.int .i64 z) (.int .i64 10)).run.run Tryz.prog w = .ok (.int .i64 (z.tmod 10)) w := by
  have h1 := Int.tmod_lt_of_pos z (show (0 : Int) < 10 by decide)
  have h2 := Int.lt_tmod_of_pos z (show (0 : Int) < 10 by decide)
  have e : IntKind.wrap .i64 (z.tmod 10) = z.tmod 10 := i64_idz (by omega) (by omega)
  simp [go_sem, e]
set_option maxRecDepth 100000 in
set_option maxHeartbeats 1000000 in
theorem goes_any {v v2 : Value} {l l2 : List PItem} (hl : RdC W 8 v (l.map itC)) (hll : l.length ≤ maxLen) (hx : ∀ x ∈ l, -9223372036854775808 ≤ x.n ∧ x.n < 9223372036854775808) (hl2 : RdC W 8 v2 (l2.map itC)) (hll2 : l2.length ≤ maxLen) (hx2 : ∀ x ∈ l2, -9223372036854775808 ≤ x.n ∧ x.n < 9223372036854775808) : Calls Tryz.prog 6 #[v, v2] W fun e W' => e = .returned (.bool true) ∧ Below W.heap.size W W' := by
  have hgr2 : ∀ w, w = W → Calls Tryz.prog 9 #[v2] w fun e W' => ∃ b, e = .returned (.bool b) ∧ W' = w ∧ (b = false → l2.length ≤ 300 ∧ ∀ x ∈ l2, x.key.size ≤ 100) := fun w e => by subst e; exact great_any hl2 hll2
  obtain ⟨q, c, rfl⟩ := hl.slc
  rw [List.length_map] at hl ⊢
  have hRl : ∀ w L, LV W L w → RdC w 8 (.slice q l.length c) (l.map itC) := fun w L h => hl.kept h.1.block
  obtain ⟨q2, c2, rfl⟩ := hl2.slc
  rw [List.length_map] at hl2 ⊢
  have hR2 : ∀ w L, LV W L w → RdC w 8 (.slice q2 l2.length c2) (l2.map itC) := fun w L h => hl2.kept h.1.block
  have hgr := great_any hl hll
  rw [List.length_map] at hgr2
  clear hl hl2
  have hL := LV.init W
  go_enter Tryz.func6, Tryz.ntmps6
  refine wp_fr (n := 75) (m := [(0, _), (1, _)]) ⟨rfl, rfl, by intro p hp; simp only [List.mem_cons, List.not_mem_nil, or_false] at hp; rcases hp with rfl | rfl <;> rfl⟩ fun a0 H0 => ?_
  repeat (go_not_at_region 0; go_step)
  refine wp_region_lit ?_
  refine us 1 H0 rfl fun _ H1 => ?_
  refine h_end ?_
  repeat (go_not_at_region 1; go_step)
  refine wp_region_lit ?_
  refine uc 1 H1 rfl (by kernel_rfl) (hgr) ?_
  rintro e w2 ⟨b0, rfl, hw, hb0⟩
  refine ⟨_, rfl, _, rfl, fun _ H2 => ?_⟩
  cases b0
  rotate_left
  · replace hL := hL.eqw hw
    refine us 4 H2 rfl fun _ H3 => ?_
    refine h_end ?_
    repeat (go_not_at_region 2; go_step)
    refine wp_cond_true (H3.ev (x := .tmp 14) rfl) ?_
    repeat (go_not_at_region 2; go_step)
    refine wp_region_lit ?_
    refine uc 0 H3 rfl (by kernel_rfl) (dwakes_ok) ?_
    rintro e w4 ⟨rfl, hb⟩
    replace hL := hL.call hb
    refine ⟨_, rfl, _, rfl, fun _ H4 => ?_⟩
    refine us 1 H4 rfl fun _ H5 => ?_
    refine h_end ?_
    repeat (go_not_at_region 999; go_step)
    exact H5.ret1 rfl rfl ⟨rfl, hL.1⟩
  refine uc 2 H2 rfl (by kernel_rfl) (hgr2 _ hw) ?_
  rintro e w3 ⟨b1, rfl, hw2, hb1⟩
  replace hL := hL.eqw (hw2.trans hw)
  refine ⟨_, rfl, _, rfl, fun _ H3 => ?_⟩
  refine us 1 H3 rfl fun _ H4 => ?_
  refine h_end ?_
  cases b1
  rotate_left
  · repeat (go_not_at_region 2; go_step)
    refine wp_cond_true (H4.ev (x := .tmp 14) rfl) ?_
    repeat (go_not_at_region 2; go_step)
    refine wp_region_lit ?_
    refine uc 0 H4 rfl (by kernel_rfl) (dwakes_ok) ?_
    rintro e w5 ⟨rfl, hb⟩
    replace hL := hL.call hb
    refine ⟨_, rfl, _, rfl, fun _ H5 => ?_⟩
    refine us 1 H5 rfl fun _ H6 => ?_
    refine h_end ?_
    repeat (go_not_at_region 999; go_step)
    exact H6.ret1 rfl rfl ⟨rfl, hL.1⟩
  obtain ⟨hs1, hs2⟩ := hb0 rfl
  obtain ⟨hs3, hs4⟩ := hb1 rfl
  repeat (go_not_at_region 3; go_step)
  refine wp_cond_false (H4.ev (x := .tmp 14) rfl) ?_
  repeat (go_not_at_region 3; go_step)
  refine wp_region_lit ?_
  refine uc 0 H4 rfl (by kernel_rfl) (shnew_any hL) ?_
  rintro e w5 ⟨A, rfl, hL⟩
  refine ⟨_, rfl, _, rfl, fun _ H5 => ?_⟩
  refine us 1 H5 rfl fun _ H6 => ?_
  refine h_end ?_
  repeat (go_not_at_region 4; go_step)
  refine wp_region_lit ?_
  refine us 1 H6 rfl fun _ H7 => ?_
  refine h_end ?_
  repeat (go_not_at_region 5; go_step)
  obtain ⟨I, hI⟩ : ∃ I : Nat → Act → World → Prop, ∀ n a' w', I n a' w' ↔ ∃ j : Nat, n = l.length - j ∧ j ≤ l.length ∧ Fr a' 75 [(0, .slice q l.length c), (1, .slice q2 l2.length c2), (5, .pointer (some ⟨A.g, 0, none⟩)), (6, .int .i64 (j : Nat))] ∧ LV W (stT A (playM newM (l.take j)).2 []) w' := ⟨_, fun _ _ _ => Iff.rfl⟩
  have HI := Lib.hid hI
  clear hI
  refine wp_loop_ghost I l.length ((HI.out _ _ _).2 ⟨0, rfl, Nat.zero_le _, H7.pick _ (P4 0 1 5 6 rfl rfl rfl rfl), hL⟩) ?_
  clear hL
  intro n a1 wl hi'
  obtain ⟨j, rfl, hj, H0, hL⟩ := (HI.out _ _ _).1 hi'
  clear hi'
  by_cases hjl : j < l.length
  · have hoj := play_ok (sok_new) (l.take j)
    rw [List.length_take] at hoj
    obtain ⟨ad, hq, hc⟩ := (hRl _ _ hL).elem (List.length_map _) hjl
    rw [List.getElem_map] at hc
    repeat (go_not_at_region 5; go_step)
    refine wp_region_lit ?_
    refine uv 3 H0 rfl (lt_t (by omega)) rfl fun _ H1 => ?_
    refine h_end ?_
    repeat (go_not_at_region 7; go_step)
    refine wp_cond_true (H1.ev (x := .tmp 20) rfl) ?_
    repeat (go_not_at_region 7; go_step)
    refine wp_region_lit ?_
    refine uv 3 H1 rfl (by rw [hq]; exact ix_itA hjl) rfl fun _ H2 => ?_
    refine uv 0 H2 rfl (ld_itA hc) rfl fun _ H3 => ?_
    refine uc 0 H3 rfl (by kernel_rfl) (apply_any (x := l[j]) hL (Nat.le_trans (hs2 _ (List.getElem_mem hjl)) (by decide)) (by have := hoj.ml; omega) (fun i => by have := hoj.cl i; omega)) ?_
    rintro e w4 ⟨v1, X1, rfl, hr1, hL2⟩
    have hL := LV.dropl hL2
    refine ⟨_, rfl, _, rfl, fun _ H4 => ?_⟩
    refine h_end ?_
    repeat (go_not_at_region 6; go_step)
    refine wp_region_lit ?_
    refine uv 1 H4 rfl (add_i (by omega) (by omega)) rfl fun _ H5 => ?_
    refine us 1 H5 rfl fun _ H6 => ?_
    refine h_end ?_
    refine ⟨l.length - (j + 1), by omega, (HI.out _ _ _).2 ⟨j + 1, rfl, by omega, H6.pick _ (P4 0 1 5 6 rfl rfl rfl rfl), ?_⟩⟩
    rw [play_take hjl]
    exact hL
  · obtain rfl : j = l.length := by omega
    rw [List.take_length] at hL
    have hok := play_ok sok_new l
    have hsv := play_sv sv_new l hx (by omega)
    rw [Nat.zero_add] at hok hsv
    obtain ⟨S, hS⟩ : ∃ S, S = (playM newM l).2 := ⟨_, rfl⟩
    rw [← hS] at hL hok hsv
    repeat (go_not_at_region 5; go_step)
    refine wp_region_lit ?_
    refine uv 3 H0 rfl (lt_f (by omega)) rfl fun _ H1 => ?_
    refine h_end ?_
    repeat (go_not_at_region 8; go_step)
    refine wp_cond_false (H1.ev (x := .tmp 20) rfl) ?_
    repeat (go_not_at_region 8; go_step)
    refine wp_region_lit ?_
    refine uc 1 H1 rfl (by kernel_rfl) (shtwin_any hL) ?_
    rintro e w2 ⟨B, rfl, hL⟩
    refine ⟨_, rfl, _, rfl, fun _ H2 => ?_⟩
    refine us 1 H2 rfl fun _ H3 => ?_
    refine h_end ?_
    replace hL := LV.two (X := []) hL
    repeat (go_not_at_region 9; go_step)
    refine wp_region_lit ?_
    refine us 1 H3 rfl fun _ H4 => ?_
    refine h_end ?_
    have H5 := H4.kp [0, 1, 5, 7, 8] rfl
    repeat (go_not_at_region 10; go_step)
    obtain ⟨J, hJ⟩ : ∃ I : Nat → Act → World → Prop, ∀ n a' w', I n a' w' ↔ ∃ j : Nat, n = l2.length - j ∧ j ≤ l2.length ∧ Fr a' 75 [(0, .slice q l.length c), (1, .slice q2 l2.length c2), (5, .pointer (some ⟨A.g, 0, none⟩)), (7, .pointer (some ⟨B.g, 0, none⟩)), (8, .int .i64 (j : Nat))] ∧ LV W (stT A (playM S (l2.take j)).2 (stT B (playM S (l2.take j)).2 [])) w' := ⟨_, fun _ _ _ => Iff.rfl⟩
    have HJ := Lib.hid hJ
    clear hJ
    refine wp_loop_ghost J l2.length ((HJ.out _ _ _).2 ⟨0, rfl, Nat.zero_le _, H5.pick _ (P5 0 1 5 7 8 rfl rfl rfl rfl rfl), hL⟩) ?_
    clear hL
    intro n a2 wm hi'
    obtain ⟨j, rfl, hj, H0, hL⟩ := (HJ.out _ _ _).1 hi'
    clear hi'
    by_cases hjl : j < l2.length
    · have hoj := play_ok hok (l2.take j)
      have hvj := play_sv hsv (l2.take j) (fun x hx => hx2 x (List.mem_of_mem_take hx)) (by rw [List.length_take]; omega)
      rw [List.length_take] at hoj hvj
      have hon := apply_ok l2[j] hoj
      have hr2 := hx2 _ (List.getElem_mem hjl)
      have hvn := apply_sv (x := l2[j]) hvj hr2.1 hr2.2 (by omega)
      have hpn := hvn.pok hon (by omega)
      obtain ⟨ad, hq, hc⟩ := (hR2 _ _ hL).elem (List.length_map _) hjl
      rw [List.getElem_map] at hc
      repeat (go_not_at_region 10; go_step)
      refine wp_region_lit ?_
      refine uv 3 H0 rfl (lt_t (by omega)) rfl fun _ H1 => ?_
      refine h_end ?_
      repeat (go_not_at_region 12; go_step)
      refine wp_cond_true (H1.ev (x := .tmp 34) rfl) ?_
      repeat (go_not_at_region 12; go_step)
      refine wp_region_lit ?_
      refine uv 3 H1 rfl (by rw [hq]; exact ix_itA hjl) rfl fun _ H2 => ?_
      refine uv 0 H2 rfl (ld_itA hc) rfl fun _ H3 => ?_
      refine uc 0 H3 rfl (by kernel_rfl) (apply_any (x := l2[j]) hL (Nat.le_trans (hs4 _ (List.getElem_mem hjl)) (by decide)) (by have := hoj.ml; omega) (fun i => by have := hoj.cl i; omega)) ?_
      rintro e w4 ⟨v1, X1, rfl, hr1, hL2⟩
      have hL := LV.dropl hL2
      refine ⟨_, rfl, _, rfl, fun _ H4 => ?_⟩
      refine h_end ?_
      obtain ⟨ad3, hq3, hc3⟩ := (hR2 _ _ hL).elem (List.length_map _) hjl
      rw [List.getElem_map] at hc3
      replace hL := LV.two (X := []) hL
      repeat (go_not_at_region 13; go_step)
      refine wp_region_lit ?_
      refine uv 3 H4 rfl (by rw [hq3]; exact ix_itA hjl) rfl fun _ H5 => ?_
      refine uv 0 H5 rfl (ld_itA hc3) rfl fun _ H6 => ?_
      refine uc 0 H6 rfl (by kernel_rfl) (apply_any (x := l2[j]) hL (Nat.le_trans (hs4 _ (List.getElem_mem hjl)) (by decide)) (by have := hoj.ml; omega) (fun i => by have := hoj.cl i; omega)) ?_
      rintro e w7 ⟨v1, X1, rfl, hr1, hL2⟩
      have hL := LV.dropl hL2
      refine ⟨_, rfl, _, rfl, fun _ H7 => ?_⟩
      refine h_end ?_
      replace hL := LV.two (X := []) hL
      repeat (go_not_at_region 14; go_step)
      refine wp_region_lit ?_
      by_cases h10 : ((j : Nat) : Int).tmod 10 = 0
      · refine uv 1 H7 rfl rem_10 rfl fun _ H8 => ?_
        refine uv 0 H8 rfl (eq_t h10) rfl fun _ H9 => ?_
        refine uc 2 H9 rfl (by kernel_rfl) (digest_any hpn hL) ?_
        rintro e w10 ⟨rfl, hL⟩
        refine ⟨_, rfl, _, rfl, fun _ H10 => ?_⟩
        refine uc 1 H10 rfl (by kernel_rfl) (digest_any hpn (LV.two (X := []) hL)) ?_
        rintro e w11 ⟨rfl, hL⟩
        replace hL := LV.two (X := []) hL
        refine ⟨_, rfl, _, rfl, fun _ H11 => ?_⟩
        refine uv 0 H11 rfl (ne_f rfl) rfl fun _ H12 => ?_
        refine us 1 H12 rfl fun _ H13 => ?_
        refine h_end ?_
        repeat (go_not_at_region 11; go_step)
        refine wp_cond_false (H13.ev (x := .tmp 58) rfl) ?_
        repeat (go_not_at_region 11; go_step)
        refine wp_region_lit ?_
        refine uv 1 H13 rfl (add_i (by omega) (by omega)) rfl fun _ H14 => ?_
        refine us 1 H14 rfl fun _ H15 => ?_
        refine h_end ?_
        refine ⟨l2.length - (j + 1), by omega, (HJ.out _ _ _).2 ⟨j + 1, rfl, by omega, H15.pick _ (P5 0 1 5 7 8 rfl rfl rfl rfl rfl), ?_⟩⟩
        rw [play_take hjl]
        exact hL
      · refine uv 1 H7 rfl rem_10 rfl fun _ H8 => ?_
        refine uv 0 H8 rfl (eq_f h10) rfl fun _ H9 => ?_
        refine us 7 H9 rfl fun _ H10 => ?_
        refine h_end ?_
        repeat (go_not_at_region 11; go_step)
        refine wp_cond_false (H10.ev (x := .tmp 58) rfl) ?_
        repeat (go_not_at_region 11; go_step)
        refine wp_region_lit ?_
        refine uv 1 H10 rfl (add_i (by omega) (by omega)) rfl fun _ H11 => ?_
        refine us 1 H11 rfl fun _ H12 => ?_
        refine h_end ?_
        refine ⟨l2.length - (j + 1), by omega, (HJ.out _ _ _).2 ⟨j + 1, rfl, by omega, H12.pick _ (P5 0 1 5 7 8 rfl rfl rfl rfl rfl), ?_⟩⟩
        rw [play_take hjl]
        exact hL
    · obtain rfl : j = l2.length := by omega
      rw [List.take_length] at hL
      have hoj := play_ok hok l2
      have hvj := play_sv hsv l2 hx2 (by omega)
      have hpn := hvj.pok hoj (by omega)
      obtain ⟨T, hT⟩ : ∃ T, T = (playM S l2).2 := ⟨_, rfl⟩
      rw [← hT] at hL hpn
      repeat (go_not_at_region 10; go_step)
      refine wp_region_lit ?_
      refine uv 3 H0 rfl (lt_f (by omega)) rfl fun _ H1 => ?_
      refine h_end ?_
      repeat (go_not_at_region 16; go_step)
      refine wp_cond_false (H1.ev (x := .tmp 34) rfl) ?_
      repeat (go_not_at_region 16; go_step)
      refine wp_region_lit ?_
      refine uc 1 H1 rfl (by kernel_rfl) (digest_any hpn hL) ?_
      rintro e w2 ⟨rfl, hL⟩
      refine ⟨_, rfl, _, rfl, fun _ H2 => ?_⟩
      refine uc 1 H2 rfl (by kernel_rfl) (digest_any hpn (LV.two (X := []) hL)) ?_
      rintro e w3 ⟨rfl, hL⟩
      replace hL := LV.two (X := []) hL
      refine ⟨_, rfl, _, rfl, fun _ H3 => ?_⟩
      refine uv 0 H3 rfl (eq_t rfl) rfl fun _ H4 => ?_
      refine uc 3 H4 rfl (by kernel_rfl) (digest_any hpn (LV.two (X := []) hL)) ?_
      rintro e w5 ⟨rfl, hL⟩
      replace hL := LV.two (X := []) hL
      refine ⟨_, rfl, _, rfl, fun _ H5 => ?_⟩
      refine uc 1 H5 rfl (by kernel_rfl) (shmark_any (LV.two (X := []) hL)) ?_
      rintro e w6 ⟨rfl, hL⟩
      replace hL := LV.two (X := []) hL
      refine ⟨_, rfl, _, rfl, fun _ H6 => ?_⟩
      refine uc 0 H6 rfl (by kernel_rfl) (agree_any (dgN T) T.mark hpn hL) ?_
      rintro e w7 ⟨he, hL⟩
      rw [decide_eq_true rfl, decide_eq_true rfl] at he
      subst he
      refine ⟨_, rfl, _, rfl, fun _ H7 => ?_⟩
      refine uc 2 H7 rfl (by kernel_rfl) (dwakes_ok) ?_
      rintro e w8 ⟨rfl, hb⟩
      replace hL := hL.call hb
      refine ⟨_, rfl, _, rfl, fun _ H8 => ?_⟩
      refine us 2 H8 rfl fun _ H9 => ?_
      refine h_end ?_
      repeat (go_not_at_region 999; go_step)
      exact H9.ret1 rfl rfl ⟨rfl, hL.1⟩
end
end Go.Proofs.YtnjfjdfjheiocaaGreat
