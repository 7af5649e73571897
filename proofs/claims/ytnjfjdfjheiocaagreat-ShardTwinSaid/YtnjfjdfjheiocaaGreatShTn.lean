/-
  ShardTwin: the law's walk.
-/
import Derived.Test.YtnjfjdfjheiocaaGreatShSl
import Derived.Test.YtnjfjdfjheiocaaGreatShW
set_option linter.unusedSimpArgs false
set_option linter.unusedVariables false
namespace Go.Proofs.YtnjfjdfjheiocaaGreat
open Go.RowKit
noncomputable def cntT (L : List Thg) (a : Thg) : Nat := @List.count Thg (@instBEqOfDecidableEq Thg (fun a b => Classical.propDecidable (a = b))) a L
theorem perm_cnt {L L' : List Thg} (h : ∀ a : Thg, cntT L a = cntT L' a) : L.Perm L' := (@List.perm_iff_count Thg (@instBEqOfDecidableEq Thg (fun a b => Classical.propDecidable (a = b))) (inferInstance) L L').2 h
theorem cnt_app {L L' : List Thg} {a : Thg} : cntT (L ++ L') a = cntT L a + cntT L' a := @List.count_append Thg (@instBEqOfDecidableEq Thg (fun a b => Classical.propDecidable (a = b))) a L L'
noncomputable def cS (A : Adr) (S : PSt) (a : Thg) : Nat := cntT (stT A S []) a
theorem cnt_stT {A : Adr} {S : PSt} {L : List Thg} {a : Thg} : cntT (stT A S L) a = cS A S a + cntT L a := cnt_app (L := stT A S []) (L' := L)
theorem SV.kok {n : Nat} {S : PSt} (h : SV n S) : ∀ p ∈ S.M, KOk p.1 := fun p hp => by
  have h1 := h.win p hp
  have h2 := h1.key
  have h3 := h1.st0
  have h4 := h1.st1
  unfold keyB at h2
  simp only [Bool.and_eq_true, decide_eq_true_eq] at h2
  exact ⟨by omega, by omega, Nat.le_trans (by omega : p.1.2.size ≤ 16) (by decide)⟩
theorem upE_small {cd : Nat → Cods} {n : Nat} (h : ∀ i, (cd i).length ≤ n) : ∀ j, (upE cd j).length ≤ j * n
  | 0 => by
    unfold upE
    exact Nat.zero_le _
  | j + 1 => by
    unfold upE rowsE
    rw [List.length_append, List.length_map, Nat.succ_mul]
    have := upE_small h j
    have := h j
    omega
section
variable {W w : World} {t : TypeId} {A B : Operand}
set_option maxRecDepth 100000 in
set_option maxHeartbeats 1000000 in
theorem twin_any {v v2 : Value} {l l2 : List PItem} (hl : RdC W 8 v (l.map itC)) (hll : l.length ≤ maxLen) (hx : ∀ x ∈ l, -9223372036854775808 ≤ x.n ∧ x.n < 9223372036854775808) (hl2 : RdC W 8 v2 (l2.map itC)) (hll2 : l2.length ≤ maxLen) (hx2 : ∀ x ∈ l2, -9223372036854775808 ≤ x.n ∧ x.n < 9223372036854775808) : Calls Tryz.prog 8 #[v, v2] W fun e W' => e = .returned (.bool true) ∧ Below W.heap.size W W' := by
  have hgr2 : ∀ w, w = W → Calls Tryz.prog 9 #[v2] w fun e W' => ∃ b, e = .returned (.bool b) ∧ W' = w ∧ (b = false → l2.length ≤ 300 ∧ ∀ x ∈ l2, x.key.size ≤ 100) := fun w e => by subst e; exact great_any hl2 hll2
  obtain ⟨q, c, rfl⟩ := hl.slc
  rw [List.length_map] at hl ⊢
  have hRl : ∀ w L, LV W L w → RdC w 8 (.slice q l.length c) (l.map itC) := fun w L h => hl.kept h.1.block
  obtain ⟨q2, c2, rfl⟩ := hl2.slc
  rw [List.length_map] at hl2 ⊢
  have hR2 : ∀ w L, LV W L w → RdC w 8 (.slice q2 l2.length c2) (l2.map itC) := fun w L h => hl2.kept h.1.block
  have hgr := great_any hl hll
  rw [List.length_map] at hgr2
  clear hl hl2
  have hL := LV.init W
  go_enter Tryz.func8, Tryz.ntmps8
  refine wp_fr (n := 75) (m := [(0, _), (1, _)]) ⟨rfl, rfl, by intro p hp; simp only [List.mem_cons, List.not_mem_nil, or_false] at hp; rcases hp with rfl | rfl <;> rfl⟩ fun a0 H0 => ?_
  repeat (go_not_at_region 0; go_step)
  refine wp_region_lit ?_
  refine us 1 H0 rfl fun _ H1 => ?_
  refine h_end ?_
  repeat (go_not_at_region 1; go_step)
  refine wp_region_lit ?_
  refine uc 1 H1 rfl (by kernel_rfl) (hgr) ?_
  rintro e w2 ⟨b0, rfl, hw, hb0⟩
  refine ⟨_, rfl, _, rfl, fun _ H2 => ?_⟩
  cases b0
  rotate_left
  · replace hL := hL.eqw hw
    refine us 4 H2 rfl fun _ H3 => ?_
    refine h_end ?_
    repeat (go_not_at_region 2; go_step)
    refine wp_cond_true (H3.ev (x := .tmp 17) rfl) ?_
    repeat (go_not_at_region 2; go_step)
    refine wp_region_lit ?_
    refine uc 0 H3 rfl (by kernel_rfl) (wakes_ok) ?_
    rintro e w4 ⟨rfl, hb⟩
    replace hL := hL.call hb
    refine ⟨_, rfl, _, rfl, fun _ H4 => ?_⟩
    refine us 1 H4 rfl fun _ H5 => ?_
    refine h_end ?_
    repeat (go_not_at_region 999; go_step)
    exact H5.ret1 rfl rfl ⟨rfl, hL.1⟩
  refine uc 2 H2 rfl (by kernel_rfl) (hgr2 _ hw) ?_
  rintro e w3 ⟨b1, rfl, hw2, hb1⟩
  replace hL := hL.eqw (hw2.trans hw)
  refine ⟨_, rfl, _, rfl, fun _ H3 => ?_⟩
  refine us 1 H3 rfl fun _ H4 => ?_
  refine h_end ?_
  cases b1
  rotate_left
  · repeat (go_not_at_region 2; go_step)
    refine wp_cond_true (H4.ev (x := .tmp 17) rfl) ?_
    repeat (go_not_at_region 2; go_step)
    refine wp_region_lit ?_
    refine uc 0 H4 rfl (by kernel_rfl) (wakes_ok) ?_
    rintro e w5 ⟨rfl, hb⟩
    replace hL := hL.call hb
    refine ⟨_, rfl, _, rfl, fun _ H5 => ?_⟩
    refine us 1 H5 rfl fun _ H6 => ?_
    refine h_end ?_
    repeat (go_not_at_region 999; go_step)
    exact H6.ret1 rfl rfl ⟨rfl, hL.1⟩
  obtain ⟨hs1, hs2⟩ := hb0 rfl
  obtain ⟨hs3, hs4⟩ := hb1 rfl
  repeat (go_not_at_region 3; go_step)
  refine wp_cond_false (H4.ev (x := .tmp 17) rfl) ?_
  repeat (go_not_at_region 3; go_step)
  refine wp_region_lit ?_
  refine uc 0 H4 rfl (by kernel_rfl) (shnew_any hL) ?_
  rintro e w5 ⟨A, rfl, hL⟩
  refine ⟨_, rfl, _, rfl, fun _ H5 => ?_⟩
  refine us 1 H5 rfl fun _ H6 => ?_
  refine h_end ?_
  repeat (go_not_at_region 4; go_step)
  refine wp_region_lit ?_
  refine uc 2 H6 rfl (by kernel_rfl) (plays_any hL hRl sok_new (by omega) hs2 (Nat.zero_le _) sv_new hx (by omega)) ?_
  rintro e w7 ⟨v1, X1, rfl, hr1, hn1, hL⟩
  have hok := play_ok sok_new l
  have hsv := play_sv sv_new l hx (by omega)
  rw [Nat.zero_add] at hok hsv
  obtain ⟨S, hS⟩ : ∃ S, S = (playM newM l).2 := ⟨_, rfl⟩
  rw [← hS] at hL hok hsv
  obtain ⟨L1, hL1⟩ : ∃ L1, L1 = X1 ++ ([] : List Thg) := ⟨_, rfl⟩
  rw [← hL1] at hL
  refine ⟨_, rfl, _, rfl, fun _ H7 => ?_⟩
  refine h_end ?_
  repeat (go_not_at_region 5; go_step)
  refine wp_region_lit ?_
  refine uc 1 H7 rfl (by kernel_rfl) (shtwin_any hL) ?_
  rintro e w8 ⟨B, rfl, hL⟩
  replace hL : LV W (stT A S (stT B S L1)) _ := hL.perm (perm_cnt fun a => by simp only [cnt_stT, cnt_app]; omega)
  refine ⟨_, rfl, _, rfl, fun _ H8 => ?_⟩
  refine us 1 H8 rfl fun _ H9 => ?_
  refine h_end ?_
  have hue2 : (upE S.cd 4).length < 100000 := by have := upE_small hok.cl 4; omega
  repeat (go_not_at_region 6; go_step)
  refine wp_region_lit ?_
  refine uc 1 H9 rfl (by kernel_rfl) (shmark_any hL) ?_
  rintro e w10 ⟨rfl, hL2⟩
  have hL := hL2
  refine ⟨_, rfl, _, rfl, fun _ H10 => ?_⟩
  refine uc 1 H10 rfl (by kernel_rfl) (shopen_any hL (by have := hok.ml; omega)) ?_
  rintro e w11 ⟨vo, X2, rfl, hr2, hL2⟩
  obtain ⟨q3, c3, rfl, hc3⟩ := prow_rd (enc := outE) outE_len hr2
  have hL := hL2
  replace hL : LV W (stT A S (X2 ++ (stT B S L1))) _ := hL.perm (perm_cnt fun a => by simp only [cnt_stT, cnt_app]; omega)
  refine ⟨_, rfl, _, rfl, fun _ H11 => ?_⟩
  refine uc 1 H11 rfl (by kernel_rfl) (shlows_any hL) ?_
  rintro e w12 ⟨vl, X3, rfl, hr3, hL2⟩
  obtain ⟨q4, c4, rfl, hc4⟩ := prow_rd (enc := inE) (fun _ => rfl) (show PRow 3 1 vl (loL S.lo).length ((loL S.lo).flatMap inE) X3 from hr3)
  have hL := hL2
  replace hL : LV W (stT A S (X3 ++ (X2 ++ (stT B S L1)))) _ := hL.perm (perm_cnt fun a => by simp only [cnt_stT, cnt_app]; omega)
  refine ⟨_, rfl, _, rfl, fun _ H12 => ?_⟩
  refine uc 1 H12 rfl (by kernel_rfl) (shans_any hL (fun i => hok.cd (by omega) i)) ?_
  rintro e w13 ⟨va, X4, rfl, hr4, hL2⟩
  obtain ⟨q5, c5, rfl, hc5⟩ := prow_rd (enc := enC) (fun _ => rfl) hr4
  have hL := hL2
  replace hL : LV W (X4 ++ (X3 ++ (X2 ++ (stT A S (stT B S L1))))) _ := hL.perm (perm_cnt fun a => by simp only [cnt_stT, cnt_app]; omega)
  refine ⟨_, rfl, _, rfl, fun _ H13 => ?_⟩
  refine uc 0 H13 rfl (by kernel_rfl) (shof_any (mark := S.mark) (O := S.M) (lows := loL S.lo) (l := upE S.cd 4) hL (fun w h => hc3 _ _ w (LV.dropl (LV.dropl h))) (fun w h => hc4 _ _ w (LV.dropl h)) (fun w h => hc5 _ _ w h) (by have := hok.ml; omega) hsv.kok (by simp [loL]) hue2) ?_
  rw [of_self hsv (by omega)]
  rintro e w14 ⟨vc, rfl, hor⟩
  rcases hor with ⟨-, C, rfl, hL⟩ | ⟨h, -⟩
  rotate_left
  · exact absurd rfl h
  replace hL : LV W (X4 ++ (X3 ++ (X2 ++ (stT C S (stT A S (stT B S L1)))))) _ := hL.perm (perm_cnt fun a => by simp only [cnt_stT, cnt_app]; omega)
  replace hL := LV.dropl (LV.dropl (LV.dropl hL))
  refine ⟨_, rfl, _, rfl, fun _ H14 => ?_⟩
  refine us 5 H14 rfl fun _ H15 => ?_
  refine h_end ?_
  replace hL : LV W (stT A S (stT C S (stT B S L1))) _ := hL.perm (perm_cnt fun a => by simp only [cnt_stT, cnt_app]; omega)
  repeat (go_not_at_region 7; go_step)
  refine wp_region_lit ?_
  refine uc 1 H15 rfl (by kernel_rfl) (shtwin_any hL) ?_
  rintro e w16 ⟨D, rfl, hL⟩
  replace hL : LV W (stT A S (stT B S (stT C S (stT D S L1)))) _ := hL.perm (perm_cnt fun a => by simp only [cnt_stT, cnt_app]; omega)
  refine ⟨_, rfl, _, rfl, fun _ H16 => ?_⟩
  refine us 1 H16 rfl fun _ H17 => ?_
  refine h_end ?_
  repeat (go_not_at_region 8; go_step)
  refine wp_region_lit ?_
  refine uv 1 H17 rfl (ne_f rfl) rfl fun _ H18 => ?_
  refine uc 3 H18 rfl (by kernel_rfl) (shsame_any hL (by have := hok.ml; omega) (by have := hok.ml; omega) (fun i => hok.cd (by omega) i) (fun i => hok.cd (by omega) i)) ?_
  rw [sameS_refl]
  rintro e w19 ⟨rfl, hL2⟩
  have hL := hL2
  replace hL : LV W (stT A S (stT C S (stT B S (stT D S L1)))) _ := hL.perm (perm_cnt fun a => by simp only [cnt_stT, cnt_app]; omega)
  refine ⟨_, rfl, _, rfl, fun _ H19 => ?_⟩
  refine uc 5 H19 rfl (by kernel_rfl) (shsame_any hL (by have := hok.ml; omega) (by have := hok.ml; omega) (fun i => hok.cd (by omega) i) (fun i => hok.cd (by omega) i)) ?_
  rw [sameS_refl]
  rintro e w20 ⟨rfl, hL2⟩
  have hL := hL2
  replace hL : LV W (stT B S (stT A S (stT C S (stT D S L1)))) _ := hL.perm (perm_cnt fun a => by simp only [cnt_stT, cnt_app]; omega)
  refine ⟨_, rfl, _, rfl, fun _ H20 => ?_⟩
  refine us 2 H20 rfl fun _ H21 => ?_
  refine h_end ?_
  repeat (go_not_at_region 10; go_step)
  refine wp_cond_false (H21.ev (x := .tmp 52) rfl) ?_
  repeat (go_not_at_region 10; go_step)
  refine wp_region_lit ?_
  refine uc 2 H21 rfl (by kernel_rfl) (plays_any hL hR2 hok (by omega) hs4 hsv.room hsv hx2 (by omega)) ?_
  rintro e w22 ⟨v5, X5, rfl, hr5, hn5, hL⟩
  obtain ⟨q6, c6, rfl, hc6⟩ := prow_rd (enc := outE) outE_len hr5
  have hoT := play_ok hok l2
  obtain ⟨T, hT⟩ : ∃ T, T = (playM S l2).2 := ⟨_, rfl⟩
  rw [← hT] at hL hoT
  replace hL : LV W (stT C S (X5 ++ (stT B T (stT A S (stT D S L1))))) _ := hL.perm (perm_cnt fun a => by simp only [cnt_stT, cnt_app]; omega)
  refine ⟨_, rfl, _, rfl, fun _ H22 => ?_⟩
  refine us 1 H22 rfl fun _ H23 => ?_
  refine h_end ?_
  repeat (go_not_at_region 11; go_step)
  refine wp_region_lit ?_
  refine uc 2 H23 rfl (by kernel_rfl) (plays_any hL hR2 hok (by omega) hs4 hsv.room hsv hx2 (by omega)) ?_
  rintro e w24 ⟨v6, X6, rfl, hr6, hn6, hL⟩
  rw [← hT] at hL
  obtain ⟨q7, c7, rfl, hc7⟩ := prow_rd (enc := outE) outE_len hr6
  replace hL : LV W (stT A S (stT D S (X6 ++ (X5 ++ (stT B T (stT C T L1)))))) _ := hL.perm (perm_cnt fun a => by simp only [cnt_stT, cnt_app]; omega)
  refine ⟨_, rfl, _, rfl, fun _ H24 => ?_⟩
  refine us 1 H24 rfl fun _ H25 => ?_
  refine h_end ?_
  repeat (go_not_at_region 12; go_step)
  refine wp_region_lit ?_
  refine uc 2 H25 rfl (by kernel_rfl) (shsame_any hL (by have := hok.ml; omega) (by have := hok.ml; omega) (fun i => hok.cd (by omega) i) (fun i => hok.cd (by omega) i)) ?_
  rw [sameS_refl]
  rintro e w26 ⟨rfl, hL2⟩
  have hL := hL2
  replace hL : LV W (stT B T (stT C T (X6 ++ (X5 ++ (stT A S (stT D S L1)))))) _ := hL.perm (perm_cnt fun a => by simp only [cnt_stT, cnt_app]; omega)
  refine ⟨_, rfl, _, rfl, fun _ H26 => ?_⟩
  refine uc 3 H26 rfl (by kernel_rfl) (shsame_any hL (by have := hoT.ml; omega) (by have := hoT.ml; omega) (fun i => hoT.cd (by omega) i) (fun i => hoT.cd (by omega) i)) ?_
  rw [sameS_refl]
  rintro e w27 ⟨rfl, hL2⟩
  have hL := hL2
  replace hL : LV W (X6 ++ (X5 ++ (stT B T (stT C T (stT A S (stT D S L1)))))) _ := hL.perm (perm_cnt fun a => by simp only [cnt_stT, cnt_app]; omega)
  refine ⟨_, rfl, _, rfl, fun _ H27 => ?_⟩
  refine uc 4 H27 rfl (by kernel_rfl) (rsame_any (M := (playM S l2).1) (N := (playM S l2).1) hL (fun w h => hc6 _ _ w (LV.dropl h)) (fun w h => hc7 _ _ w h) (by omega) (by omega)) ?_
  rw [decide_eq_true rfl]
  rintro e w28 ⟨rfl, hL2⟩
  have hL := hL2
  refine ⟨_, rfl, _, rfl, fun _ H28 => ?_⟩
  refine uc 2 H28 rfl (by kernel_rfl) (wakes_ok) ?_
  rintro e w29 ⟨rfl, hb⟩
  replace hL := hL.call hb
  refine ⟨_, rfl, _, rfl, fun _ H29 => ?_⟩
  refine us 2 H29 rfl fun _ H30 => ?_
  refine h_end ?_
  repeat (go_not_at_region 999; go_step)
  exact H30.ret1 rfl rfl ⟨rfl, hL.1⟩
end
end Go.Proofs.YtnjfjdfjheiocaaGreat
