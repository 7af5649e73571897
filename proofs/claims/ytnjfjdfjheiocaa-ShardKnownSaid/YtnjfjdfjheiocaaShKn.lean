/-
  ShardKnown: the law's walk.
-/
import Derived.Test.YtnjfjdfjheiocaaShTw
set_option linter.unusedSimpArgs false
set_option linter.unusedVariables false
namespace Go.Proofs.Ytnjfjdfjheiocaa
open Go.RowKit
theorem sameS_refl {S : PSt} : sameS S S = true := by simp [sameS]
def knX4 : PItem := ⟨0, 3, 3, 1, keyA, 0, 4, 0⟩
def knX6 : PItem := ⟨9, 4, 3, 1, keyA, 0, 30, 0⟩
def knX7 : PItem := ⟨0, 4, 3, 7, .empty, 0, 0, 0⟩
def knX8 : PItem := ⟨0, 5, 3, 2, .empty, 0, 15, 0⟩
def knX9 : PItem := ⟨0, 6, 3, 2, .empty, 0, -1, 0⟩
def kn4 : (Int × Wins × Bool) × PSt := applyM wk3.2 knX4
def kn5 : (Int × Wins × Bool) × PSt := applyM kn4.2 wkX
def kn6 : (Int × Wins × Bool) × PSt := applyM kn5.2 knX6
def kn7 : (Int × Wins × Bool) × PSt := applyM kn6.2 knX7
def kn8 : (Int × Wins × Bool) × PSt := applyM kn7.2 knX8
def kn9 : (Int × Wins × Bool) × PSt := applyM kn8.2 knX9
theorem kn4_is : kn4.1 = (2, [], true) := by kernel_rfl
theorem kn5_is : kn5.1 = (0, [], false) := by kernel_rfl
theorem kn6_is : kn6.1 = (4, [], false) := by kernel_rfl
theorem kn7_is : kn7.1 = (4, [], true) := by kernel_rfl
theorem kn8_is : kn8.1 = (1, [], true) := by kernel_rfl
theorem kn9_is : kn9.1 = (4, [], true) := by kernel_rfl
theorem kn_an : (upE kn9.2.cd 4).length = 4 := by kernel_rfl
theorem kn_mk : kn9.2.mark = 15 := by kernel_rfl
theorem kn_no : sameS kn9.2 newM = false := by
  have h : ¬ kn9.2.mark = newM.mark := by rw [kn_mk]; show ¬ ((15 : Int) = 0); decide
  simp [sameS, h]
section
variable {w W : World} {x y : PItem} {g : Nat}
theorem bd_kn4 : (Instr.build 32 #[(1, .int .i64 3), (2, .int .i64 3), (3, .int .u8 1), (4, .string { data := #[97] }), (6, .int .i64 4)]).run Try.prog w = .ok (.agg (itC knX4)) w := by
  simp [go_sem]
  exact ⟨rfl, rfl, rfl, rfl, rfl, rfl, rfl, rfl⟩
theorem bd_kn6 : (Instr.build 32 #[(0, .int .i64 9), (1, .int .i64 4), (2, .int .i64 3), (3, .int .u8 1), (4, .string { data := #[97] }), (6, .int .i64 30)]).run Try.prog w = .ok (.agg (itC knX6)) w := by
  simp [go_sem]
  exact ⟨rfl, rfl, rfl, rfl, rfl, rfl, rfl, rfl⟩
theorem bd_kn7 : (Instr.build 32 #[(1, .int .i64 4), (2, .int .i64 3), (3, .int .u8 7)]).run Try.prog w = .ok (.agg (itC knX7)) w := by
  simp [go_sem]
  exact ⟨rfl, rfl, rfl, rfl, rfl, rfl, rfl, rfl⟩
theorem bd_kn8 : (Instr.build 32 #[(1, .int .i64 5), (2, .int .i64 3), (3, .int .u8 2), (6, .int .i64 15)]).run Try.prog w = .ok (.agg (itC knX8)) w := by
  simp [go_sem]
  exact ⟨rfl, rfl, rfl, rfl, rfl, rfl, rfl, rfl⟩
theorem bd_kn9 : (Instr.build 32 #[(1, .int .i64 6), (2, .int .i64 3), (3, .int .u8 2), (6, .int .i64 (-1))]).run Try.prog w = .ok (.agg (itC knX9)) w := by
  simp [go_sem]
  exact ⟨rfl, rfl, rfl, rfl, rfl, rfl, rfl, rfl⟩
set_option maxRecDepth 100000 in
theorem known_any : Calls Try.prog 5 #[] W fun e W' => e = .returned (.bool true) ∧ Below W.heap.size W W' := by
  have hL := LV.init W
  obtain ⟨w31, w32, w33, w34⟩ := wk3_is
  have k1 : SOk 1 wk1.2 := apply_ok wkX sok_new
  have k2 : SOk 2 wk2.2 := apply_ok wkX k1
  have k3 : SOk 3 wk3.2 := apply_ok wkY k2
  have k4 : SOk 4 kn4.2 := apply_ok knX4 k3
  have k5 : SOk 5 kn5.2 := apply_ok wkX k4
  have k6 : SOk 6 kn6.2 := apply_ok knX6 k5
  have k7 : SOk 7 kn7.2 := apply_ok knX7 k6
  have k8 : SOk 8 kn8.2 := apply_ok knX8 k7
  have k9 : SOk 9 kn9.2 := apply_ok knX9 k8
  go_enter Try.func5, Try.ntmps5
  refine wp_fr (n := 205) (m := []) ⟨rfl, rfl, by intro p hp; cases hp⟩ fun a0 H0 => ?_
  repeat (go_not_at_region 0; go_step)
  refine wp_region_lit ?_
  refine us 1 H0 rfl fun _ H1 => ?_
  refine h_end ?_
  repeat (go_not_at_region 1; go_step)
  refine wp_region_lit ?_
  refine uc 0 H1 rfl (by kernel_rfl) (shnew_any hL) ?_
  rintro e w2 ⟨A, rfl, hL⟩
  refine ⟨_, rfl, _, rfl, fun _ H2 => ?_⟩
  refine us 1 H2 rfl fun _ H3 => ?_
  refine h_end ?_
  repeat (go_not_at_region 2; go_step)
  refine wp_region_lit ?_
  refine uv 0 H3 rfl bd_wk1 rfl fun _ H4 => ?_
  refine uvS 0 H4 rfl al_it (hL.alloc _ _) rfl fun _ w5 H5 hL => ?_
  refine ustS 0 H5 rfl (st_it (x := itZ) (y := wkX) hL.at_) (hL.row _) fun _ w6 H6 hL => ?_
  refine h_end ?_
  obtain ⟨g2, hg2⟩ : ∃ g, g = w2.heap.size := ⟨_, rfl⟩
  rw [← hg2] at H6 hL
  clear hg2
  replace hL := hL.boxI
  repeat (go_not_at_region 3; go_step)
  refine wp_region_lit ?_
  refine uv 1 H6 rfl (ld_it hL.boxO.at_) rfl fun _ H7 => ?_
  refine uc 0 H7 rfl (by kernel_rfl) (apply_any (x := wkX) hL (by decide) (by decide) (fun _ => by show 0 < 100000; decide)) ?_
  rintro e w8 ⟨v1, X1, rfl, hr1, hL⟩
  refine ⟨_, rfl, _, rfl, fun _ H8 => ?_⟩
  refine us 7 H8 rfl fun _ H9 => ?_
  refine h_end ?_
  replace hL := hL.dropl
  rw [show (applyM newM wkX).1 = (1, [], true) from wk1_is] at H9 hr1
  replace hL : LV W (stT A wk1.2 [bk g2 (itC wkX) 32]) _ := hL
  repeat (go_not_at_region 4; go_step)
  refine wp_region_lit ?_
  refine uv 1 H9 rfl (ld_it hL.boxO.at_) rfl fun _ H10 => ?_
  refine uc 0 H10 rfl (by kernel_rfl) (apply_any (x := wkX) hL (by decide) (by have := k1.ml; omega) (fun i => by have := k1.cl i; omega)) ?_
  rintro e w11 ⟨v2, X2, rfl, hr2, hL⟩
  refine ⟨_, rfl, _, rfl, fun _ H11 => ?_⟩
  refine us 7 H11 rfl fun _ H12 => ?_
  refine h_end ?_
  replace hL := hL.dropl
  rw [show (applyM wk1.2 wkX).1 = (1, [], false) from wk2_is] at H12 hr2
  replace hL : LV W (stT A wk2.2 [bk g2 (itC wkX) 32]) _ := hL
  repeat (go_not_at_region 5; go_step)
  refine wp_region_lit ?_
  refine uv 1 H12 rfl bd_wk2 rfl fun _ H13 => ?_
  refine uc 0 H13 rfl (by kernel_rfl) (apply_any (x := wkY) hL (by decide) (by have := k2.ml; omega) (fun i => by have := k2.cl i; omega)) ?_
  rintro e w14 ⟨v3, X3, rfl, hr3, hL⟩
  refine ⟨_, rfl, _, rfl, fun _ H14 => ?_⟩
  refine us 7 H14 rfl fun _ H15 => ?_
  refine h_end ?_
  obtain ⟨q3, c3, rfl, hc3⟩ := prow_out hr3
  replace hL : LV W (X3 ++ stT A wk3.2 [bk g2 (itC wkX) 32]) _ := hL
  have hM : (applyM wk2.2 wkY).1.2.1 = _ := w33
  have hn : (applyM wk2.2 wkY).1.2.1.length = 1 := by rw [hM]; rfl
  rw [show (applyM wk2.2 wkY).1.1 = 1 from w31, show (applyM wk2.2 wkY).1.2.2 = true from w32, hn] at H15
  have hcc := fun w h => hc3 W [bk g2 (itC wkX) 32] w h 0 (by rw [hn]; decide)
  clear hc3 hr3
  replace hL : LV W (stT A wk3.2 (X3 ++ [bk g2 (itC wkX) 32])) _ := hL.perm (List.perm_append_comm_assoc X3 (stT A wk3.2 []) [bk g2 (itC wkX) 32])
  repeat (go_not_at_region 6; go_step)
  refine wp_region_lit ?_
  refine uv 1 H15 rfl bd_kn4 rfl fun _ H16 => ?_
  refine uc 0 H16 rfl (by kernel_rfl) (apply_any (x := knX4) hL (by decide) (by have := k3.ml; omega) (fun i => by have := k3.cl i; omega)) ?_
  rintro e w17 ⟨v4, X4, rfl, hr4, hL⟩
  refine ⟨_, rfl, _, rfl, fun _ H17 => ?_⟩
  refine us 7 H17 rfl fun _ H18 => ?_
  refine h_end ?_
  replace hL := hL.dropl
  rw [show (applyM wk3.2 knX4).1 = (2, [], true) from kn4_is] at H18 hr4
  replace hL : LV W (stT A kn4.2 (X3 ++ [bk g2 (itC wkX) 32])) _ := hL
  repeat (go_not_at_region 7; go_step)
  refine wp_region_lit ?_
  refine uv 1 H18 rfl (ld_it (x := wkX) (hL.mem_at (by simp))) rfl fun _ H19 => ?_
  refine uc 0 H19 rfl (by kernel_rfl) (apply_any (x := wkX) hL (by decide) (by have := k4.ml; omega) (fun i => by have := k4.cl i; omega)) ?_
  rintro e w20 ⟨v5, X5, rfl, hr5, hL⟩
  refine ⟨_, rfl, _, rfl, fun _ H20 => ?_⟩
  refine us 7 H20 rfl fun _ H21 => ?_
  refine h_end ?_
  replace hL := hL.dropl
  rw [show (applyM kn4.2 wkX).1 = (0, [], false) from kn5_is] at H21 hr5
  replace hL : LV W (stT A kn5.2 (X3 ++ [bk g2 (itC wkX) 32])) _ := hL
  obtain ⟨ad, hq, hcell⟩ := hcc _ (LV.dropl (X := stT A kn5.2 []) hL)
  have hs : w20.cell? (((ad.add (0 * 10)).add 2).add 1) = some (.int .i64 5) := by
    have e : ((ad.add (0 * 10)).add 2).add 1 = (ad.add (0 * 10)).add 3 := by simp [Addr.add]
    rw [e]
    exact hcell 3 _ (sum_of (by rw [hn]; decide) hM)
  clear hcell hcc
  repeat (go_not_at_region 8; go_step)
  refine wp_region_lit ?_
  refine uv 27 H21 rfl (ix_out (j := 0) hq (by decide)) rfl fun _ H22 => ?_
  refine uv 0 H22 rfl fa_o2 rfl fun _ H23 => ?_
  refine uv 0 H23 rfl fa_g1 rfl fun _ H24 => ?_
  refine uv 0 H24 rfl (ld_lon hs) rfl fun _ H25 => ?_
  refine us 18 H25 rfl fun _ H26 => ?_
  refine h_end ?_
  have H27 := H26.kp [1, 2, 18] rfl
  repeat (go_not_at_region 9; go_step)
  refine wp_region_lit ?_
  refine uv 1 H27 rfl bd_kn6 rfl fun _ H28 => ?_
  refine uc 0 H28 rfl (by kernel_rfl) (apply_any (x := knX6) hL (by decide) (by have := k5.ml; omega) (fun i => by have := k5.cl i; omega)) ?_
  rintro e w29 ⟨v6, X6, rfl, hr6, hL⟩
  refine ⟨_, rfl, _, rfl, fun _ H29 => ?_⟩
  refine us 7 H29 rfl fun _ H30 => ?_
  refine h_end ?_
  replace hL := hL.dropl
  rw [show (applyM kn5.2 knX6).1 = (4, [], false) from kn6_is] at H30 hr6
  replace hL : LV W (stT A kn6.2 (X3 ++ [bk g2 (itC wkX) 32])) _ := hL
  repeat (go_not_at_region 10; go_step)
  refine wp_region_lit ?_
  refine uv 1 H30 rfl bd_kn7 rfl fun _ H31 => ?_
  refine uc 0 H31 rfl (by kernel_rfl) (apply_any (x := knX7) hL (by decide) (by have := k6.ml; omega) (fun i => by have := k6.cl i; omega)) ?_
  rintro e w32 ⟨v7, X7, rfl, hr7, hL⟩
  refine ⟨_, rfl, _, rfl, fun _ H32 => ?_⟩
  refine us 7 H32 rfl fun _ H33 => ?_
  refine h_end ?_
  replace hL := hL.dropl
  rw [show (applyM kn6.2 knX7).1 = (4, [], true) from kn7_is] at H33 hr7
  replace hL : LV W (stT A kn7.2 (X3 ++ [bk g2 (itC wkX) 32])) _ := hL
  repeat (go_not_at_region 11; go_step)
  refine wp_region_lit ?_
  refine uv 1 H33 rfl bd_kn8 rfl fun _ H34 => ?_
  refine uc 0 H34 rfl (by kernel_rfl) (apply_any (x := knX8) hL (by decide) (by have := k7.ml; omega) (fun i => by have := k7.cl i; omega)) ?_
  rintro e w35 ⟨v8, X8, rfl, hr8, hL⟩
  refine ⟨_, rfl, _, rfl, fun _ H35 => ?_⟩
  refine us 7 H35 rfl fun _ H36 => ?_
  refine h_end ?_
  obtain ⟨q8, c8, rfl, _⟩ := prow_out hr8
  replace hL := hL.dropl
  rw [show (applyM kn7.2 knX8).1 = (1, [], true) from kn8_is] at H36 hr8
  replace hL : LV W (stT A kn8.2 (X3 ++ [bk g2 (itC wkX) 32])) _ := hL
  repeat (go_not_at_region 12; go_step)
  refine wp_region_lit ?_
  refine uv 1 H36 rfl bd_kn9 rfl fun _ H37 => ?_
  refine uc 0 H37 rfl (by kernel_rfl) (apply_any (x := knX9) hL (by decide) (by have := k8.ml; omega) (fun i => by have := k8.cl i; omega)) ?_
  rintro e w38 ⟨v9, X9, rfl, hr9, hL⟩
  refine ⟨_, rfl, _, rfl, fun _ H38 => ?_⟩
  refine us 7 H38 rfl fun _ H39 => ?_
  refine h_end ?_
  replace hL := hL.dropl
  rw [show (applyM kn8.2 knX9).1 = (4, [], true) from kn9_is] at H39 hr9
  replace hL : LV W (stT A kn9.2 (X3 ++ [bk g2 (itC wkX) 32])) _ := hL
  repeat (go_not_at_region 13; go_step)
  refine wp_region_lit ?_
  refine uc 37 H39 rfl (by kernel_rfl) (shans_any hL (fun i => k9.cd (by decide) i)) ?_
  rintro e w40 ⟨va, Xa, rfl, hra, hL⟩
  replace hL := hL.dropl
  obtain ⟨qa, na, rfl, _⟩ := prow_rd (enc := enC) (fun _ => rfl) hra
  refine ⟨_, rfl, _, rfl, fun _ H40 => ?_⟩
  refine uv 1 H40 rfl (eq_t (by rw [kn_an]; rfl)) rfl fun _ H41 => ?_
  refine uc 3 H41 rfl (by kernel_rfl) (shmark_any hL) ?_
  rintro e w42 ⟨rfl, hL⟩
  refine ⟨_, rfl, _, rfl, fun _ H42 => ?_⟩
  refine uv 0 H42 rfl (eq_t kn_mk) rfl fun _ H43 => ?_
  refine uc 4 H43 rfl (by kernel_rfl) (shtwin_any hL) ?_
  rintro e w44 ⟨B, rfl, hL⟩
  refine ⟨_, rfl, _, rfl, fun _ H44 => ?_⟩
  refine uc 0 H44 rfl (by kernel_rfl) (shsame_any (LV.two (X := []) hL) (by have := k9.ml; omega) (by have := k9.ml; omega) (fun i => k9.cd (by decide) i) (fun i => k9.cd (by decide) i)) ?_
  rintro e w45 ⟨he, hL⟩
  rw [sameS_refl] at he
  subst he
  replace hL := LV.dropl (X := stT B kn9.2 []) (LV.two (X := []) hL)
  refine ⟨_, rfl, _, rfl, fun _ H45 => ?_⟩
  refine uc 3 H45 rfl (by kernel_rfl) (shnew_any hL) ?_
  rintro e w46 ⟨C, rfl, hL⟩
  refine ⟨_, rfl, _, rfl, fun _ H46 => ?_⟩
  refine uc 0 H46 rfl (by kernel_rfl) (shsame_any (LV.two (X := []) hL) (by have := k9.ml; omega) (by decide) (fun i => k9.cd (by decide) i) (fun i => sok_new.cd (by decide) i)) ?_
  rintro e w47 ⟨he, hL⟩
  rw [kn_no] at he
  subst he
  refine ⟨_, rfl, _, rfl, fun _ H47 => ?_⟩
  refine uc 3 H47 rfl (by kernel_rfl) wakes_ok ?_
  rintro e w48 ⟨rfl, hb⟩
  replace hL := hL.call hb
  refine ⟨_, rfl, _, rfl, fun _ H48 => ?_⟩
  refine us 2 H48 rfl fun _ H49 => ?_
  refine h_end ?_
  repeat (go_not_at_region 999; go_step)
  exact H49.ret1 rfl rfl ⟨rfl, hL.1⟩
end
end Go.Proofs.Ytnjfjdfjheiocaa
