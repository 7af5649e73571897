/-
  What a nil state answers.
-/
import Derived.Test.YtnjfjdfjheiocaaGreatShTw
set_option linter.unusedSimpArgs false
set_option linter.unusedVariables false
namespace Go.Proofs.YtnjfjdfjheiocaaGreat
open Go.RowKit
section
variable {w W w0 : World} {L : List Thg} {x : PItem} {A : Adr} {S : PSt}
theorem shmark_nil : Calls Tryz.prog 25 #[.pointer none] w fun e W' => e = .returned (.int .i64 0) ∧ W' = w := by
  go_enter Tryz.func25, Tryz.ntmps25
  refine wp_fr (n := 10) (m := [(0, _)]) ⟨rfl, rfl, by intro p hp; simp only [List.mem_cons, List.not_mem_nil, or_false] at hp; rcases hp with rfl <;> rfl⟩ fun a0 H0 => ?_
  repeat (go_not_at_region 0; go_step)
  refine wp_region_lit ?_
  refine us 1 H0 rfl fun _ H1 => ?_
  refine h_end ?_
  repeat (go_not_at_region 1; go_step)
  refine wp_region_lit ?_
  refine uc 1 H1 rfl (by kernel_rfl) (shnone_nil) ?_
  rintro e w2 ⟨rfl, rfl⟩
  refine ⟨_, rfl, _, rfl, fun _ H2 => ?_⟩
  refine h_end ?_
  repeat (go_not_at_region 2; go_step)
  refine wp_cond_true (H2.ev (x := .tmp 4) rfl) ?_
  repeat (go_not_at_region 2; go_step)
  refine wp_region_lit ?_
  refine us 1 H2 rfl fun _ H3 => ?_
  refine h_end ?_
  repeat (go_not_at_region 999; go_step)
  exact H3.ret1 rfl rfl ⟨rfl, rfl⟩
theorem shopen_nil : Calls Tryz.prog 28 #[.pointer none] w fun e W' => e = .returned (.slice none 0 0) ∧ W' = w := by
  go_enter Tryz.func28, Tryz.ntmps28
  refine wp_fr (n := 10) (m := [(0, _)]) ⟨rfl, rfl, by intro p hp; simp only [List.mem_cons, List.not_mem_nil, or_false] at hp; rcases hp with rfl <;> rfl⟩ fun a0 H0 => ?_
  repeat (go_not_at_region 0; go_step)
  refine wp_region_lit ?_
  refine us 1 H0 rfl fun _ H1 => ?_
  refine h_end ?_
  repeat (go_not_at_region 1; go_step)
  refine wp_region_lit ?_
  refine uc 1 H1 rfl (by kernel_rfl) (shnone_nil) ?_
  rintro e w2 ⟨rfl, rfl⟩
  refine ⟨_, rfl, _, rfl, fun _ H2 => ?_⟩
  refine h_end ?_
  repeat (go_not_at_region 2; go_step)
  refine wp_cond_true (H2.ev (x := .tmp 4) rfl) ?_
  repeat (go_not_at_region 2; go_step)
  refine wp_region_lit ?_
  refine us 1 H2 rfl fun _ H3 => ?_
  refine h_end ?_
  repeat (go_not_at_region 999; go_step)
  exact H3.ret1 rfl rfl ⟨rfl, rfl⟩
theorem shlows_nil : Calls Tryz.prog 29 #[.pointer none] w fun e W' => e = .returned (.slice none 0 0) ∧ W' = w := by
  go_enter Tryz.func29, Tryz.ntmps29
  refine wp_fr (n := 10) (m := [(0, _)]) ⟨rfl, rfl, by intro p hp; simp only [List.mem_cons, List.not_mem_nil, or_false] at hp; rcases hp with rfl <;> rfl⟩ fun a0 H0 => ?_
  repeat (go_not_at_region 0; go_step)
  refine wp_region_lit ?_
  refine us 1 H0 rfl fun _ H1 => ?_
  refine h_end ?_
  repeat (go_not_at_region 1; go_step)
  refine wp_region_lit ?_
  refine uc 1 H1 rfl (by kernel_rfl) (shnone_nil) ?_
  rintro e w2 ⟨rfl, rfl⟩
  refine ⟨_, rfl, _, rfl, fun _ H2 => ?_⟩
  refine h_end ?_
  repeat (go_not_at_region 2; go_step)
  refine wp_cond_true (H2.ev (x := .tmp 4) rfl) ?_
  repeat (go_not_at_region 2; go_step)
  refine wp_region_lit ?_
  refine us 1 H2 rfl fun _ H3 => ?_
  refine h_end ?_
  repeat (go_not_at_region 999; go_step)
  exact H3.ret1 rfl rfl ⟨rfl, rfl⟩
theorem shans_nil : Calls Tryz.prog 30 #[.pointer none] w fun e W' => e = .returned (.slice none 0 0) ∧ W' = w := by
  go_enter Tryz.func30, Tryz.ntmps30
  refine wp_fr (n := 10) (m := [(0, _)]) ⟨rfl, rfl, by intro p hp; simp only [List.mem_cons, List.not_mem_nil, or_false] at hp; rcases hp with rfl <;> rfl⟩ fun a0 H0 => ?_
  repeat (go_not_at_region 0; go_step)
  refine wp_region_lit ?_
  refine us 1 H0 rfl fun _ H1 => ?_
  refine h_end ?_
  repeat (go_not_at_region 1; go_step)
  refine wp_region_lit ?_
  refine uc 1 H1 rfl (by kernel_rfl) (shnone_nil) ?_
  rintro e w2 ⟨rfl, rfl⟩
  refine ⟨_, rfl, _, rfl, fun _ H2 => ?_⟩
  refine h_end ?_
  repeat (go_not_at_region 2; go_step)
  refine wp_cond_true (H2.ev (x := .tmp 4) rfl) ?_
  repeat (go_not_at_region 2; go_step)
  refine wp_region_lit ?_
  refine us 1 H2 rfl fun _ H3 => ?_
  refine h_end ?_
  repeat (go_not_at_region 999; go_step)
  exact H3.ret1 rfl rfl ⟨rfl, rfl⟩
theorem shtwin_nil : Calls Tryz.prog 24 #[.pointer none] w fun e W' => e = .returned (.pointer none) ∧ W' = w := by
  go_enter Tryz.func24, Tryz.ntmps24
  refine wp_fr (n := 17) (m := [(0, _)]) ⟨rfl, rfl, by intro p hp; simp only [List.mem_cons, List.not_mem_nil, or_false] at hp; rcases hp with rfl <;> rfl⟩ fun a0 H0 => ?_
  repeat (go_not_at_region 0; go_step)
  refine wp_region_lit ?_
  refine us 1 H0 rfl fun _ H1 => ?_
  refine h_end ?_
  repeat (go_not_at_region 1; go_step)
  refine wp_region_lit ?_
  refine uc 1 H1 rfl (by kernel_rfl) (shnone_nil) ?_
  rintro e w2 ⟨rfl, rfl⟩
  refine ⟨_, rfl, _, rfl, fun _ H2 => ?_⟩
  refine h_end ?_
  repeat (go_not_at_region 2; go_step)
  refine wp_cond_true (H2.ev (x := .tmp 4) rfl) ?_
  repeat (go_not_at_region 2; go_step)
  refine wp_region_lit ?_
  refine us 1 H2 rfl fun _ H3 => ?_
  refine h_end ?_
  repeat (go_not_at_region 999; go_step)
  exact H3.ret1 rfl rfl ⟨rfl, rfl⟩
theorem apply_nil (hL : LV w0 L W) : Calls Tryz.prog 13 #[.pointer none, .agg (itC x)] W fun e W' => e = .returned (.tuple #[.int .i64 4, .slice none 0 0, .bool false]) ∧ LV w0 L W' := by
  go_enter Tryz.func13, Tryz.ntmps13
  refine wp_fr (n := 51) (m := [(0, _), (1, _)]) ⟨rfl, rfl, by intro p hp; simp only [List.mem_cons, List.not_mem_nil, or_false] at hp; rcases hp with rfl | rfl <;> rfl⟩ fun a0 H0 => ?_
  repeat (go_not_at_region 0; go_step)
  refine wp_region_lit ?_
  refine uvS 0 H0 rfl bx_it (hL.alloc _ _) rfl fun _ w1 H1 hL => ?_
  refine us 3 H1 rfl fun _ H2 => ?_
  refine h_end ?_
  repeat (go_not_at_region 1; go_step)
  refine wp_region_lit ?_
  refine uc 1 H2 rfl (by kernel_rfl) (shnone_nil) ?_
  rintro e w3 ⟨rfl, rfl⟩
  refine ⟨_, rfl, _, rfl, fun _ H3 => ?_⟩
  refine h_end ?_
  repeat (go_not_at_region 2; go_step)
  refine wp_cond_true (H3.ev (x := .tmp 10) rfl) ?_
  repeat (go_not_at_region 2; go_step)
  refine wp_region_lit ?_
  refine us 3 H3 rfl fun _ H4 => ?_
  refine h_end ?_
  repeat (go_not_at_region 999; go_step)
  exact H4.ret3 rfl rfl rfl rfl ⟨rfl, hL.tail⟩
theorem shsame_nn : Calls Tryz.prog 26 #[.pointer none, .pointer none] w fun e W' => e = .returned (.bool true) ∧ W' = w := by
  go_enter Tryz.func26, Tryz.ntmps26
  refine wp_fr (n := 43) (m := [(0, _), (1, _)]) ⟨rfl, rfl, by intro p hp; simp only [List.mem_cons, List.not_mem_nil, or_false] at hp; rcases hp with rfl | rfl <;> rfl⟩ fun a0 H0 => ?_
  repeat (go_not_at_region 0; go_step)
  refine wp_region_lit ?_
  refine us 1 H0 rfl fun _ H1 => ?_
  refine h_end ?_
  repeat (go_not_at_region 1; go_step)
  refine wp_region_lit ?_
  refine uc 1 H1 rfl (by kernel_rfl) (shnone_nil) ?_
  rintro e w2 ⟨rfl, rfl⟩
  refine ⟨_, rfl, _, rfl, fun _ H2 => ?_⟩
  refine us 4 H2 rfl fun _ H3 => ?_
  refine h_end ?_
  repeat (go_not_at_region 2; go_step)
  refine wp_cond_true (H3.ev (x := .tmp 10) rfl) ?_
  repeat (go_not_at_region 2; go_step)
  refine wp_region_lit ?_
  refine uc 1 H3 rfl (by kernel_rfl) (shnone_nil) ?_
  rintro e w4 ⟨rfl, rfl⟩
  refine ⟨_, rfl, _, rfl, fun _ H4 => ?_⟩
  refine uc 2 H4 rfl (by kernel_rfl) (shnone_nil) ?_
  rintro e w5 ⟨rfl, rfl⟩
  refine ⟨_, rfl, _, rfl, fun _ H5 => ?_⟩
  refine us 2 H5 rfl fun _ H6 => ?_
  refine h_end ?_
  repeat (go_not_at_region 999; go_step)
  exact H6.ret1 rfl rfl ⟨rfl, rfl⟩
theorem shsame_nA (hL : LV w0 (stT A S L) W) : Calls Tryz.prog 26 #[.pointer none, .pointer (some ⟨A.g, 0, none⟩)] W fun e W' => e = .returned (.bool false) ∧ W' = W := by
  go_enter Tryz.func26, Tryz.ntmps26
  refine wp_fr (n := 43) (m := [(0, _), (1, _)]) ⟨rfl, rfl, by intro p hp; simp only [List.mem_cons, List.not_mem_nil, or_false] at hp; rcases hp with rfl | rfl <;> rfl⟩ fun a0 H0 => ?_
  repeat (go_not_at_region 0; go_step)
  refine wp_region_lit ?_
  refine us 1 H0 rfl fun _ H1 => ?_
  refine h_end ?_
  repeat (go_not_at_region 1; go_step)
  refine wp_region_lit ?_
  refine uc 1 H1 rfl (by kernel_rfl) (shnone_nil) ?_
  rintro e w2 ⟨rfl, rfl⟩
  refine ⟨_, rfl, _, rfl, fun _ H2 => ?_⟩
  refine us 4 H2 rfl fun _ H3 => ?_
  refine h_end ?_
  repeat (go_not_at_region 2; go_step)
  refine wp_cond_true (H3.ev (x := .tmp 10) rfl) ?_
  repeat (go_not_at_region 2; go_step)
  refine wp_region_lit ?_
  refine uc 1 H3 rfl (by kernel_rfl) (shnone_nil) ?_
  rintro e w4 ⟨rfl, rfl⟩
  refine ⟨_, rfl, _, rfl, fun _ H4 => ?_⟩
  refine uc 2 H4 rfl (by kernel_rfl) (shnone_any hL.at_) ?_
  rintro e w5 ⟨rfl, rfl⟩
  refine ⟨_, rfl, _, rfl, fun _ H5 => ?_⟩
  refine us 2 H5 rfl fun _ H6 => ?_
  refine h_end ?_
  repeat (go_not_at_region 999; go_step)
  exact H6.ret1 rfl rfl ⟨rfl, rfl⟩
end
end Go.Proofs.YtnjfjdfjheiocaaGreat
