/-
  ShardNobody: what a nil state answers; the law's walk.
-/
import Derived.Test.YtnjfjdfjheiocaaShTw
set_option linter.unusedSimpArgs false
set_option linter.unusedVariables false
namespace Go.Proofs.Ytnjfjdfjheiocaa
open Go.RowKit
section
variable {w W w0 : World} {L : List Thg} {x : PItem} {A : Adr} {S : PSt}
theorem shmark_nil : Calls Try.prog 12 #[.pointer none] w fun e W' => e = .returned (.int .i64 0) ∧ W' = w := by
  go_enter Try.func12, Try.ntmps12
  refine wp_fr (n := 10) (m := [(0, _)]) ⟨rfl, rfl, by intro p hp; simp only [List.mem_cons, List.not_mem_nil, or_false] at hp; rcases hp with rfl <;> rfl⟩ fun a0 H0 => ?_
  repeat (go_not_at_region 0; go_step)
  refine wp_region_lit ?_
  refine us 1 H0 rfl fun _ H1 => ?_
  refine h_end ?_
  repeat (go_not_at_region 1; go_step)
  refine wp_region_lit ?_
  refine uc 1 H1 rfl (by kernel_rfl) (shnone_nil) ?_
  rintro e w2 ⟨rfl, rfl⟩
  refine ⟨_, rfl, _, rfl, fun _ H2 => ?_⟩
  refine h_end ?_
  repeat (go_not_at_region 2; go_step)
  refine wp_cond_true (H2.ev (x := .tmp 4) rfl) ?_
  repeat (go_not_at_region 2; go_step)
  refine wp_region_lit ?_
  refine us 1 H2 rfl fun _ H3 => ?_
  refine h_end ?_
  repeat (go_not_at_region 999; go_step)
  exact H3.ret1 rfl rfl ⟨rfl, rfl⟩
theorem shopen_nil : Calls Try.prog 13 #[.pointer none] w fun e W' => e = .returned (.slice none 0 0) ∧ W' = w := by
  go_enter Try.func13, Try.ntmps13
  refine wp_fr (n := 10) (m := [(0, _)]) ⟨rfl, rfl, by intro p hp; simp only [List.mem_cons, List.not_mem_nil, or_false] at hp; rcases hp with rfl <;> rfl⟩ fun a0 H0 => ?_
  repeat (go_not_at_region 0; go_step)
  refine wp_region_lit ?_
  refine us 1 H0 rfl fun _ H1 => ?_
  refine h_end ?_
  repeat (go_not_at_region 1; go_step)
  refine wp_region_lit ?_
  refine uc 1 H1 rfl (by kernel_rfl) (shnone_nil) ?_
  rintro e w2 ⟨rfl, rfl⟩
  refine ⟨_, rfl, _, rfl, fun _ H2 => ?_⟩
  refine h_end ?_
  repeat (go_not_at_region 2; go_step)
  refine wp_cond_true (H2.ev (x := .tmp 4) rfl) ?_
  repeat (go_not_at_region 2; go_step)
  refine wp_region_lit ?_
  refine us 1 H2 rfl fun _ H3 => ?_
  refine h_end ?_
  repeat (go_not_at_region 999; go_step)
  exact H3.ret1 rfl rfl ⟨rfl, rfl⟩
theorem shlows_nil : Calls Try.prog 14 #[.pointer none] w fun e W' => e = .returned (.slice none 0 0) ∧ W' = w := by
  go_enter Try.func14, Try.ntmps14
  refine wp_fr (n := 10) (m := [(0, _)]) ⟨rfl, rfl, by intro p hp; simp only [List.mem_cons, List.not_mem_nil, or_false] at hp; rcases hp with rfl <;> rfl⟩ fun a0 H0 => ?_
  repeat (go_not_at_region 0; go_step)
  refine wp_region_lit ?_
  refine us 1 H0 rfl fun _ H1 => ?_
  refine h_end ?_
  repeat (go_not_at_region 1; go_step)
  refine wp_region_lit ?_
  refine uc 1 H1 rfl (by kernel_rfl) (shnone_nil) ?_
  rintro e w2 ⟨rfl, rfl⟩
  refine ⟨_, rfl, _, rfl, fun _ H2 => ?_⟩
  refine h_end ?_
  repeat (go_not_at_region 2; go_step)
  refine wp_cond_true (H2.ev (x := .tmp 4) rfl) ?_
  repeat (go_not_at_region 2; go_step)
  refine wp_region_lit ?_
  refine us 1 H2 rfl fun _ H3 => ?_
  refine h_end ?_
  repeat (go_not_at_region 999; go_step)
  exact H3.ret1 rfl rfl ⟨rfl, rfl⟩
theorem shans_nil : Calls Try.prog 15 #[.pointer none] w fun e W' => e = .returned (.slice none 0 0) ∧ W' = w := by
  go_enter Try.func15, Try.ntmps15
  refine wp_fr (n := 10) (m := [(0, _)]) ⟨rfl, rfl, by intro p hp; simp only [List.mem_cons, List.not_mem_nil, or_false] at hp; rcases hp with rfl <;> rfl⟩ fun a0 H0 => ?_
  repeat (go_not_at_region 0; go_step)
  refine wp_region_lit ?_
  refine us 1 H0 rfl fun _ H1 => ?_
  refine h_end ?_
  repeat (go_not_at_region 1; go_step)
  refine wp_region_lit ?_
  refine uc 1 H1 rfl (by kernel_rfl) (shnone_nil) ?_
  rintro e w2 ⟨rfl, rfl⟩
  refine ⟨_, rfl, _, rfl, fun _ H2 => ?_⟩
  refine h_end ?_
  repeat (go_not_at_region 2; go_step)
  refine wp_cond_true (H2.ev (x := .tmp 4) rfl) ?_
  repeat (go_not_at_region 2; go_step)
  refine wp_region_lit ?_
  refine us 1 H2 rfl fun _ H3 => ?_
  refine h_end ?_
  repeat (go_not_at_region 999; go_step)
  exact H3.ret1 rfl rfl ⟨rfl, rfl⟩
theorem shtwin_nil : Calls Try.prog 16 #[.pointer none] w fun e W' => e = .returned (.pointer none) ∧ W' = w := by
  go_enter Try.func16, Try.ntmps16
  refine wp_fr (n := 17) (m := [(0, _)]) ⟨rfl, rfl, by intro p hp; simp only [List.mem_cons, List.not_mem_nil, or_false] at hp; rcases hp with rfl <;> rfl⟩ fun a0 H0 => ?_
  repeat (go_not_at_region 0; go_step)
  refine wp_region_lit ?_
  refine us 1 H0 rfl fun _ H1 => ?_
  refine h_end ?_
  repeat (go_not_at_region 1; go_step)
  refine wp_region_lit ?_
  refine uc 1 H1 rfl (by kernel_rfl) (shnone_nil) ?_
  rintro e w2 ⟨rfl, rfl⟩
  refine ⟨_, rfl, _, rfl, fun _ H2 => ?_⟩
  refine h_end ?_
  repeat (go_not_at_region 2; go_step)
  refine wp_cond_true (H2.ev (x := .tmp 4) rfl) ?_
  repeat (go_not_at_region 2; go_step)
  refine wp_region_lit ?_
  refine us 1 H2 rfl fun _ H3 => ?_
  refine h_end ?_
  repeat (go_not_at_region 999; go_step)
  exact H3.ret1 rfl rfl ⟨rfl, rfl⟩
theorem apply_nil (hL : LV w0 L W) : Calls Try.prog 9 #[.pointer none, .agg (itC x)] W fun e W' => e = .returned (.tuple #[.int .i64 4, .slice none 0 0, .bool false]) ∧ LV w0 L W' := by
  go_enter Try.func9, Try.ntmps9
  refine wp_fr (n := 51) (m := [(0, _), (1, _)]) ⟨rfl, rfl, by intro p hp; simp only [List.mem_cons, List.not_mem_nil, or_false] at hp; rcases hp with rfl | rfl <;> rfl⟩ fun a0 H0 => ?_
  repeat (go_not_at_region 0; go_step)
  refine wp_region_lit ?_
  refine uvS 0 H0 rfl bx_it (hL.alloc _ _) rfl fun _ w1 H1 hL => ?_
  refine us 3 H1 rfl fun _ H2 => ?_
  refine h_end ?_
  repeat (go_not_at_region 1; go_step)
  refine wp_region_lit ?_
  refine uc 1 H2 rfl (by kernel_rfl) (shnone_nil) ?_
  rintro e w3 ⟨rfl, rfl⟩
  refine ⟨_, rfl, _, rfl, fun _ H3 => ?_⟩
  refine h_end ?_
  repeat (go_not_at_region 2; go_step)
  refine wp_cond_true (H3.ev (x := .tmp 10) rfl) ?_
  repeat (go_not_at_region 2; go_step)
  refine wp_region_lit ?_
  refine us 3 H3 rfl fun _ H4 => ?_
  refine h_end ?_
  repeat (go_not_at_region 999; go_step)
  exact H4.ret3 rfl rfl rfl rfl ⟨rfl, hL.tail⟩
theorem shsame_nn : Calls Try.prog 11 #[.pointer none, .pointer none] w fun e W' => e = .returned (.bool true) ∧ W' = w := by
  go_enter Try.func11, Try.ntmps11
  refine wp_fr (n := 43) (m := [(0, _), (1, _)]) ⟨rfl, rfl, by intro p hp; simp only [List.mem_cons, List.not_mem_nil, or_false] at hp; rcases hp with rfl | rfl <;> rfl⟩ fun a0 H0 => ?_
  repeat (go_not_at_region 0; go_step)
  refine wp_region_lit ?_
  refine us 1 H0 rfl fun _ H1 => ?_
  refine h_end ?_
  repeat (go_not_at_region 1; go_step)
  refine wp_region_lit ?_
  refine uc 1 H1 rfl (by kernel_rfl) (shnone_nil) ?_
  rintro e w2 ⟨rfl, rfl⟩
  refine ⟨_, rfl, _, rfl, fun _ H2 => ?_⟩
  refine us 4 H2 rfl fun _ H3 => ?_
  refine h_end ?_
  repeat (go_not_at_region 2; go_step)
  refine wp_cond_true (H3.ev (x := .tmp 10) rfl) ?_
  repeat (go_not_at_region 2; go_step)
  refine wp_region_lit ?_
  refine uc 1 H3 rfl (by kernel_rfl) (shnone_nil) ?_
  rintro e w4 ⟨rfl, rfl⟩
  refine ⟨_, rfl, _, rfl, fun _ H4 => ?_⟩
  refine uc 2 H4 rfl (by kernel_rfl) (shnone_nil) ?_
  rintro e w5 ⟨rfl, rfl⟩
  refine ⟨_, rfl, _, rfl, fun _ H5 => ?_⟩
  refine us 2 H5 rfl fun _ H6 => ?_
  refine h_end ?_
  repeat (go_not_at_region 999; go_step)
  exact H6.ret1 rfl rfl ⟨rfl, rfl⟩
theorem shsame_nA (hL : LV w0 (stT A S L) W) : Calls Try.prog 11 #[.pointer none, .pointer (some ⟨A.g, 0, none⟩)] W fun e W' => e = .returned (.bool false) ∧ W' = W := by
  go_enter Try.func11, Try.ntmps11
  refine wp_fr (n := 43) (m := [(0, _), (1, _)]) ⟨rfl, rfl, by intro p hp; simp only [List.mem_cons, List.not_mem_nil, or_false] at hp; rcases hp with rfl | rfl <;> rfl⟩ fun a0 H0 => ?_
  repeat (go_not_at_region 0; go_step)
  refine wp_region_lit ?_
  refine us 1 H0 rfl fun _ H1 => ?_
  refine h_end ?_
  repeat (go_not_at_region 1; go_step)
  refine wp_region_lit ?_
  refine uc 1 H1 rfl (by kernel_rfl) (shnone_nil) ?_
  rintro e w2 ⟨rfl, rfl⟩
  refine ⟨_, rfl, _, rfl, fun _ H2 => ?_⟩
  refine us 4 H2 rfl fun _ H3 => ?_
  refine h_end ?_
  repeat (go_not_at_region 2; go_step)
  refine wp_cond_true (H3.ev (x := .tmp 10) rfl) ?_
  repeat (go_not_at_region 2; go_step)
  refine wp_region_lit ?_
  refine uc 1 H3 rfl (by kernel_rfl) (shnone_nil) ?_
  rintro e w4 ⟨rfl, rfl⟩
  refine ⟨_, rfl, _, rfl, fun _ H4 => ?_⟩
  refine uc 2 H4 rfl (by kernel_rfl) (shnone_any hL.at_) ?_
  rintro e w5 ⟨rfl, rfl⟩
  refine ⟨_, rfl, _, rfl, fun _ H5 => ?_⟩
  refine us 2 H5 rfl fun _ H6 => ?_
  refine h_end ?_
  repeat (go_not_at_region 999; go_step)
  exact H6.ret1 rfl rfl ⟨rfl, rfl⟩
set_option maxRecDepth 100000 in
theorem nobody_any : Calls Try.prog 4 #[.agg (itC x)] W fun e W' => e = .returned (.bool true) ∧ Below W.heap.size W W' := by
  have hL := LV.init W
  go_enter Try.func4, Try.ntmps4
  refine wp_fr (n := 66) (m := [(0, _)]) ⟨rfl, rfl, by intro p hp; simp only [List.mem_cons, List.not_mem_nil, or_false] at hp; rcases hp with rfl <;> rfl⟩ fun a0 H0 => ?_
  repeat (go_not_at_region 0; go_step)
  refine wp_region_lit ?_
  refine uvS 0 H0 rfl bx_it (hL.alloc _ _) rfl fun _ w1 H1 hL => ?_
  refine us 1 H1 rfl fun _ H2 => ?_
  refine h_end ?_
  repeat (go_not_at_region 1; go_step)
  refine wp_region_lit ?_
  refine us 1 H2 rfl fun _ H3 => ?_
  refine h_end ?_
  repeat (go_not_at_region 2; go_step)
  refine wp_region_lit ?_
  refine uv 1 H3 rfl (ld_it hL.at_) rfl fun _ H4 => ?_
  refine uc 0 H4 rfl (by kernel_rfl) (apply_nil hL) ?_
  rintro e w5 ⟨rfl, hL⟩
  refine ⟨_, rfl, _, rfl, fun _ H5 => ?_⟩
  refine us 7 H5 rfl fun _ H6 => ?_
  refine h_end ?_
  repeat (go_not_at_region 3; go_step)
  refine wp_region_lit ?_
  refine uc 13 H6 rfl (by kernel_rfl) (shmark_nil) ?_
  rintro e w7 ⟨rfl, rfl⟩
  refine ⟨_, rfl, _, rfl, fun _ H7 => ?_⟩
  refine uc 4 H7 rfl (by kernel_rfl) (shopen_nil) ?_
  rintro e w8 ⟨rfl, rfl⟩
  refine ⟨_, rfl, _, rfl, fun _ H8 => ?_⟩
  refine uc 5 H8 rfl (by kernel_rfl) (shlows_nil) ?_
  rintro e w9 ⟨rfl, rfl⟩
  refine ⟨_, rfl, _, rfl, fun _ H9 => ?_⟩
  refine uc 5 H9 rfl (by kernel_rfl) (shans_nil) ?_
  rintro e w10 ⟨rfl, rfl⟩
  refine ⟨_, rfl, _, rfl, fun _ H10 => ?_⟩
  refine uc 5 H10 rfl (by kernel_rfl) (shtwin_nil) ?_
  rintro e w11 ⟨rfl, rfl⟩
  refine ⟨_, rfl, _, rfl, fun _ H11 => ?_⟩
  refine uc 4 H11 rfl (by kernel_rfl) (shsame_nn) ?_
  rintro e w12 ⟨rfl, rfl⟩
  refine ⟨_, rfl, _, rfl, fun _ H12 => ?_⟩
  refine uc 3 H12 rfl (by kernel_rfl) (shnew_any hL) ?_
  rintro e w13 ⟨C, rfl, hL⟩
  refine ⟨_, rfl, _, rfl, fun _ H13 => ?_⟩
  refine uc 0 H13 rfl (by kernel_rfl) (shsame_nA hL) ?_
  rintro e w14 ⟨rfl, rfl⟩
  refine ⟨_, rfl, _, rfl, fun _ H14 => ?_⟩
  refine uc 3 H14 rfl (by kernel_rfl) wakes_ok ?_
  rintro e w15 ⟨rfl, hb⟩
  replace hL := hL.call hb
  refine ⟨_, rfl, _, rfl, fun _ H15 => ?_⟩
  refine us 2 H15 rfl fun _ H16 => ?_
  refine h_end ?_
  repeat (go_not_at_region 999; go_step)
  exact H16.ret1 rfl rfl ⟨rfl, hL.1⟩
end
end Go.Proofs.Ytnjfjdfjheiocaa
