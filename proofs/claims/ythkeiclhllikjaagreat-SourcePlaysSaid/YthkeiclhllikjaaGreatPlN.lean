/-
  No source: what it does.
-/
import Derived.Test.YthkeiclhllikjaaGreatPlH
set_option linter.unusedSimpArgs false
set_option linter.unusedVariables false
namespace Go.Proofs.YthkeiclhllikjaaGreat
open Go.RowKit R
section
variable {w0 W w : World} {p : Nat} {x : PItem} {m : PMsg} {vo vs : Value} {k : Int}
def srZ : Array Value := #[.int .i64 0, .int .i64 0, .int .i64 0, .slice none 0 0, .map none, .map none, .int .i64 0, .int .i64 0]
theorem ld_miN {a : Addr} (h : w.cell? a = some (.map none)) : (Instr.loadAt 58 (.pointer (some a))).run Tryz.prog w = .ok (.map none) w := by simp [go_sem, h]
theorem bd_srZ : (Instr.build 60 #[]).run Tryz.prog w = .ok (.agg srZ) w := by
 simp [go_sem]
 rfl
theorem bx_srZ : (Instr.box 60 (.agg srZ)).run Tryz.prog w = .ok (.pointer (some ⟨w.heap.size, 0, none⟩)) (w.alloc (.cells srZ 60)) := by
 simp [go_sem]
theorem bd_it1 : (Instr.build 33 #[(3, .int .u8 1)]).run Tryz.prog w = .ok (.agg (itC ⟨0, 0, 0, 1, .empty, 0, 0, 0⟩)) w := by
 simp [go_sem]
 rfl
theorem bd_tb0 : (Instr.build 28 #[]).run Tryz.prog w = .ok (.agg (tbC ⟨0, 0, []⟩ (.slice none 0 0))) w := by
 simp [go_sem]
set_option maxRecDepth 100000 in
theorem none_zero (h : w.cell? ⟨p, 4, none⟩ = some (.map none)) : Calls Tryz.prog 33 #[.pointer (some ⟨p, 0, none⟩)] w fun e W' => e = .returned (.bool true) ∧ W' = w := by
 go_enter Tryz.func33, Tryz.ntmps33
 refine wp_fr (n := 12) (m := [(0, _)]) ⟨rfl, rfl, by intro p hp; simp only [List.mem_cons, List.not_mem_nil, or_false] at hp; rcases hp with rfl <;> rfl⟩ fun a0 H0 => ?_
 repeat (go_not_at_region 0; go_step)
 refine wp_region_lit ?_
 refine h_o H0 rfl (R_as H0 rfl rfl) (P1 0 rfl) fun _ H1 => ?_
 refine h_end ?_
 repeat (go_not_at_region 1; go_step)
 refine wp_region_lit ?_
 refine h_o H1 rfl (R_mv H1 rfl rfl) (P2 3 0 rfl rfl) fun _ H2 => ?_
 refine h_o H2 rfl (R_bin H2 rfl rfl rfl B_pn) (P2 4 0 rfl rfl) fun _ H3 => ?_
 refine h_o H3 rfl (R_mv H3 rfl rfl) (P2 5 0 rfl rfl) fun _ H4 => ?_
 refine h_op H4 rfl (H4.wt rfl rfl rfl) (R_mv H4 rfl rfl) rfl (P2 6 5 rfl rfl) fun _ H5 => ?_
 refine h_op H5 rfl (H5.wt rfl rfl rfl) (R_nc H5 rfl rfl) rfl (P2 7 5 rfl rfl) fun _ H6 => ?_
 refine h_op H6 rfl (H6.wt rfl rfl rfl) (R_fa H6 rfl rfl fs_2) rfl (P2 8 5 rfl rfl) fun _ H7 => ?_
 refine h_op H7 rfl (H7.wt rfl rfl rfl) (R_ld H7 rfl rfl (ld_miN h)) rfl (P2 9 5 rfl rfl) fun _ H8 => ?_
 refine h_op H8 rfl (H8.wt rfl rfl rfl) (R_bin H8 rfl rfl rfl B_mnn) rfl (P2 10 5 rfl rfl) fun _ H9 => ?_
 refine h_o H9 rfl (R_pick H9 rfl rfl rfl) (P1 11 rfl) fun _ H10 => ?_
 refine h_o H10 rfl (R_as H10 rfl rfl) (P1 2 rfl) fun _ H11 => ?_
 refine h_end ?_
 repeat (go_not_at_region 999; go_step)
 exact H11.ret1 rfl rfl ⟨rfl, rfl⟩
set_option maxRecDepth 100000 in
theorem send_nil : Calls Tryz.prog 11 #[.pointer none, .agg (itC x)] W fun e W' => e = .returned (.tuple #[.int .i64 0, .int .i64 2]) ∧ Below W.heap.size W W' := by
 have hL := LV.init W
 go_enter Tryz.func11, Tryz.ntmps11
 refine wp_fr (n := 87) (m := [(0, _), (1, _)]) ⟨rfl, rfl, by intro p hp; simp only [List.mem_cons, List.not_mem_nil, or_false] at hp; rcases hp with rfl | rfl <;> rfl⟩ fun a0 H0 => ?_
 repeat (go_not_at_region 0; go_step)
 refine wp_region_lit ?_
 refine h_opS [bk W.heap.size (itC x) 33] H0 rfl (wn rfl) (R_box H0 rfl rfl bx_it) (hL.alloc _ _) rfl (P3 3 0 1 rfl rfl rfl) fun _ w1 H1 hL => ?_
 refine h_o H1 rfl (R_as H1 rfl rfl) (P3 3 0 1 rfl rfl rfl) fun _ H2 => ?_
 refine h_o H2 rfl (R_as H2 rfl rfl) (P3 3 0 1 rfl rfl rfl) fun _ H3 => ?_
 refine h_end ?_
 repeat (go_not_at_region 1; go_step)
 refine wp_region_lit ?_
 refine h_o H3 rfl (R_mv H3 rfl rfl) (P2 7 3 rfl rfl) fun _ H4 => ?_
 refine h_call H4 rfl (wn rfl) (R_call1 H4 rfl rfl (fun w => by simp [go_sem])) rfl ?_
 refine none_nil.mono ?_
 rintro e wx ⟨rfl, rfl⟩
 refine ⟨_, rfl, fun a5 HH => ?_⟩
 have H5 := HH _ (P2 8 3 rfl rfl)
 refine h_o H5 rfl (R_as H5 rfl rfl) (P2 6 3 rfl rfl) fun _ H6 => ?_
 refine h_end ?_
 repeat (go_not_at_region 2; go_step)
 refine wp_cond_true (H6.ev (x := .tmp 6) rfl) ?_
 repeat (go_not_at_region 2; go_step)
 refine wp_region_lit ?_
 refine h_o H6 rfl (R_as H6 rfl rfl) (P1 4 rfl) fun _ H7 => ?_
 refine h_o H7 rfl (R_as H7 rfl rfl) (P2 5 4 rfl rfl) fun _ H8 => ?_
 refine h_end ?_
 repeat (go_not_at_region 999; go_step)
 exact H8.ret2 rfl rfl rfl ⟨rfl, hL.1⟩
set_option maxRecDepth 100000 in
theorem send_zero (h : ∀ w, Below W.heap.size W w → w.cell? ⟨p, 4, none⟩ = some (.map none)) : Calls Tryz.prog 11 #[.pointer (some ⟨p, 0, none⟩), .agg (itC x)] W fun e W' => e = .returned (.tuple #[.int .i64 0, .int .i64 2]) ∧ Below W.heap.size W W' := by
 have hL := LV.init W
 go_enter Tryz.func11, Tryz.ntmps11
 refine wp_fr (n := 87) (m := [(0, _), (1, _)]) ⟨rfl, rfl, by intro p hp; simp only [List.mem_cons, List.not_mem_nil, or_false] at hp; rcases hp with rfl | rfl <;> rfl⟩ fun a0 H0 => ?_
 repeat (go_not_at_region 0; go_step)
 refine wp_region_lit ?_
 refine h_opS [bk W.heap.size (itC x) 33] H0 rfl (wn rfl) (R_box H0 rfl rfl bx_it) (hL.alloc _ _) rfl (P3 3 0 1 rfl rfl rfl) fun _ w1 H1 hL => ?_
 refine h_o H1 rfl (R_as H1 rfl rfl) (P3 3 0 1 rfl rfl rfl) fun _ H2 => ?_
 refine h_o H2 rfl (R_as H2 rfl rfl) (P3 3 0 1 rfl rfl rfl) fun _ H3 => ?_
 refine h_end ?_
 repeat (go_not_at_region 1; go_step)
 refine wp_region_lit ?_
 refine h_o H3 rfl (R_mv H3 rfl rfl) (P2 7 3 rfl rfl) fun _ H4 => ?_
 refine h_call H4 rfl (wn rfl) (R_call1 H4 rfl rfl (fun w => by simp [go_sem])) rfl ?_
 refine (none_zero (h _ hL.1)).mono ?_
 rintro e wx ⟨rfl, rfl⟩
 refine ⟨_, rfl, fun a5 HH => ?_⟩
 have H5 := HH _ (P2 8 3 rfl rfl)
 refine h_o H5 rfl (R_as H5 rfl rfl) (P2 6 3 rfl rfl) fun _ H6 => ?_
 refine h_end ?_
 repeat (go_not_at_region 2; go_step)
 refine wp_cond_true (H6.ev (x := .tmp 6) rfl) ?_
 repeat (go_not_at_region 2; go_step)
 refine wp_region_lit ?_
 refine h_o H6 rfl (R_as H6 rfl rfl) (P1 4 rfl) fun _ H7 => ?_
 refine h_o H7 rfl (R_as H7 rfl rfl) (P2 5 4 rfl rfl) fun _ H8 => ?_
 refine h_end ?_
 repeat (go_not_at_region 999; go_step)
 exact H8.ret2 rfl rfl rfl ⟨rfl, hL.1⟩
set_option maxRecDepth 100000 in
theorem answer_nil : Calls Tryz.prog 13 #[.pointer none, .int .i64 k] W fun e W' => e = .returned (.tuple #[.int .i64 0, .bool false]) ∧ Below W.heap.size W W' := by
 have hL := LV.init W
 go_enter Tryz.func13, Tryz.ntmps13
 refine wp_fr (n := 21) (m := [(0, _), (1, _)]) ⟨rfl, rfl, by intro p hp; simp only [List.mem_cons, List.not_mem_nil, or_false] at hp; rcases hp with rfl | rfl <;> rfl⟩ fun a0 H0 => ?_
 repeat (go_not_at_region 0; go_step)
 refine wp_region_lit ?_
 refine h_o H0 rfl (R_as H0 rfl rfl) (P2 0 1 rfl rfl) fun _ H1 => ?_
 refine h_o H1 rfl (R_as H1 rfl rfl) (P2 0 1 rfl rfl) fun _ H2 => ?_
 refine h_end ?_
 repeat (go_not_at_region 1; go_step)
 refine wp_region_lit ?_
 refine h_o H2 rfl (R_mv H2 rfl rfl) (P1 8 rfl) fun _ H3 => ?_
 refine h_call H3 rfl (wn rfl) (R_call1 H3 rfl rfl (fun w => by simp [go_sem])) rfl ?_
 refine none_nil.mono ?_
 rintro e wx ⟨rfl, rfl⟩
 refine ⟨_, rfl, fun a4 HH => ?_⟩
 have H4 := HH _ (P1 9 rfl)
 refine h_end ?_
 repeat (go_not_at_region 2; go_step)
 refine wp_cond_true (H4.ev (x := .tmp 9) rfl) ?_
 repeat (go_not_at_region 2; go_step)
 refine wp_region_lit ?_
 refine h_o H4 rfl (R_as H4 rfl rfl) (P1 4 rfl) fun _ H5 => ?_
 refine h_o H5 rfl (R_as H5 rfl rfl) (P2 5 4 rfl rfl) fun _ H6 => ?_
 refine h_end ?_
 repeat (go_not_at_region 999; go_step)
 exact H6.ret2 rfl rfl rfl ⟨rfl, hL.1⟩
set_option maxRecDepth 100000 in
theorem tick_nil : Calls Tryz.prog 15 #[.pointer none] W fun e W' => e = .returned (.slice none 0 0) ∧ Below W.heap.size W W' := by
 have hL := LV.init W
 go_enter Tryz.func15, Tryz.ntmps15
 refine wp_fr (n := 70) (m := [(0, _)]) ⟨rfl, rfl, by intro p hp; simp only [List.mem_cons, List.not_mem_nil, or_false] at hp; rcases hp with rfl <;> rfl⟩ fun a0 H0 => ?_
 repeat (go_not_at_region 0; go_step)
 refine wp_region_lit ?_
 refine h_o H0 rfl (R_as H0 rfl rfl) (P1 0 rfl) fun _ H1 => ?_
 refine h_end ?_
 repeat (go_not_at_region 1; go_step)
 refine wp_region_lit ?_
 refine h_o H1 rfl (R_mv H1 rfl rfl) (P1 11 rfl) fun _ H2 => ?_
 refine h_call H2 rfl (wn rfl) (R_call1 H2 rfl rfl (fun w => by simp [go_sem])) rfl ?_
 refine none_nil.mono ?_
 rintro e wx ⟨rfl, rfl⟩
 refine ⟨_, rfl, fun a3 HH => ?_⟩
 have H3 := HH _ (P1 12 rfl)
 refine h_end ?_
 repeat (go_not_at_region 2; go_step)
 refine wp_cond_true (H3.ev (x := .tmp 12) rfl) ?_
 repeat (go_not_at_region 2; go_step)
 refine wp_region_lit ?_
 refine h_o H3 rfl (R_as H3 rfl rfl) (P1 2 rfl) fun _ H4 => ?_
 refine h_end ?_
 repeat (go_not_at_region 999; go_step)
 exact H4.ret1 rfl rfl ⟨rfl, hL.1⟩
set_option maxRecDepth 100000 in
theorem handle_nil : Calls Tryz.prog 12 #[.pointer none, .agg (mcells m vo vs)] W fun e W' => e = .returned (.bool false) ∧ Below W.heap.size W W' := by
 have hL := LV.init W
 go_enter Tryz.func12, Tryz.ntmps12
 refine wp_fr (n := 60) (m := [(0, _), (1, _)]) ⟨rfl, rfl, by intro p hp; simp only [List.mem_cons, List.not_mem_nil, or_false] at hp; rcases hp with rfl | rfl <;> rfl⟩ fun a0 H0 => ?_
 repeat (go_not_at_region 0; go_step)
 refine wp_region_lit ?_
 refine h_opS [bk W.heap.size (mcells m vo vs) 37] H0 rfl (wn rfl) (R_box H0 rfl rfl bx_mg) (hL.alloc _ _) rfl (P3 3 0 1 rfl rfl rfl) fun _ w1 H1 hL => ?_
 refine h_o H1 rfl (R_as H1 rfl rfl) (P3 3 0 1 rfl rfl rfl) fun _ H2 => ?_
 refine h_end ?_
 repeat (go_not_at_region 1; go_step)
 refine wp_region_lit ?_
 refine h_o H2 rfl (R_mv H2 rfl rfl) (P2 6 3 rfl rfl) fun _ H3 => ?_
 refine h_call H3 rfl (wn rfl) (R_call1 H3 rfl rfl (fun w => by simp [go_sem])) rfl ?_
 refine none_nil.mono ?_
 rintro e wx ⟨rfl, rfl⟩
 refine ⟨_, rfl, fun a4 HH => ?_⟩
 have H4 := HH _ (P2 7 3 rfl rfl)
 refine h_end ?_
 repeat (go_not_at_region 2; go_step)
 refine wp_cond_true (H4.ev (x := .tmp 7) rfl) ?_
 repeat (go_not_at_region 2; go_step)
 refine wp_region_lit ?_
 refine h_o H4 rfl (R_as H4 rfl rfl) (P1 4 rfl) fun _ H5 => ?_
 refine h_end ?_
 repeat (go_not_at_region 999; go_step)
 exact H5.ret1 rfl rfl ⟨rfl, hL.1⟩
set_option maxRecDepth 100000 in
theorem low_nil : Calls Tryz.prog 14 #[.pointer none] W fun e W' => e = .returned (.int .i64 0) ∧ Below W.heap.size W W' := by
 have hL := LV.init W
 go_enter Tryz.func14, Tryz.ntmps14
 refine wp_fr (n := 9) (m := [(0, _)]) ⟨rfl, rfl, by intro p hp; simp only [List.mem_cons, List.not_mem_nil, or_false] at hp; rcases hp with rfl <;> rfl⟩ fun a0 H0 => ?_
 repeat (go_not_at_region 0; go_step)
 refine wp_region_lit ?_
 refine h_o H0 rfl (R_as H0 rfl rfl) (P1 0 rfl) fun _ H1 => ?_
 refine h_end ?_
 repeat (go_not_at_region 1; go_step)
 refine wp_region_lit ?_
 refine h_o H1 rfl (R_mv H1 rfl rfl) (P1 3 rfl) fun _ H2 => ?_
 refine h_call H2 rfl (wn rfl) (R_call1 H2 rfl rfl (fun w => by simp [go_sem])) rfl ?_
 refine none_nil.mono ?_
 rintro e wx ⟨rfl, rfl⟩
 refine ⟨_, rfl, fun a3 HH => ?_⟩
 have H3 := HH _ (P1 4 rfl)
 refine h_end ?_
 repeat (go_not_at_region 2; go_step)
 refine wp_cond_true (H3.ev (x := .tmp 4) rfl) ?_
 repeat (go_not_at_region 2; go_step)
 refine wp_region_lit ?_
 refine h_o H3 rfl (R_as H3 rfl rfl) (P1 2 rfl) fun _ H4 => ?_
 refine h_end ?_
 repeat (go_not_at_region 999; go_step)
 exact H4.ret1 rfl rfl ⟨rfl, hL.1⟩
set_option maxRecDepth 100000 in
theorem last_nil : Calls Tryz.prog 19 #[.pointer none] W fun e W' => e = .returned (.int .i64 0) ∧ Below W.heap.size W W' := by
 have hL := LV.init W
 go_enter Tryz.func19, Tryz.ntmps19
 refine wp_fr (n := 9) (m := [(0, _)]) ⟨rfl, rfl, by intro p hp; simp only [List.mem_cons, List.not_mem_nil, or_false] at hp; rcases hp with rfl <;> rfl⟩ fun a0 H0 => ?_
 repeat (go_not_at_region 0; go_step)
 refine wp_region_lit ?_
 refine h_o H0 rfl (R_as H0 rfl rfl) (P1 0 rfl) fun _ H1 => ?_
 refine h_end ?_
 repeat (go_not_at_region 1; go_step)
 refine wp_region_lit ?_
 refine h_o H1 rfl (R_mv H1 rfl rfl) (P1 3 rfl) fun _ H2 => ?_
 refine h_call H2 rfl (wn rfl) (R_call1 H2 rfl rfl (fun w => by simp [go_sem])) rfl ?_
 refine none_nil.mono ?_
 rintro e wx ⟨rfl, rfl⟩
 refine ⟨_, rfl, fun a3 HH => ?_⟩
 have H3 := HH _ (P1 4 rfl)
 refine h_end ?_
 repeat (go_not_at_region 2; go_step)
 refine wp_cond_true (H3.ev (x := .tmp 4) rfl) ?_
 repeat (go_not_at_region 2; go_step)
 refine wp_region_lit ?_
 refine h_o H3 rfl (R_as H3 rfl rfl) (P1 2 rfl) fun _ H4 => ?_
 refine h_end ?_
 repeat (go_not_at_region 999; go_step)
 exact H4.ret1 rfl rfl ⟨rfl, hL.1⟩
set_option maxRecDepth 100000 in
theorem left_nil : Calls Tryz.prog 20 #[.pointer none] W fun e W' => e = .returned (.int .i64 0) ∧ Below W.heap.size W W' := by
 have hL := LV.init W
 go_enter Tryz.func20, Tryz.ntmps20
 refine wp_fr (n := 10) (m := [(0, _)]) ⟨rfl, rfl, by intro p hp; simp only [List.mem_cons, List.not_mem_nil, or_false] at hp; rcases hp with rfl <;> rfl⟩ fun a0 H0 => ?_
 repeat (go_not_at_region 0; go_step)
 refine wp_region_lit ?_
 refine h_o H0 rfl (R_as H0 rfl rfl) (P1 0 rfl) fun _ H1 => ?_
 refine h_end ?_
 repeat (go_not_at_region 1; go_step)
 refine wp_region_lit ?_
 refine h_o H1 rfl (R_mv H1 rfl rfl) (P1 3 rfl) fun _ H2 => ?_
 refine h_call H2 rfl (wn rfl) (R_call1 H2 rfl rfl (fun w => by simp [go_sem])) rfl ?_
 refine none_nil.mono ?_
 rintro e wx ⟨rfl, rfl⟩
 refine ⟨_, rfl, fun a3 HH => ?_⟩
 have H3 := HH _ (P1 4 rfl)
 refine h_end ?_
 repeat (go_not_at_region 2; go_step)
 refine wp_cond_true (H3.ev (x := .tmp 4) rfl) ?_
 repeat (go_not_at_region 2; go_step)
 refine wp_region_lit ?_
 refine h_o H3 rfl (R_as H3 rfl rfl) (P1 2 rfl) fun _ H4 => ?_
 refine h_end ?_
 repeat (go_not_at_region 999; go_step)
 exact H4.ret1 rfl rfl ⟨rfl, hL.1⟩
set_option maxRecDepth 100000 in
theorem table_nil : Calls Tryz.prog 22 #[.pointer none] W fun e W' => e = .returned (.agg (tbC ⟨0, 0, []⟩ (.slice none 0 0))) ∧ Below W.heap.size W W' := by
 have hL := LV.init W
 go_enter Tryz.func22, Tryz.ntmps22
 refine wp_fr (n := 11) (m := [(0, _)]) ⟨rfl, rfl, by intro p hp; simp only [List.mem_cons, List.not_mem_nil, or_false] at hp; rcases hp with rfl <;> rfl⟩ fun a0 H0 => ?_
 repeat (go_not_at_region 0; go_step)
 refine wp_region_lit ?_
 refine h_opS [bk W.heap.size (tbC ⟨0, 0, []⟩ (.slice none 0 0)) 28] H0 rfl (wn rfl) (R_alloc rfl al_tb) (hL.alloc _ _) rfl (P2 2 0 rfl rfl) fun _ w1 H1 hL => ?_
 refine h_end ?_
 repeat (go_not_at_region 1; go_step)
 refine wp_region_lit ?_
 refine h_o H1 rfl (R_mv H1 rfl rfl) (P2 3 2 rfl rfl) fun _ H2 => ?_
 refine h_call H2 rfl (wn rfl) (R_call1 H2 rfl rfl (fun w => by simp [go_sem])) rfl ?_
 refine none_nil.mono ?_
 rintro e wx ⟨rfl, rfl⟩
 refine ⟨_, rfl, fun a3 HH => ?_⟩
 have H3 := HH _ (P2 4 2 rfl rfl)
 refine h_end ?_
 repeat (go_not_at_region 2; go_step)
 refine wp_cond_true (H3.ev (x := .tmp 4) rfl) ?_
 repeat (go_not_at_region 2; go_step)
 refine wp_region_lit ?_
 refine h_o H3 rfl (R_build rfl bd_tb0) (P2 5 2 rfl rfl) fun _ H4 => ?_
 refine h_stS [bk _ (tbC ⟨0, 0, []⟩ (.slice none 0 0)) 28] H4 rfl (wn rfl) (R_st H4 rfl rfl rfl (st_tb (t := ⟨0, 0, []⟩) (u := ⟨0, 0, []⟩) hL.at_)) (hL.row _) fun _ w5 H5 hL => ?_
 refine h_end ?_
 repeat (go_not_at_region 999; go_step)
 exact bodyPost_ret (v := .agg (tbC ⟨0, 0, []⟩ (.slice none 0 0))) (tb_results rfl (H5.getD rfl) hL.at_) H5.1 ⟨rfl, hL.1⟩
end
end Go.Proofs.YthkeiclhllikjaaGreat
