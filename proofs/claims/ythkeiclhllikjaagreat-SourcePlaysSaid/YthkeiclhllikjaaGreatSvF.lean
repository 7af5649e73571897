/-
  A source in memory; what it tells without a change.
-/
import Derived.Test.YthkeiclhllikjaaGreatSvC
import Derived.Test.YthkeiclhllikjaaGreatMsgFk
import Derived.WalkSpells
set_option linter.unusedSimpArgs false
set_option linter.unusedVariables false
namespace Go.Proofs.YthkeiclhllikjaaGreat
open Go.RowKit
abbrev srC (S : PSrc) (v : Value) (bo ba : Nat) : Array Value := #[.int .i64 S.src, .int .i64 S.t.ep, .int .i64 S.t.nd, v, .map (some bo), .map (some ba), .int .i64 (lowN S.L : Nat), .int .i64 (S.L.length : Nat)]
section
variable {w0 W w : World} {L : List Thg} {S : PSrc} {v : Value} {bo ba p g : Nat} {x : PItem}
theorem fs_0 : (Instr.fieldAt 60 (.pointer (some ⟨p, 0, none⟩)) 0).run Tryz.prog w = .ok (.pointer (some ⟨p, 0, none⟩)) w := by simp [go_sem]
theorem fs_1 : (Instr.fieldAt 60 (.pointer (some ⟨p, 0, none⟩)) 1).run Tryz.prog w = .ok (.pointer (some ⟨p, 1, none⟩)) w := by simp [go_sem]
theorem fs_2 : (Instr.fieldAt 60 (.pointer (some ⟨p, 0, none⟩)) 2).run Tryz.prog w = .ok (.pointer (some ⟨p, 4, none⟩)) w := by simp [go_sem]
theorem fs_3 : (Instr.fieldAt 60 (.pointer (some ⟨p, 0, none⟩)) 3).run Tryz.prog w = .ok (.pointer (some ⟨p, 5, none⟩)) w := by simp [go_sem]
theorem fs_4 : (Instr.fieldAt 60 (.pointer (some ⟨p, 0, none⟩)) 4).run Tryz.prog w = .ok (.pointer (some ⟨p, 6, none⟩)) w := by simp [go_sem]
theorem fs_5 : (Instr.fieldAt 60 (.pointer (some ⟨p, 0, none⟩)) 5).run Tryz.prog w = .ok (.pointer (some ⟨p, 7, none⟩)) w := by simp [go_sem]
theorem ld_mi {a : Addr} {b : Option Nat} (h : w.cell? a = some (.map b)) : (Instr.loadAt 58 (.pointer (some a))).run Tryz.prog w = .ok (.map b) w := by simp [go_sem, h]
theorem ld_mm {a : Addr} {b : Option Nat} (h : w.cell? a = some (.map b)) : (Instr.loadAt 48 (.pointer (some a))).run Tryz.prog w = .ok (.map b) w := by simp [go_sem, h]
theorem ld_tbo {g : Nat} {t : PTab} {q : Option Addr} {l c : Nat} (h0 : w.cell? ⟨g, 1, none⟩ = some (.int .i64 t.ep)) (h1 : w.cell? ⟨g, 2, none⟩ = some (.int .i64 t.nd)) (h2 : w.cell? ⟨g, 3, none⟩ = some (.slice q l c)) : (Instr.loadAt 28 (.pointer (some ⟨g, 1, none⟩))).run Tryz.prog w = .ok (.agg (tbC t (.slice q l c))) w := by
 simp [go_sem, h0, h1, h2]
theorem B_pn {X Y : Operand} {a : Addr} : ((do eqGuard .eql 22 X Y (.pointer (some a)) (.pointer none); binOp .eql 22 (.pointer (some a)) (.pointer none)) : Sem Value).run Tryz.prog w = .ok (.bool false) w := by simp [go_sem]
theorem B_pnn {X Y : Operand} : ((do eqGuard .eql 22 X Y (.pointer none) (.pointer none); binOp .eql 22 (.pointer none) (.pointer none)) : Sem Value).run Tryz.prog w = .ok (.bool true) w := by simp [go_sem]
theorem B_mn {X Y : Operand} {b : Nat} : ((do eqGuard .eql 58 X Y (.map (some b)) (.map none); binOp .eql 58 (.map (some b)) (.map none)) : Sem Value).run Tryz.prog w = .ok (.bool false) w := by
 have e := run_eql_map_nil w 58 _ _ (some b) Tryz.underlying58
 simp [eqGuard, e]
theorem B_mnn {X Y : Operand} : ((do eqGuard .eql 58 X Y (.map none) (.map none); binOp .eql 58 (.map none) (.map none)) : Sem Value).run Tryz.prog w = .ok (.bool true) w := by
 have e := run_eql_map_nil w 58 _ _ none Tryz.underlying58
 simp [eqGuard, e]
theorem ld_u8k {a : Addr} {k c : Nat} (h : w.cell? a = some (.int .u8 (k : Nat))) (e : k = c) : (Instr.loadAt 5 (.pointer (some a))).run Tryz.prog w = .ok (.int .u8 (c : Nat)) w := by subst e; exact ld_u8 h
theorem B8_eq {X Y : Operand} (x y : Int) : ((do eqGuard .eql 5 X Y (.int .u8 x) (.int .u8 y); binOp .eql 5 (.int .u8 x) (.int .u8 y)) : Sem Value).run Tryz.prog w = .ok (.bool (x == y)) w := by simp [go_sem]
theorem B8_ne {X Y : Operand} (x y : Int) : ((do eqGuard .neq 5 X Y (.int .u8 x) (.int .u8 y); binOp .neq 5 (.int .u8 x) (.int .u8 y)) : Sem Value).run Tryz.prog w = .ok (.bool (x != y)) w := by simp [go_sem]
theorem fi_k {i k : Nat} (hi : i < 8) : (Instr.fieldAt 33 (.pointer (some ⟨g, k, none⟩)) i).run Tryz.prog w = .ok (.pointer (some ⟨g, k + i, none⟩)) w := by
 have : i = 0 ∨ i = 1 ∨ i = 2 ∨ i = 3 ∨ i = 4 ∨ i = 5 ∨ i = 6 ∨ i = 7 := by omega
 rcases this with rfl | rfl | rfl | rfl | rfl | rfl | rfl | rfl <;> simp [go_sem]
theorem bx_it : (Instr.box 33 (.agg (itC x))).run Tryz.prog w = .ok (.pointer (some ⟨w.heap.size, 0, none⟩)) (w.alloc (.cells (itC x) 33)) := by
 simp [go_sem]
set_option maxRecDepth 100000 in
theorem none_any {b : Nat} (h : W.cell? ⟨p, 4, none⟩ = some (.map (some b))) : Calls Tryz.prog 33 #[.pointer (some ⟨p, 0, none⟩)] W fun e W' => e = .returned (.bool false) ∧ W' = W := by
 go_enter Tryz.func33, Tryz.ntmps33
 refine wp_fr (n := 12) (m := [(0, _)]) ⟨rfl, rfl, by intro p hp; simp only [List.mem_cons, List.not_mem_nil, or_false] at hp; rcases hp with rfl <;> rfl⟩ fun a0 H0 => ?_
 repeat (go_not_at_region 0; go_step)
 refine wp_region_lit ?_
 refine h_o H0 rfl (R_as H0 rfl rfl) (P1 0 rfl) fun _ H1 => ?_
 refine h_end ?_
 repeat (go_not_at_region 1; go_step)
 refine wp_region_lit ?_
 refine h_o H1 rfl (R_mv H1 rfl rfl) (P2 3 0 rfl rfl) fun _ H2 => ?_
 refine h_o H2 rfl (R_bin H2 rfl rfl rfl B_pn) (P2 4 0 rfl rfl) fun _ H3 => ?_
 refine h_o H3 rfl (R_mv H3 rfl rfl) (P2 5 0 rfl rfl) fun _ H4 => ?_
 refine h_op H4 rfl (H4.wt rfl rfl rfl) (R_mv H4 rfl rfl) rfl (P2 6 5 rfl rfl) fun _ H5 => ?_
 refine h_op H5 rfl (H5.wt rfl rfl rfl) (R_nc H5 rfl rfl) rfl (P2 7 5 rfl rfl) fun _ H6 => ?_
 refine h_op H6 rfl (H6.wt rfl rfl rfl) (R_fa H6 rfl rfl fs_2) rfl (P2 8 5 rfl rfl) fun _ H7 => ?_
 refine h_op H7 rfl (H7.wt rfl rfl rfl) (R_ld H7 rfl rfl (ld_mi h)) rfl (P2 9 5 rfl rfl) fun _ H8 => ?_
 refine h_op H8 rfl (H8.wt rfl rfl rfl) (R_bin H8 rfl rfl rfl B_mn) rfl (P2 10 5 rfl rfl) fun _ H9 => ?_
 refine h_o H9 rfl (R_pick H9 rfl rfl rfl) (P1 11 rfl) fun _ H10 => ?_
 refine h_o H10 rfl (R_as H10 rfl rfl) (P1 2 rfl) fun _ H11 => ?_
 refine h_end ?_
 repeat (go_not_at_region 999; go_step)
 exact H11.ret1 rfl rfl ⟨rfl, rfl⟩
theorem none_nil : Calls Tryz.prog 33 #[.pointer none] W fun e W' => e = .returned (.bool true) ∧ W' = W := by
 go_enter Tryz.func33, Tryz.ntmps33
 refine wp_fr (n := 12) (m := [(0, _)]) ⟨rfl, rfl, by intro p hp; simp only [List.mem_cons, List.not_mem_nil, or_false] at hp; rcases hp with rfl <;> rfl⟩ fun a0 H0 => ?_
 repeat (go_not_at_region 0; go_step)
 refine wp_region_lit ?_
 refine h_o H0 rfl (R_as H0 rfl rfl) (P1 0 rfl) fun _ H1 => ?_
 refine h_end ?_
 repeat (go_not_at_region 1; go_step)
 refine wp_region_lit ?_
 refine h_o H1 rfl (R_mv H1 rfl rfl) (P2 3 0 rfl rfl) fun _ H2 => ?_
 refine h_o H2 rfl (R_bin H2 rfl rfl rfl B_pnn) (P2 4 0 rfl rfl) fun _ H3 => ?_
 refine h_o H3 rfl (R_mv H3 rfl rfl) (P2 5 0 rfl rfl) fun _ H4 => ?_
 refine h_skip H4 rfl (H4.wf rfl rfl rfl) rfl (P2 6 5 rfl rfl) fun _ H5 => ?_
 refine h_skip H5 rfl (H5.wf rfl rfl rfl) rfl (P2 7 5 rfl rfl) fun _ H6 => ?_
 refine h_skip H6 rfl (H6.wf rfl rfl rfl) rfl (P2 8 5 rfl rfl) fun _ H7 => ?_
 refine h_skip H7 rfl (H7.wf rfl rfl rfl) rfl (P2 9 5 rfl rfl) fun _ H8 => ?_
 refine h_skip H8 rfl (H8.wf rfl rfl rfl) rfl (P2 10 5 rfl rfl) fun _ H9 => ?_
 refine h_o H9 rfl (R_pick H9 rfl rfl rfl) (P1 11 rfl) fun _ H10 => ?_
 refine h_o H10 rfl (R_as H10 rfl rfl) (P1 2 rfl) fun _ H11 => ?_
 refine h_end ?_
 repeat (go_not_at_region 999; go_step)
 exact H11.ret1 rfl rfl ⟨rfl, rfl⟩
theorem low_any (h : W.heap[p]? = some (.cells (srC S v bo ba) 60 (0, 0))) : Calls Tryz.prog 14 #[.pointer (some ⟨p, 0, none⟩)] W fun e W' => e = .returned (.int .i64 (lowN S.L : Nat)) ∧ W' = W := by
 go_enter Tryz.func14, Tryz.ntmps14
 refine wp_fr (n := 9) (m := [(0, _)]) ⟨rfl, rfl, by intro p hp; simp only [List.mem_cons, List.not_mem_nil, or_false] at hp; rcases hp with rfl <;> rfl⟩ fun a0 H0 => ?_
 repeat (go_not_at_region 0; go_step)
 refine wp_region_lit ?_
 refine h_o H0 rfl (R_as H0 rfl rfl) (P1 0 rfl) fun _ H1 => ?_
 refine h_end ?_
 repeat (go_not_at_region 1; go_step)
 refine wp_region_lit ?_
 refine h_o H1 rfl (R_mv H1 rfl rfl) (P2 3 0 rfl rfl) fun _ H2 => ?_
 refine h_call H2 rfl (wn rfl) (R_call1 H2 rfl rfl (fun w => by simp [go_sem])) rfl ?_
 refine (none_any (cells_at h 4)).mono ?_
 rintro e wx ⟨rfl, rfl⟩
 refine ⟨_, rfl, fun a3 HH => ?_⟩
 have H3 := HH _ (P2 4 0 rfl rfl)
 refine h_end ?_
 repeat (go_not_at_region 3; go_step)
 refine wp_cond_false (H3.ev (x := .tmp 4) rfl) ?_
 repeat (go_not_at_region 3; go_step)
 refine wp_region_lit ?_
 refine h_o H3 rfl (R_mv H3 rfl rfl) (P1 5 rfl) fun _ H4 => ?_
 refine h_o H4 rfl (R_nc H4 rfl rfl) (P1 6 rfl) fun _ H5 => ?_
 refine h_o H5 rfl (R_fa H5 rfl rfl fs_4) (P1 7 rfl) fun _ H6 => ?_
 refine h_o H6 rfl (R_ld H6 rfl rfl (ld_int (cells_at h 6))) (P1 8 rfl) fun _ H7 => ?_
 refine h_o H7 rfl (R_as H7 rfl rfl) (P1 2 rfl) fun _ H8 => ?_
 refine h_end ?_
 repeat (go_not_at_region 999; go_step)
 exact H8.ret1 rfl rfl ⟨rfl, rfl⟩
theorem last_any (h : W.heap[p]? = some (.cells (srC S v bo ba) 60 (0, 0))) : Calls Tryz.prog 19 #[.pointer (some ⟨p, 0, none⟩)] W fun e W' => e = .returned (.int .i64 (S.L.length : Nat)) ∧ W' = W := by
 go_enter Tryz.func19, Tryz.ntmps19
 refine wp_fr (n := 9) (m := [(0, _)]) ⟨rfl, rfl, by intro p hp; simp only [List.mem_cons, List.not_mem_nil, or_false] at hp; rcases hp with rfl <;> rfl⟩ fun a0 H0 => ?_
 repeat (go_not_at_region 0; go_step)
 refine wp_region_lit ?_
 refine h_o H0 rfl (R_as H0 rfl rfl) (P1 0 rfl) fun _ H1 => ?_
 refine h_end ?_
 repeat (go_not_at_region 1; go_step)
 refine wp_region_lit ?_
 refine h_o H1 rfl (R_mv H1 rfl rfl) (P2 3 0 rfl rfl) fun _ H2 => ?_
 refine h_call H2 rfl (wn rfl) (R_call1 H2 rfl rfl (fun w => by simp [go_sem])) rfl ?_
 refine (none_any (cells_at h 4)).mono ?_
 rintro e wx ⟨rfl, rfl⟩
 refine ⟨_, rfl, fun a3 HH => ?_⟩
 have H3 := HH _ (P2 4 0 rfl rfl)
 refine h_end ?_
 repeat (go_not_at_region 3; go_step)
 refine wp_cond_false (H3.ev (x := .tmp 4) rfl) ?_
 repeat (go_not_at_region 3; go_step)
 refine wp_region_lit ?_
 refine h_o H3 rfl (R_mv H3 rfl rfl) (P1 5 rfl) fun _ H4 => ?_
 refine h_o H4 rfl (R_nc H4 rfl rfl) (P1 6 rfl) fun _ H5 => ?_
 refine h_o H5 rfl (R_fa H5 rfl rfl fs_5) (P1 7 rfl) fun _ H6 => ?_
 refine h_o H6 rfl (R_ld H6 rfl rfl (ld_int (cells_at h 7))) (P1 8 rfl) fun _ H7 => ?_
 refine h_o H7 rfl (R_as H7 rfl rfl) (P1 2 rfl) fun _ H8 => ?_
 refine h_end ?_
 repeat (go_not_at_region 999; go_step)
 exact H8.ret1 rfl rfl ⟨rfl, rfl⟩
theorem zeroI (w : World) : (zeroValue 3).run Tryz.prog w = .ok (.int .i64 0) w := by kernel_rfl
theorem zeroIt (w : World) : (zeroValue 33).run Tryz.prog w = .ok (.agg (itC itZ)) w := by kernel_rfl
theorem answer_any (h : W.heap[p]? = some (.cells (srC S v bo ba) 60 (0, 0))) (hm : MapAt W ba (anE S.L)) {k : Int} (h0 : -9223372036854775808 ≤ k) (h1 : k < 9223372036854775808) : Calls Tryz.prog 13 #[.pointer (some ⟨p, 0, none⟩), .int .i64 k] W fun e W' => e = .returned (.tuple #[.int .i64 (codeN S.L k : Nat), .bool (decide (codeN S.L k ≠ 0))]) ∧ W' = W := by
 have hl := lookOk_run h0 h1 Tryz.underlying48 (zeroI _) hm
 have e1 : (lookE (anE S.L) k).getD (.int .i64 0) = .int .i64 (codeN S.L k : Nat) := by
  rw [anE_look]
  by_cases hc : codeN S.L k = 0
  ·rw [if_pos hc, hc]
   rfl
  ·rw [if_neg hc]
   rfl
 have e2 : (lookE (anE S.L) k).isSome = decide (codeN S.L k ≠ 0) := by
  rw [anE_look]
  by_cases hc : codeN S.L k = 0
  ·rw [if_pos hc, decide_eq_false (fun h => h hc)]
   rfl
  ·rw [if_neg hc, decide_eq_true hc]
   rfl
 rw [e1, e2] at hl
 go_enter Tryz.func13, Tryz.ntmps13
 refine wp_fr (n := 21) (m := [(0, _), (1, _)]) ⟨rfl, rfl, by intro p hp; simp only [List.mem_cons, List.not_mem_nil, or_false] at hp; rcases hp with rfl | rfl <;> rfl⟩ fun a0 H0 => ?_
 repeat (go_not_at_region 0; go_step)
 refine wp_region_lit ?_
 refine h_o H0 rfl (R_as H0 rfl rfl) (P2 0 1 rfl rfl) fun _ H1 => ?_
 refine h_o H1 rfl (R_as H1 rfl rfl) (P2 0 1 rfl rfl) fun _ H2 => ?_
 refine h_end ?_
 repeat (go_not_at_region 1; go_step)
 refine wp_region_lit ?_
 refine h_o H2 rfl (R_mv H2 rfl rfl) (P3 8 0 1 rfl rfl rfl) fun _ H3 => ?_
 refine h_call H3 rfl (wn rfl) (R_call1 H3 rfl rfl (fun w => by simp [go_sem])) rfl ?_
 refine (none_any (cells_at h 4)).mono ?_
 rintro e wx ⟨rfl, rfl⟩
 refine ⟨_, rfl, fun a4 HH => ?_⟩
 have H4 := HH _ (P3 9 0 1 rfl rfl rfl)
 refine h_end ?_
 repeat (go_not_at_region 3; go_step)
 refine wp_cond_false (H4.ev (x := .tmp 9) rfl) ?_
 repeat (go_not_at_region 3; go_step)
 refine wp_region_lit ?_
 refine h_o H4 rfl (R_mv H4 rfl rfl) (P2 11 1 rfl rfl) fun _ H5 => ?_
 refine h_o H5 rfl (R_nc H5 rfl rfl) (P2 12 1 rfl rfl) fun _ H6 => ?_
 refine h_o H6 rfl (R_fa H6 rfl rfl fs_3) (P2 13 1 rfl rfl) fun _ H7 => ?_
 refine h_o H7 rfl (R_ld H7 rfl rfl (ld_mm (cells_at h 5))) (P2 14 1 rfl rfl) fun _ H8 => ?_
 refine h_o H8 rfl (R_mv H8 rfl rfl) (P2 15 14 rfl rfl) fun _ H9 => ?_
 refine h_o H9 rfl (R_lk H9 rfl rfl rfl hl) (P1 16 rfl) fun _ H10 => ?_
 refine h_o H10 rfl (R_mv H10 rfl rfl) (P1 10 rfl) fun _ H11 => ?_
 refine h_o H11 rfl (R_ext H11 rfl rfl rfl) (P2 17 10 rfl rfl) fun _ H12 => ?_
 refine h_o H12 rfl (R_ext H12 rfl rfl rfl) (P2 18 17 rfl rfl) fun _ H13 => ?_
 refine h_o H13 rfl (R_as H13 rfl rfl) (P2 6 18 rfl rfl) fun _ H14 => ?_
 refine h_o H14 rfl (R_as H14 rfl rfl) (P2 7 6 rfl rfl) fun _ H15 => ?_
 refine h_end ?_
 repeat (go_not_at_region 4; go_step)
 refine wp_region_lit ?_
 refine h_o H15 rfl (R_mv H15 rfl rfl) (P2 19 7 rfl rfl) fun _ H16 => ?_
 refine h_o H16 rfl (R_mv H16 rfl rfl) (P2 20 19 rfl rfl) fun _ H17 => ?_
 refine h_o H17 rfl (R_as H17 rfl rfl) (P2 4 20 rfl rfl) fun _ H18 => ?_
 refine h_o H18 rfl (R_as H18 rfl rfl) (P2 5 4 rfl rfl) fun _ H19 => ?_
 refine h_end ?_
 repeat (go_not_at_region 999; go_step)
 exact H19.ret2 rfl rfl rfl ⟨rfl, rfl⟩
theorem left_any (h : W.heap[p]? = some (.cells (srC S v bo ba) 60 (0, 0))) (hm : MapAt W bo (opE S.L)) : Calls Tryz.prog 20 #[.pointer (some ⟨p, 0, none⟩)] W fun e W' => e = .returned (.int .i64 ((opE S.L).length : Nat)) ∧ W' = W := by
 go_enter Tryz.func20, Tryz.ntmps20
 refine wp_fr (n := 10) (m := [(0, _)]) ⟨rfl, rfl, by intro p hp; simp only [List.mem_cons, List.not_mem_nil, or_false] at hp; rcases hp with rfl <;> rfl⟩ fun a0 H0 => ?_
 repeat (go_not_at_region 0; go_step)
 refine wp_region_lit ?_
 refine h_o H0 rfl (R_as H0 rfl rfl) (P1 0 rfl) fun _ H1 => ?_
 refine h_end ?_
 repeat (go_not_at_region 1; go_step)
 refine wp_region_lit ?_
 refine h_o H1 rfl (R_mv H1 rfl rfl) (P2 3 0 rfl rfl) fun _ H2 => ?_
 refine h_call H2 rfl (wn rfl) (R_call1 H2 rfl rfl (fun w => by simp [go_sem])) rfl ?_
 refine (none_any (cells_at h 4)).mono ?_
 rintro e wx ⟨rfl, rfl⟩
 refine ⟨_, rfl, fun a3 HH => ?_⟩
 have H3 := HH _ (P2 4 0 rfl rfl)
 refine h_end ?_
 repeat (go_not_at_region 3; go_step)
 refine wp_cond_false (H3.ev (x := .tmp 4) rfl) ?_
 repeat (go_not_at_region 3; go_step)
 refine wp_region_lit ?_
 refine h_o H3 rfl (R_mv H3 rfl rfl) (P1 5 rfl) fun _ H4 => ?_
 refine h_o H4 rfl (R_nc H4 rfl rfl) (P1 6 rfl) fun _ H5 => ?_
 refine h_o H5 rfl (R_fa H5 rfl rfl fs_2) (P1 7 rfl) fun _ H6 => ?_
 refine h_o H6 rfl (R_ld H6 rfl rfl (ld_mi (cells_at h 4))) (P1 8 rfl) fun _ H7 => ?_
 refine h_o H7 rfl (R_lenM H7 rfl rfl (len_run Tryz.underlying58 _ hm)) (P1 9 rfl) fun _ H8 => ?_
 refine h_o H8 rfl (R_as H8 rfl rfl) (P1 2 rfl) fun _ H9 => ?_
 refine h_end ?_
 repeat (go_not_at_region 999; go_step)
 exact H9.ret1 rfl rfl ⟨rfl, rfl⟩
set_option maxRecDepth 100000 in
theorem stable_any (h : W.heap[p]? = some (.cells (srC S v bo ba) 60 (0, 0))) (hR : Rd W v S.t.own) (hl : S.t.own.length ≤ 1000000000000) : Calls Tryz.prog 22 #[.pointer (some ⟨p, 0, none⟩)] W fun e W' => ∃ v' R, e = .returned (.agg (tbC S.t v')) ∧ RowIs 3 v' (ints S.t.own) R ∧ Live W R W' := by
 obtain ⟨A, c, rfl⟩ := hR.slc
 have K1 : ∀ {w}, Below W.heap.size W w → Rd w (.slice A S.t.own.length c) S.t.own := fun hb => hR.kept fun k hk => hb.block k hk
 have K0 : ∀ {w}, Below W.heap.size W w → w.heap[p]? = some (.cells (srC S (.slice A S.t.own.length c) bo ba) 60 (0, 0)) := fun hb => (hb.block _ (blk_lt h)).trans h
 have hL := Live.init W
 go_enter Tryz.func22, Tryz.ntmps22
 refine wp_fr (n := 11) (m := [(0, _)]) ⟨rfl, rfl, by intro p hp; simp only [List.mem_cons, List.not_mem_nil, or_false] at hp; rcases hp with rfl <;> rfl⟩ fun a0 H0 => ?_
 repeat (go_not_at_region 0; go_step)
 refine wp_region_lit ?_
 refine h_opL [(W.heap.size, (tbC ⟨0, 0, []⟩ (.slice none 0 0)), 28)] H0 rfl (wn rfl) (R_alloc rfl al_tb) (hL.alloc _ _) rfl (P2 2 0 rfl rfl) fun _ w1 H1 hL => ?_
 refine h_end ?_
 repeat (go_not_at_region 1; go_step)
 refine wp_region_lit ?_
 refine h_o H1 rfl (R_mv H1 rfl rfl) (P3 3 2 0 rfl rfl rfl) fun _ H2 => ?_
 refine h_call H2 rfl (wn rfl) (R_call1 H2 rfl rfl (fun w => by simp [go_sem])) rfl ?_
 refine (none_any (cells_at (K0 hL.1) 4)).mono ?_
 rintro e wx ⟨rfl, rfl⟩
 refine ⟨_, rfl, fun a3 HH => ?_⟩
 have H3 := HH _ (P3 4 2 0 rfl rfl rfl)
 refine h_end ?_
 repeat (go_not_at_region 3; go_step)
 refine wp_cond_false (H3.ev (x := .tmp 4) rfl) ?_
 repeat (go_not_at_region 3; go_step)
 refine wp_region_lit ?_
 refine h_o H3 rfl (R_mv H3 rfl rfl) (P2 6 2 rfl rfl) fun _ H4 => ?_
 refine h_o H4 rfl (R_nc H4 rfl rfl) (P2 7 2 rfl rfl) fun _ H5 => ?_
 refine h_o H5 rfl (R_fa H5 rfl rfl fs_1) (P2 8 2 rfl rfl) fun _ H6 => ?_
 refine h_o H6 rfl (R_ld H6 rfl rfl (ld_tbo (t := S.t) (cells_at (K0 hL.1) 1) (cells_at (K0 hL.1) 2) (cells_at (K0 hL.1) 3))) (P2 9 2 rfl rfl) fun _ H7 => ?_
 refine h_call H7 rfl (wn rfl) (R_call1 H7 rfl rfl (fun w => by simp [go_sem])) rfl ?_
 refine (copy_any (K1 hL.1) hl).mono ?_
 rintro e w8 ⟨v', R, rfl, hr, hL3⟩
 obtain ⟨p3, c3, rfl⟩ := hr.shapeI
 replace hL := hL.join hL3
 clear hL3
 refine ⟨_, rfl, fun a8 HH => ?_⟩
 have H8 := HH _ (P2 10 2 rfl rfl)
 refine h_stL ((W.heap.size, (tbC S.t (.slice p3 S.t.own.length c3)), 28) :: (R ++ [])) H8 rfl (wn rfl) (R_st H8 rfl rfl rfl (st_tb (t := ⟨0, 0, []⟩) (p := none) (l := 0) (c := 0) (hL.mem_at (by simp)))) ((hL.perm List.perm_middle).row _) fun _ w9 H9 hL => ?_
 refine h_end ?_
 repeat (go_not_at_region 999; go_step)
 refine bodyPost_ret (v := .agg (tbC S.t (.slice p3 S.t.own.length c3))) (tb_results rfl (H9.getD rfl) hL.at_) H9.1 ⟨_, R, rfl, hr, by simpa using hL.tail⟩
def partS (t : PTab) (x : PItem) : Int := if x.kind = 2 then x.part else ofS x.key (t.own.length : Nat)
set_option maxRecDepth 100000 in
theorem part_any (h : W.heap[p]? = some (.cells (srC S v bo ba) 60 (0, 0))) (hR : Rd W v S.t.own) (hl : S.t.own.length ≤ 1000000000000) (hx : x.key.size < 140737488351233) : Calls Tryz.prog 39 #[.pointer (some ⟨p, 0, none⟩), .agg (itC x)] W fun e W' => e = .returned (.int .i64 (partS S.t x)) ∧ Below W.heap.size W W' := by
 obtain ⟨A, c, rfl⟩ := hR.slc
 have K0 : ∀ {w}, Below W.heap.size W w → w.heap[p]? = some (.cells (srC S (.slice A S.t.own.length c) bo ba) 60 (0, 0)) := fun hb => (hb.block _ (blk_lt h)).trans h
 have hL := (Live.init W).alloc (itC x) 33
 obtain ⟨y, hy⟩ : ∃ y, y = partS S.t x := ⟨_, rfl⟩
 rw [← hy]
 unfold partS at hy
 go_enter Tryz.func39, Tryz.ntmps39
 refine wp_fr (n := 19) (m := [(0, _), (1, _)]) ⟨rfl, rfl, by intro p hp; simp only [List.mem_cons, List.not_mem_nil, or_false] at hp; rcases hp with rfl | rfl <;> rfl⟩ fun a0 H0 => ?_
 repeat (go_not_at_region 0; go_step)
 refine wp_region_lit ?_
 refine h_o H0 rfl (R_box H0 rfl rfl bx_it) (P2 3 0 rfl rfl) fun _ H1 => ?_
 refine h_o H1 rfl (R_as H1 rfl rfl) (P2 3 0 rfl rfl) fun _ H2 => ?_
 refine h_end ?_
 by_cases hk : x.kind = 2
 ·rw [if_pos hk] at hy
  repeat (go_not_at_region 1; go_step)
  refine wp_region_lit ?_
  refine h_o H2 rfl (R_fa H2 rfl rfl (fi_k (by decide))) (P2 5 3 rfl rfl) fun _ H3 => ?_
  refine h_o H3 rfl (R_ld H3 rfl rfl (ld_u8k (hL.cell 3) hk)) (P2 6 3 rfl rfl) fun _ H4 => ?_
  refine h_o H4 rfl (R_bin H4 rfl rfl rfl (B_to (y := true) (B8_eq _ _) (by decide))) (P2 7 3 rfl rfl) fun _ H5 => ?_
  refine h_end ?_
  repeat (go_not_at_region 2; go_step)
  refine wp_cond_true (H5.ev (x := .tmp 7) rfl) ?_
  repeat (go_not_at_region 2; go_step)
  refine wp_region_lit ?_
  refine h_o H5 rfl (R_fa H5 rfl rfl (fi_k (by decide))) (P1 8 rfl) fun _ H6 => ?_
  refine h_o H6 rfl (R_ld H6 rfl rfl (ld_int (hL.cell 5))) (P1 9 rfl) fun _ H7 => ?_
  refine h_o H7 rfl (R_as H7 rfl rfl) (P1 4 rfl) fun _ H8 => ?_
  refine h_end ?_
  repeat (go_not_at_region 999; go_step)
  exact H8.ret1 rfl rfl ⟨by rw [hy], hL.1⟩
 ·rw [if_neg hk] at hy
  repeat (go_not_at_region 1; go_step)
  refine wp_region_lit ?_
  refine h_o H2 rfl (R_fa H2 rfl rfl (fi_k (by decide))) (P3 5 3 0 rfl rfl rfl) fun _ H3 => ?_
  refine h_o H3 rfl (R_ld H3 rfl rfl (ld_u8 (hL.cell 3))) (P3 6 3 0 rfl rfl rfl) fun _ H4 => ?_
  refine h_o H4 rfl (R_bin H4 rfl rfl rfl (B_to (y := false) (B8_eq _ _) (beq_eq_false_iff_ne.2 (by omega)))) (P3 7 3 0 rfl rfl rfl) fun _ H5 => ?_
  refine h_end ?_
  repeat (go_not_at_region 3; go_step)
  refine wp_cond_false (H5.ev (x := .tmp 7) rfl) ?_
  repeat (go_not_at_region 3; go_step)
  refine wp_region_held_drew (S := fun w' => Live W [(W.heap.size, itC x, 33)] w') (by kernel_rfl) hL.drew (fun hL' => ?_)
  replace hL := hL'
  clear hL'
  refine a_opZ 0 H5 rfl rfl (by kernel_rfl) (wn rfl) (fun w hL => R_fa H5 rfl rfl (fi_k (by decide))) (hL) rfl (P2 10 0 rfl rfl) fun _ H6 => ?_
  refine a_opZ 2 H6 rfl rfl (by kernel_rfl) (wn rfl) (fun w hL => R_mv H6 rfl rfl) (hL) rfl (P2 12 10 rfl rfl) fun _ H7 => ?_
  refine a_opZ 1 H7 rfl rfl (by kernel_rfl) (wn rfl) (fun w hL => R_ld H7 rfl rfl (ld_str (hL.cell 4))) (hL) rfl (P2 11 12 rfl rfl) fun _ H8 => ?_
  refine a_opZ 3 H8 rfl rfl (by kernel_rfl) (wn rfl) (fun w hL => R_nc H8 rfl rfl) (hL) rfl (P2 13 11 rfl rfl) fun _ H9 => ?_
  refine a_opZ 4 H9 rfl rfl (by kernel_rfl) (wn rfl) (fun w hL => R_fa H9 rfl rfl fs_1) (hL) rfl (P2 14 11 rfl rfl) fun _ H10 => ?_
  refine a_opZ 5 H10 rfl rfl (by kernel_rfl) (wn rfl) (fun w hL => R_fa H10 rfl rfl (ft_2 _ _ _)) (hL) rfl (P2 15 11 rfl rfl) fun _ H11 => ?_
  refine a_opZ 6 H11 rfl rfl (by kernel_rfl) (wn rfl) (fun w hL => R_ld H11 rfl rfl (ld_sl (cells_at (K0 hL.1) 3))) (hL) rfl (P2 16 11 rfl rfl) fun _ H12 => ?_
  refine a_opZ 7 H12 rfl rfl (by kernel_rfl) (wn rfl) (fun w hL => (R_lenS H12 rfl rfl Tryz.underlying26)) (hL) rfl (P2 17 11 rfl rfl) fun _ H13 => ?_
  refine a_all1 8 (by kernel_rfl) ?_
  refine o_callB 8 H13 rfl rfl (wn rfl) (R_call2 H13 rfl rfl rfl (fun w => by simp [go_sem])) rfl hL ((of_any hx S.t.own.length (by omega)).mono fun e w' h => ⟨h.1, by rw [h.2]; exact Below.refl _ _⟩) (P1 18 rfl) fun a14 w14 H14 hL' => ⟨hL', ?_⟩
  replace hL := hL'
  refine a_opZ 9 H14 rfl rfl (by kernel_rfl) (wn rfl) (fun w hL => R_as H14 rfl rfl) (hL) rfl (P1 4 rfl) fun _ H15 => ?_
  refine wpAnyH_done (by kernel_rfl) ?_ _
  repeat (go_not_at_region 999; go_step)
  exact H15.ret1 rfl rfl ⟨by rw [hy], hL.1⟩
end
end Go.Proofs.YthkeiclhllikjaaGreat
/-
 A source is made; it sends.
-/
namespace Go.Proofs.YthkeiclhllikjaaGreat
open Go.RowKit
section
variable {P : Program} {ops : Array Oper} {Q : Exit → Act → World → Prop} {o : Oper} {a : Act} {w w' : World} {n : Nat} {m : List (Nat × Value)} {K : Act → World → Prop} {w0 : World} {v : Value}
theorem o_stS (L' : List Thg) (i : Nat) (H : Fr a n m) (hi : ops[i]? = some o) (hd : o.dst = none) (hg : Region.wanted o (yielded ops a.tmps) = true) (hr : (execOp a.eval o).run P w = .ok .skip w')
  (hL : LV w0 L' w') (k : ∀ a' w', Fr a' n m → LV w0 L' w' → K a' w') : wpOp P ops Q i K a w := by
 unfold wpOp
 simp only [hi, hg, if_true]
 refine .inl ?_
 unfold Oper.wp
 rw [hr]
 simp only [Oper.upon, hd]
 exact k _ _ H hL
theorem R_bd5 {t : TypeId} {i0 i1 i2 i3 i4 : Nat} {x0 x1 x2 x3 x4 : Operand} {v0 v1 v2 v3 v4 : Value} (H : Fr a n m) (ho : o.op = .build t #[(i0, x0), (i1, x1), (i2, x2), (i3, x3), (i4, x4)]) (h0 : ev1 m x0 = some v0) (h1 : ev1 m x1 = some v1) (h2 : ev1 m x2 = some v2) (h3 : ev1 m x3 = some v3) (h4 : ev1 m x4 = some v4) (hl : (Instr.build t #[(i0, v0), (i1, v1), (i2, v2), (i3, v3), (i4, v4)]).run P w = .ok v w) : (execOp a.eval o).run P w = .ok (.value v) w := by
 have e0 := H.ev h0
 have e1 := H.ev h1
 have e2 := H.ev h2
 have e3 := H.ev h3
 have e4 := H.ev h4
 unfold execOp
 rw [ho]
 generalize a.eval = ρ at *
 simp only [List.map_toArray, List.map_cons, List.map_nil, e0, e1, e2, e3, e4]
 exact fr_v hl
end
theorem infoIt : (Tryz.prog.info? 33).map (·.size) = some 8 := by kernel_rfl
theorem LV.perm4 {w0 W : World} {L : List Thg} {p a b : Thg} (h : LV w0 (p :: a :: b :: L) W) : LV w0 (p :: b :: a :: L) W := h.perm ((List.Perm.swap b a L).cons p)
theorem LV.take {w0 W : World} {p a b : Thg} {X Y : List Thg} (h : LV w0 (p :: a :: b :: (X ++ Y)) W) : LV w0 (p :: a :: b :: X) W := by
 have h2 : LV w0 (Y ++ (p :: a :: b :: X)) W := h.perm (List.perm_append_comm (l₁ := p :: a :: b :: X) (l₂ := Y))
 exact h2.dropl
abbrev srD (S : PSrc) (v : Value) (bo ba : Nat) (lo la : Int) : Array Value := #[.int .i64 S.src, .int .i64 S.t.ep, .int .i64 S.t.nd, v, .map (some bo), .map (some ba), .int .i64 lo, .int .i64 la]
def newB (src : Int) (t : PTab) : Bool := !((decide (src < 0) || decide (src ≥ 4)) || !(rightT t))
section
variable {w0 W w : World} {L : List Thg} {S : PSrc} {v : Value} {bo ba p g : Nat} {x : PItem} {t : PTab} {src : Int}
theorem bd_sr {q : Option Addr} {l c : Nat} : (Instr.build 60 #[(0, .int .i64 src), (1, .agg (tbC t (.slice q l c))), (2, .map (some bo)), (3, .map (some ba)), (4, .int .i64 1)]).run Tryz.prog w = .ok (.agg (srD ⟨src, t, []⟩ (.slice q l c) bo ba 1 0)) w := by
 simp [go_sem]
theorem bx_sr {q : Option Addr} {l c : Nat} {lo la : Int} : (Instr.box 60 (.agg (srD S (.slice q l c) bo ba lo la))).run Tryz.prog w = .ok (.pointer (some ⟨w.heap.size, 0, none⟩)) (w.alloc (.cells (srD S (.slice q l c) bo ba lo la) 60)) := by
 simp [go_sem]
set_option maxRecDepth 100000 in
set_option maxHeartbeats 1000000 in
theorem new_any (hR : Rd W v t.own) (hl : t.own.length ≤ 1000000000000) : Calls Tryz.prog 9 #[.int .i64 src, .agg (tbC t v)] W fun e W' =>
  (newB src t = true → ∃ v' R p bo ba, e = .returned (.tuple #[.pointer (some ⟨p, 0, none⟩), .int .i64 0]) ∧ RowIs 3 v' (ints t.own) R ∧ LV W (bk p (srC ⟨src, t, []⟩ v' bo ba) 60 :: mp bo (opE []) :: mp ba (anE []) :: lift R) W') ∧
  (newB src t = false → e = .returned (.tuple #[.pointer none, .int .i64 1]) ∧ Below W.heap.size W W') := by
 obtain ⟨A, c, rfl⟩ := hR.slc
 have K1 : ∀ {w}, Below W.heap.size W w → Rd w (.slice A t.own.length c) t.own := fun hb => hR.kept fun k hk => hb.block k hk
 have hL := LV.init W
 obtain ⟨nb, hnb⟩ : ∃ b, b = newB src t := ⟨_, rfl⟩
 rw [← hnb]
 unfold newB at hnb
 go_enter Tryz.func9, Tryz.ntmps9
 refine wp_fr (n := 24) (m := [(0, _), (1, _)]) ⟨rfl, rfl, by intro p hp; simp only [List.mem_cons, List.not_mem_nil, or_false] at hp; rcases hp with rfl | rfl <;> rfl⟩ fun a0 H0 => ?_
 repeat (go_not_at_region 0; go_step)
 refine wp_region_lit ?_
 refine h_opS [bk W.heap.size (tbC t (.slice A t.own.length c)) 28] H0 rfl (wn rfl) (R_box H0 rfl rfl bx_tb) (hL.alloc _ _) rfl (P2 3 0 rfl rfl) fun _ w1 H1 hL => ?_
 refine h_o H1 rfl (R_as H1 rfl rfl) (P2 3 0 rfl rfl) fun _ H2 => ?_
 refine h_o H2 rfl (R_as H2 rfl rfl) (P2 3 0 rfl rfl) fun _ H3 => ?_
 refine h_end ?_
 repeat (go_not_at_region 1; go_step)
 refine wp_region_lit ?_
 refine h_o H3 rfl (R_mv H3 rfl rfl) (P3 6 3 0 rfl rfl rfl) fun _ H4 => ?_
 refine h_o H4 rfl (R_bin H4 rfl rfl rfl (B_lt Tryz.underlying3 _ _)) (P3 7 3 0 rfl rfl rfl) fun _ H5 => ?_
 refine h_o H5 rfl (R_mv H5 rfl rfl) (P3 8 3 0 rfl rfl rfl) fun _ H6 => ?_
 replace H6 := H6.pick [(0, .int .i64 src), (3, .pointer (some ⟨W.heap.size, 0, none⟩)), (8, .bool (decide (src < 0)))] (P3 0 3 8 rfl rfl rfl)
 generalize ht0 : (decide (src < 0)) = t0 at H6
 refine wpList_cut [_, _, _, _] (R := fun a' w' => Fr a' 24 [(0, .int .i64 src), (3, .pointer (some ⟨W.heap.size, 0, none⟩)), (12, .bool (t0 || (decide (src ≥ 4))))] ∧ LV W [bk W.heap.size (tbC t (.slice A t.own.length c)) 28] w') ?_ ?_
 ·cases t0
  ·refine h_op H6 rfl (H6.wt rfl rfl rfl) (R_mv H6 rfl rfl) rfl (P4 9 0 3 8 rfl rfl rfl rfl) fun a7 H7 => ?_
   refine h_op H7 rfl (H7.wt rfl rfl rfl) (R_bin H7 rfl rfl rfl (B_ge Tryz.underlying3 _ _)) rfl (P4 10 0 3 8 rfl rfl rfl rfl) fun _ H8 => ?_
   refine h_o H8 rfl (R_pick H8 rfl rfl rfl) (P3 11 0 3 rfl rfl rfl) fun _ H9 => ?_
   refine h_o H9 rfl (R_mv H9 rfl rfl) (P3 12 0 3 rfl rfl rfl) fun _ H10 => ?_
   exact h_end ⟨H10.pick _ (P3 0 3 12 rfl rfl rfl), hL⟩
  ·refine h_skip H6 rfl (H6.wf rfl rfl rfl) rfl (P4 9 0 3 8 rfl rfl rfl rfl) fun a7 H7 => ?_
   refine h_skip H7 rfl (H7.wf rfl rfl rfl) rfl (P4 10 0 3 8 rfl rfl rfl rfl) fun _ H8 => ?_
   refine h_o H8 rfl (R_pick H8 rfl rfl rfl) (P3 11 0 3 rfl rfl rfl) fun _ H9 => ?_
   refine h_o H9 rfl (R_mv H9 rfl rfl) (P3 12 0 3 rfl rfl rfl) fun _ H10 => ?_
   exact h_end ⟨H10.pick _ (P3 0 3 12 rfl rfl rfl), hL⟩
 clear hL H6
 rintro a11 wx ⟨H11, hL⟩
 generalize ht1 : (t0 || (decide (src ≥ 4))) = t1 at H11
 refine wpList_cut [_, _, _, _] (R := fun a' w' => Fr a' 24 [(0, .int .i64 src), (3, .pointer (some ⟨W.heap.size, 0, none⟩)), (16, .bool (t1 || (!(rightT t))))] ∧ LV W [bk W.heap.size (tbC t (.slice A t.own.length c)) 28] w') ?_ ?_
 ·cases t1
  ·refine h_op H11 rfl (H11.wt rfl rfl rfl) (R_ld H11 rfl rfl (ld_tb (t := t) hL.at_)) rfl (P4 13 0 3 12 rfl rfl rfl rfl) fun a12 H12 => ?_
   refine h_call H12 rfl (H12.wt rfl rfl rfl) (R_call1 H12 rfl rfl (fun w => by simp [go_sem])) rfl ?_
   refine (right_any (K1 hL.1) hl).mono ?_
   rintro e w13 ⟨rfl, hb⟩
   replace hL := hL.call hb
   clear hb
   refine ⟨_, rfl, fun a13 HH => ?_⟩
   have H13 := HH _ (P4 14 0 3 12 rfl rfl rfl rfl)
   refine h_op H13 rfl (H13.wt rfl rfl rfl) (R_not H13 rfl rfl) rfl (P4 15 0 3 12 rfl rfl rfl rfl) fun _ H14 => ?_
   refine h_o H14 rfl (R_pick H14 rfl rfl rfl) (P3 16 0 3 rfl rfl rfl) fun _ H15 => ?_
   exact h_end ⟨H15.pick _ (P3 0 3 16 rfl rfl rfl), hL⟩
  ·refine h_skip H11 rfl (H11.wf rfl rfl rfl) rfl (P4 13 0 3 12 rfl rfl rfl rfl) fun a12 H12 => ?_
   refine h_skip H12 rfl (H12.wf rfl rfl rfl) rfl (P4 14 0 3 12 rfl rfl rfl rfl) fun _ H13 => ?_
   refine h_skip H13 rfl (H13.wf rfl rfl rfl) rfl (P4 15 0 3 12 rfl rfl rfl rfl) fun _ H14 => ?_
   refine h_o H14 rfl (R_pick H14 rfl rfl rfl) (P3 16 0 3 rfl rfl rfl) fun _ H15 => ?_
   exact h_end ⟨H15.pick _ (P3 0 3 16 rfl rfl rfl), hL⟩
 clear hL H11
 rintro a16 wx ⟨H16, hL⟩
 generalize ht2 : (t1 || (!(rightT t))) = t2 at H16
 refine h_end ?_
 rw [ht0, ht1, ht2] at hnb
 cases t2
 rotate_left
 ·subst hnb
  repeat (go_not_at_region 2; go_step)
  refine wp_cond_true (H16.ev (x := .tmp 16) rfl) ?_
  repeat (go_not_at_region 2; go_step)
  refine wp_region_lit ?_
  refine h_o H16 rfl (R_as H16 rfl rfl) (P1 4 rfl) fun _ H17 => ?_
  refine h_o H17 rfl (R_as H17 rfl rfl) (P2 5 4 rfl rfl) fun _ H18 => ?_
  refine h_end ?_
  repeat (go_not_at_region 999; go_step)
  exact H18.ret2 rfl rfl rfl ⟨fun h => (by cases h), fun _ => ⟨rfl, hL.1⟩⟩
 subst hnb
 repeat (go_not_at_region 3; go_step)
 refine wp_cond_false (H16.ev (x := .tmp 16) rfl) ?_
 repeat (go_not_at_region 3; go_step)
 refine wp_region_lit ?_
 refine h_o H16 rfl (R_mv H16 rfl rfl) (P2 17 3 rfl rfl) fun _ H17 => ?_
 refine h_o H17 rfl (R_ld H17 rfl rfl (ld_tb (t := t) hL.at_)) (P2 18 17 rfl rfl) fun _ H18 => ?_
 refine h_call H18 rfl (wn rfl) (R_call1 H18 rfl rfl (fun w => by simp [go_sem])) rfl ?_
 refine (copy_any (K1 hL.1) hl).mono ?_
 rintro e w19 ⟨v', R, rfl, hr, hL3⟩
 obtain ⟨p3, c3, rfl⟩ := hr.shapeI
 replace hL := hL.join hL3
 clear hL3
 refine ⟨_, rfl, fun a19 HH => ?_⟩
 have H19 := HH _ (P2 19 17 rfl rfl)
 refine h_opS (mp w19.heap.size [] :: (lift R ++ [bk W.heap.size (tbC t (.slice A t.own.length c)) 28])) H19 rfl (wn rfl) (R_mm rfl) (hL.allocM) rfl (P3 20 19 17 rfl rfl rfl) fun _ w20 H20 hL => ?_
 refine h_opS (mp w20.heap.size [] :: mp w19.heap.size [] :: (lift R ++ [bk W.heap.size (tbC t (.slice A t.own.length c)) 28])) H20 rfl (wn rfl) (R_mm rfl) (hL.allocM) rfl (P4 21 20 19 17 rfl rfl rfl rfl) fun _ w21 H21 hL => ?_
 refine h_o H21 rfl (R_bd5 H21 rfl rfl rfl rfl rfl rfl bd_sr) (P1 22 rfl) fun _ H22 => ?_
 refine h_opS (bk w21.heap.size (srD ⟨src, t, []⟩ (.slice p3 t.own.length c3) (w19.heap.size) (w20.heap.size) 1 0) 60 :: mp w20.heap.size [] :: mp w19.heap.size [] :: (lift R ++ [bk W.heap.size (tbC t (.slice A t.own.length c)) 28])) H22 rfl (wn rfl) (R_box H22 rfl rfl bx_sr) (hL.alloc _ _) rfl (P1 23 rfl) fun _ w23 H23 hL => ?_
 refine h_o H23 rfl (R_as H23 rfl rfl) (P1 4 rfl) fun _ H24 => ?_
 refine h_o H24 rfl (R_as H24 rfl rfl) (P2 5 4 rfl rfl) fun _ H25 => ?_
 refine h_end ?_
 repeat (go_not_at_region 999; go_step)
 refine H25.ret2 rfl rfl rfl ⟨fun _ => ?_, fun h => (by cases h)⟩
 exact ⟨_, R, w21.heap.size, w19.heap.size, w20.heap.size, rfl, hr, hL.perm4.take⟩
def sendM (S : PSrc) (x : PItem) : PSrc × Int × Int :=
 if x.kind ≠ 1 ∧ x.kind ≠ 2 then (S, 0, 10)
 else if 255 < x.key.size then (S, 0, 3)
 else if (((x.kind == 1) && (x.part != 0)) || decide (x.part < 0)) || decide (x.part ≥ (S.t.own.length : Int)) then (S, 0, 21)
 else if (lowN S.L : Int) + 16 ≤ S.L.length + 1 then (S, 0, 6)
 else ({ S with L := S.L ++ [({ x with src := S.src, seq := ((S.L.length + 1 : Nat) : Int), low := 0 }, 0)] }, ((S.L.length + 1 : Nat) : Int), 0)
theorem ld_it (h : w.heap[g]? = some (.cells (itC x) 33 (0, 0))) : (Instr.loadAt 33 (.pointer (some ⟨g, 0, none⟩))).run Tryz.prog w = .ok (.agg (itC x)) w := by
 simp only [Instr.loadAt, Instr.sureAddr, Sem.run_bind, Sem.run_pure, Result.andThen_ok, run_loadVar_row w g 33 33 (itC x) (0, 0) _ h Tryz.underlying33 rfl infoIt]
theorem st_i {A : Array Value} {T : TypeId} {i : Nat} {y old : Int} (h : LV w0 (bk g A T :: L) w) (hc : A[i]? = some (.int .i64 old)) : (Instr.storeAt 3 (.pointer (some ⟨g, i, none⟩)) (.int .i64 y)).run Tryz.prog w = .ok () (w.setCell ⟨g, i, none⟩ (.int .i64 y)) := by
 have hc2 := (h.cell i).trans hc
 have hz := h.thaw i
 simp [go_sem, hc2, hz]
set_option maxRecDepth 100000 in
set_option maxHeartbeats 2000000 in
theorem send_any (hL : LV w0 (bk p (srC S v bo ba) 60 :: mp bo (opE S.L) :: mp ba (anE S.L) :: L) W) (hv : Rd W v S.t.own) (hn : S.L.length < 100000) :
  Calls Tryz.prog 11 #[.pointer (some ⟨p, 0, none⟩), .agg (itC x)] W fun e W' => e = .returned (.tuple #[.int .i64 (sendM S x).2.1, .int .i64 (sendM S x).2.2]) ∧
   LV w0 (bk p (srC (sendM S x).1 v bo ba) 60 :: mp bo (opE (sendM S x).1.L) :: mp ba (anE (sendM S x).1.L) :: L) W' := by
 obtain ⟨A, c, rfl⟩ := hv.slc
 obtain ⟨y, hy⟩ : ∃ y, y = sendM S x := ⟨_, rfl⟩
 rw [← hy]
 unfold sendM at hy
 have hlo := lowN_le (L := S.L)
 go_enter Tryz.func11, Tryz.ntmps11
 refine wp_fr (n := 87) (m := [(0, _), (1, _)]) ⟨rfl, rfl, by intro p hp; simp only [List.mem_cons, List.not_mem_nil, or_false] at hp; rcases hp with rfl | rfl <;> rfl⟩ fun a0 H0 => ?_
 repeat (go_not_at_region 0; go_step)
 refine wp_region_lit ?_
 refine h_opS (bk W.heap.size (itC x) 33 :: bk p (srC S (.slice A S.t.own.length c) bo ba) 60 :: mp bo (opE S.L) :: mp ba (anE S.L) :: L) H0 rfl (wn rfl) (R_box H0 rfl rfl bx_it) (hL.alloc _ _) rfl (P2 3 0 rfl rfl) fun _ w1 H1 hL => ?_
 refine h_o H1 rfl (R_as H1 rfl rfl) (P2 3 0 rfl rfl) fun _ H2 => ?_
 refine h_o H2 rfl (R_as H2 rfl rfl) (P2 3 0 rfl rfl) fun _ H3 => ?_
 refine h_end ?_
 repeat (go_not_at_region 1; go_step)
 refine wp_region_lit ?_
 refine h_o H3 rfl (R_mv H3 rfl rfl) (P3 7 3 0 rfl rfl rfl) fun _ H4 => ?_
 refine h_call H4 rfl (wn rfl) (R_call1 H4 rfl rfl (fun w => by simp [go_sem])) rfl ?_
 refine (none_any (hL.tail.cell 4)).mono ?_
 rintro e wx ⟨rfl, rfl⟩
 refine ⟨_, rfl, fun a5 HH => ?_⟩
 have H5 := HH _ (P3 8 3 0 rfl rfl rfl)
 refine h_o H5 rfl (R_as H5 rfl rfl) (P3 6 3 0 rfl rfl rfl) fun _ H6 => ?_
 refine h_end ?_
 repeat (go_not_at_region 3; go_step)
 refine wp_cond_false (H6.ev (x := .tmp 6) rfl) ?_
 repeat (go_not_at_region 3; go_step)
 by_cases hk : x.kind ≠ 1 ∧ x.kind ≠ 2
 ·rw [if_pos hk] at hy
  repeat (go_not_at_region 3; go_step)
  refine wp_region_lit ?_
  refine h_o H6 rfl (R_fa H6 rfl rfl (fi_k (by decide))) (P3 10 3 0 rfl rfl rfl) fun _ H7 => ?_
  refine h_o H7 rfl (R_ld H7 rfl rfl (ld_u8 (hL.cell 3))) (P3 11 3 0 rfl rfl rfl) fun _ H8 => ?_
  refine h_o H8 rfl (R_bin H8 rfl rfl rfl (B_to (y := true) (B8_ne _ _) (bne_iff_ne.2 (by omega)))) (P3 12 3 0 rfl rfl rfl) fun _ H9 => ?_
  refine h_o H9 rfl (R_mv H9 rfl rfl) (P3 13 3 0 rfl rfl rfl) fun _ H10 => ?_
  refine h_op H10 rfl (H10.wt rfl rfl rfl) (R_fa H10 rfl rfl (fi_k (by decide))) rfl (P4 14 13 3 0 rfl rfl rfl rfl) fun _ H11 => ?_
  refine h_op H11 rfl (H11.wt rfl rfl rfl) (R_ld H11 rfl rfl (ld_u8 (hL.cell 3))) rfl (P4 15 13 3 0 rfl rfl rfl rfl) fun _ H12 => ?_
  refine h_op H12 rfl (H12.wt rfl rfl rfl) (R_bin H12 rfl rfl rfl (B_to (y := true) (B8_ne _ _) (bne_iff_ne.2 (by omega)))) rfl (P4 16 13 3 0 rfl rfl rfl rfl) fun _ H13 => ?_
  refine h_o H13 rfl (R_pick H13 rfl rfl rfl) (P3 17 3 0 rfl rfl rfl) fun _ H14 => ?_
  refine h_o H14 rfl (R_as H14 rfl rfl) (P3 9 3 0 rfl rfl rfl) fun _ H15 => ?_
  refine h_end ?_
  repeat (go_not_at_region 4; go_step)
  refine wp_cond_true (H15.ev (x := .tmp 9) rfl) ?_
  repeat (go_not_at_region 4; go_step)
  refine wp_region_lit ?_
  refine h_o H15 rfl (R_as H15 rfl rfl) (P1 4 rfl) fun _ H16 => ?_
  refine h_o H16 rfl (R_as H16 rfl rfl) (P2 5 4 rfl rfl) fun _ H17 => ?_
  refine h_end ?_
  repeat (go_not_at_region 999; go_step)
  refine H17.ret2 rfl rfl rfl ?_
  rw [hy]
  exact ⟨rfl, hL.tail⟩
 rw [if_neg hk] at hy
 refine wp_region_lit ?_
 refine h_o H6 rfl (R_fa H6 rfl rfl (fi_k (by decide))) (P3 10 3 0 rfl rfl rfl) fun _ H7 => ?_
 refine h_o H7 rfl (R_ld H7 rfl rfl (ld_u8 (hL.cell 3))) (P3 11 3 0 rfl rfl rfl) fun _ H8 => ?_
 refine h_o H8 rfl (R_bin H8 rfl rfl rfl (B8_ne _ _)) (P3 12 3 0 rfl rfl rfl) fun _ H9 => ?_
 refine h_o H9 rfl (R_mv H9 rfl rfl) (P3 13 3 0 rfl rfl rfl) fun _ H10 => ?_
 replace H10 := H10.pick [(0, .pointer (some ⟨p, 0, none⟩)), (3, .pointer (some ⟨W.heap.size, 0, none⟩)), (13, .bool ((x.kind : Int) != 1))] (P3 0 3 13 rfl rfl rfl)
 generalize hu0 : ((x.kind : Int) != 1) = u0 at H10
 refine wpList_cut [_, _, _, _] (R := fun a' w' => Fr a' 87 [(0, .pointer (some ⟨p, 0, none⟩)), (3, .pointer (some ⟨W.heap.size, 0, none⟩)), (17, .bool (u0 && ((x.kind : Int) != 2)))] ∧ LV w0 (bk W.heap.size (itC x) 33 :: bk p (srC S (.slice A S.t.own.length c) bo ba) 60 :: mp bo (opE S.L) :: mp ba (anE S.L) :: L) w') ?_ ?_
 ·cases u0
  ·refine h_skip H10 rfl (H10.wf rfl rfl rfl) rfl (P4 14 0 3 13 rfl rfl rfl rfl) fun a11 H11 => ?_
   refine h_skip H11 rfl (H11.wf rfl rfl rfl) rfl (P4 15 0 3 13 rfl rfl rfl rfl) fun _ H12 => ?_
   refine h_skip H12 rfl (H12.wf rfl rfl rfl) rfl (P4 16 0 3 13 rfl rfl rfl rfl) fun _ H13 => ?_
   refine h_o H13 rfl (R_pick H13 rfl rfl rfl) (P3 17 0 3 rfl rfl rfl) fun _ H14 => ?_
   exact h_end ⟨H14.pick _ (P3 0 3 17 rfl rfl rfl), hL⟩
  ·refine h_op H10 rfl (H10.wt rfl rfl rfl) (R_fa H10 rfl rfl (fi_k (by decide))) rfl (P4 14 0 3 13 rfl rfl rfl rfl) fun a11 H11 => ?_
   refine h_op H11 rfl (H11.wt rfl rfl rfl) (R_ld H11 rfl rfl (ld_u8 (hL.cell 3))) rfl (P4 15 0 3 13 rfl rfl rfl rfl) fun _ H12 => ?_
   refine h_op H12 rfl (H12.wt rfl rfl rfl) (R_bin H12 rfl rfl rfl (B8_ne _ _)) rfl (P4 16 0 3 13 rfl rfl rfl rfl) fun _ H13 => ?_
   refine h_o H13 rfl (R_pick H13 rfl rfl rfl) (P3 17 0 3 rfl rfl rfl) fun _ H14 => ?_
   exact h_end ⟨H14.pick _ (P3 0 3 17 rfl rfl rfl), hL⟩
 clear hL H10
 rintro a15 wx ⟨H15, hL⟩
 generalize hu1 : (u0 && ((x.kind : Int) != 2)) = u1 at H15
 have hu : u1 = false := by
  rw [← hu1, ← hu0, Bool.and_eq_false_iff]
  by_cases h1 : x.kind = 1
  ·exact .inl (by rw [h1]; rfl)
  ·exact .inr (by rw [show x.kind = 2 by omega]; rfl)
 subst hu
 refine h_o H15 rfl (R_as H15 rfl rfl) (P3 9 0 3 rfl rfl rfl) fun _ H16 => ?_
 refine h_end ?_
 repeat (go_not_at_region 5; go_step)
 refine wp_cond_false (H16.ev (x := .tmp 9) rfl) ?_
 by_cases hz : 255 < x.key.size
 ·rw [if_pos hz] at hy
  repeat (go_not_at_region 5; go_step)
  refine wp_region_lit ?_
  refine h_o H16 rfl (R_fa H16 rfl rfl (fi_k (by decide))) (P3 19 0 3 rfl rfl rfl) fun _ H17 => ?_
  refine h_o H17 rfl (R_ld H17 rfl rfl (ld_str (hL.cell 4))) (P3 20 0 3 rfl rfl rfl) fun _ H18 => ?_
  refine h_o H18 rfl (R_len H18 rfl rfl Tryz.underlying9) (P3 21 0 3 rfl rfl rfl) fun _ H19 => ?_
  refine h_o H19 rfl (R_bin H19 rfl rfl rfl (B_to (y := true) (B_gt Tryz.underlying3 _ _) (decide_eq_true (by omega)))) (P3 22 0 3 rfl rfl rfl) fun _ H20 => ?_
  refine h_o H20 rfl (R_as H20 rfl rfl) (P3 18 0 3 rfl rfl rfl) fun _ H21 => ?_
  refine h_end ?_
  repeat (go_not_at_region 6; go_step)
  refine wp_cond_true (H21.ev (x := .tmp 18) rfl) ?_
  repeat (go_not_at_region 6; go_step)
  refine wp_region_lit ?_
  refine h_o H21 rfl (R_as H21 rfl rfl) (P1 4 rfl) fun _ H22 => ?_
  refine h_o H22 rfl (R_as H22 rfl rfl) (P2 5 4 rfl rfl) fun _ H23 => ?_
  refine h_end ?_
  repeat (go_not_at_region 999; go_step)
  refine H23.ret2 rfl rfl rfl ?_
  rw [hy]
  exact ⟨rfl, hL.tail⟩
 rw [if_neg hz] at hy
 repeat (go_not_at_region 5; go_step)
 refine wp_region_lit ?_
 refine h_o H16 rfl (R_fa H16 rfl rfl (fi_k (by decide))) (P3 19 0 3 rfl rfl rfl) fun _ H17 => ?_
 refine h_o H17 rfl (R_ld H17 rfl rfl (ld_str (hL.cell 4))) (P3 20 0 3 rfl rfl rfl) fun _ H18 => ?_
 refine h_o H18 rfl (R_len H18 rfl rfl Tryz.underlying9) (P3 21 0 3 rfl rfl rfl) fun _ H19 => ?_
 refine h_o H19 rfl (R_bin H19 rfl rfl rfl (B_to (y := false) (B_gt Tryz.underlying3 _ _) (decide_eq_false (by omega)))) (P3 22 0 3 rfl rfl rfl) fun _ H20 => ?_
 refine h_o H20 rfl (R_as H20 rfl rfl) (P3 18 0 3 rfl rfl rfl) fun _ H21 => ?_
 refine h_end ?_
 repeat (go_not_at_region 7; go_step)
 refine wp_cond_false (H21.ev (x := .tmp 18) rfl) ?_
 repeat (go_not_at_region 7; go_step)
 refine wp_region_held_drew (S := fun w' => LV w0 (bk W.heap.size (itC x) 33 :: bk p (srC S (.slice A S.t.own.length c) bo ba) 60 :: mp bo (opE S.L) :: mp ba (anE S.L) :: L) w') (by kernel_rfl) hL.drew (fun hL' => ?_)
 replace hL := hL'
 clear hL'
 refine a_opZ 0 H21 rfl rfl (by kernel_rfl) (wn rfl) (fun w hL => R_fa H21 rfl rfl (fi_k (by decide))) hL rfl (P3 24 0 3 rfl rfl rfl) fun _ H22 => ?_
 refine a_opZ 1 H22 rfl rfl (by kernel_rfl) (wn rfl) (fun w hL => R_ld H22 rfl rfl (ld_u8 (hL.cell 3))) hL rfl (P3 25 0 3 rfl rfl rfl) fun _ H23 => ?_
 refine a_opZ 2 H23 rfl rfl (by kernel_rfl) (wn rfl) (fun w hL => R_bin H23 rfl rfl rfl (B8_eq _ _)) hL rfl (P3 26 0 3 rfl rfl rfl) fun _ H24 => ?_
 refine a_opZ 3 H24 rfl rfl (by kernel_rfl) (wn rfl) (fun w hL => R_mv H24 rfl rfl) hL rfl (P3 27 0 3 rfl rfl rfl) fun _ H25 => ?_
 replace H25 := H25.pick [(27, .bool ((x.kind : Int) == 1)), (0, .pointer (some ⟨p, 0, none⟩)), (3, .pointer (some ⟨W.heap.size, 0, none⟩))] (P3 27 0 3 rfl rfl rfl)
 generalize hs0 : ((x.kind : Int) == 1) = s0 at H25
 refine a_opB  4 H25 rfl rfl (by kernel_rfl) (by kernel_rfl) (by kernel_rfl) (fun _ _ _ h => h) rfl rfl rfl (fun hb w hL => by subst hb; exact R_fa H25 rfl rfl (fi_k (by decide))) hL rfl (P4 28 27 0 3 rfl rfl rfl rfl) fun _ H26 => ?_
 refine a_opB  5 H26 rfl rfl (by kernel_rfl) (by kernel_rfl) (by kernel_rfl) (fun _ _ _ h => h) rfl rfl rfl (fun hb w hL => by subst hb; exact R_ld H26 rfl rfl (ld_int (hL.cell 5))) hL rfl (P4 29 27 0 3 rfl rfl rfl rfl) fun _ H27 => ?_
 refine a_opB  6 H27 rfl rfl (by kernel_rfl) (by kernel_rfl) (by kernel_rfl) (fun _ _ _ h => h) rfl rfl rfl (fun hb w hL => by subst hb; exact R_bin H27 rfl rfl rfl (B_ne Tryz.underlying3 _ _)) hL rfl (P4 30 27 0 3 rfl rfl rfl rfl) fun _ H28 => ?_
 refine a_opZ 7 H28 rfl rfl (by kernel_rfl) (wn rfl) (fun w hL => R_pickAnd H28 rfl rfl rfl) hL rfl (P3 31 0 3 rfl rfl rfl) fun _ H29 => ?_
 refine a_opZ 8 H29 rfl rfl (by kernel_rfl) (wn rfl) (fun w hL => R_mv H29 rfl rfl) hL rfl (P3 32 0 3 rfl rfl rfl) fun _ H30 => ?_
 replace H30 := H30.pick [(32, .bool (s0 && (x.part != 0))), (0, .pointer (some ⟨p, 0, none⟩)), (3, .pointer (some ⟨W.heap.size, 0, none⟩))] (P3 32 0 3 rfl rfl rfl)
 generalize hs1 : (s0 && (x.part != 0)) = s1 at H30
 refine a_opB  9 H30 rfl rfl (by kernel_rfl) (by kernel_rfl) (by kernel_rfl) (fun _ _ _ h => h) rfl rfl rfl (fun hb w hL => by subst hb; exact R_fa H30 rfl rfl (fi_k (by decide))) hL rfl (P4 33 32 0 3 rfl rfl rfl rfl) fun _ H31 => ?_
 refine a_opB  10 H31 rfl rfl (by kernel_rfl) (by kernel_rfl) (by kernel_rfl) (fun _ _ _ h => h) rfl rfl rfl (fun hb w hL => by subst hb; exact R_ld H31 rfl rfl (ld_int (hL.cell 5))) hL rfl (P4 34 32 0 3 rfl rfl rfl rfl) fun _ H32 => ?_
 refine a_opB  11 H32 rfl rfl (by kernel_rfl) (by kernel_rfl) (by kernel_rfl) (fun _ _ _ h => h) rfl rfl rfl (fun hb w hL => by subst hb; exact R_bin H32 rfl rfl rfl (B_lt Tryz.underlying3 _ _)) hL rfl (P4 35 32 0 3 rfl rfl rfl rfl) fun _ H33 => ?_
 refine a_opZ 12 H33 rfl rfl (by kernel_rfl) (wn rfl) (fun w hL => R_pickOr H33 rfl rfl rfl) hL rfl (P3 36 0 3 rfl rfl rfl) fun _ H34 => ?_
 refine a_opZ 13 H34 rfl rfl (by kernel_rfl) (wn rfl) (fun w hL => R_mv H34 rfl rfl) hL rfl (P3 37 0 3 rfl rfl rfl) fun _ H35 => ?_
 replace H35 := H35.pick [(37, .bool (s1 || (decide (x.part < 0)))), (0, .pointer (some ⟨p, 0, none⟩)), (3, .pointer (some ⟨W.heap.size, 0, none⟩))] (P3 37 0 3 rfl rfl rfl)
 generalize hs2 : (s1 || (decide (x.part < 0))) = s2 at H35
 refine a_opB  14 H35 rfl rfl (by kernel_rfl) (by kernel_rfl) (by kernel_rfl) (fun _ _ _ h => h) rfl rfl rfl (fun hb w hL => by subst hb; exact R_fa H35 rfl rfl (fi_k (by decide))) hL rfl (P4 38 37 0 3 rfl rfl rfl rfl) fun _ H36 => ?_
 refine a_opB  15 H36 rfl rfl (by kernel_rfl) (by kernel_rfl) (by kernel_rfl) (fun _ _ _ h => h) rfl rfl rfl (fun hb w hL => by subst hb; exact R_ld H36 rfl rfl (ld_int (hL.cell 5))) hL rfl (P4 39 37 0 3 rfl rfl rfl rfl) fun _ H37 => ?_
 refine a_opB  16 H37 rfl rfl (by kernel_rfl) (by kernel_rfl) (by kernel_rfl) (fun _ _ _ h => h) rfl rfl rfl (fun hb w hL => by subst hb; exact R_mv H37 rfl rfl) hL rfl (P5 40 39 37 0 3 rfl rfl rfl rfl rfl) fun _ H38 => ?_
 refine a_opB  17 H38 rfl rfl (by kernel_rfl) (by kernel_rfl) (by kernel_rfl) (fun _ _ _ h => h) rfl rfl rfl (fun hb w hL => by subst hb; exact R_nc H38 rfl rfl) hL rfl (P5 41 39 37 0 3 rfl rfl rfl rfl rfl) fun _ H39 => ?_
 refine a_opB  18 H39 rfl rfl (by kernel_rfl) (by kernel_rfl) (by kernel_rfl) (fun _ _ _ h => h) rfl rfl rfl (fun hb w hL => by subst hb; exact R_fa H39 rfl rfl fs_1) hL rfl (P5 42 39 37 0 3 rfl rfl rfl rfl rfl) fun _ H40 => ?_
 refine a_opB  19 H40 rfl rfl (by kernel_rfl) (by kernel_rfl) (by kernel_rfl) (fun _ _ _ h => h) rfl rfl rfl (fun hb w hL => by subst hb; exact R_fa H40 rfl rfl (ft_2 _ _ _)) hL rfl (P5 43 39 37 0 3 rfl rfl rfl rfl rfl) fun _ H41 => ?_
 refine a_opB  20 H41 rfl rfl (by kernel_rfl) (by kernel_rfl) (by kernel_rfl) (fun _ _ _ h => h) rfl rfl rfl (fun hb w hL => by subst hb; exact R_ld H41 rfl rfl (ld_sl (hL.tail.cell 3))) hL rfl (P5 44 39 37 0 3 rfl rfl rfl rfl rfl) fun _ H42 => ?_
 refine a_opB  21 H42 rfl rfl (by kernel_rfl) (by kernel_rfl) (by kernel_rfl) (fun _ _ _ h => h) rfl rfl rfl (fun hb w hL => by subst hb; exact (R_lenS H42 rfl rfl Tryz.underlying26)) hL rfl (P5 45 39 37 0 3 rfl rfl rfl rfl rfl) fun _ H43 => ?_
 refine a_opB  22 H43 rfl rfl (by kernel_rfl) (by kernel_rfl) (by kernel_rfl) (fun _ _ _ h => h) rfl rfl rfl (fun hb w hL => by subst hb; exact R_bin H43 rfl rfl rfl (B_ge Tryz.underlying3 _ _)) hL rfl (P4 46 37 0 3 rfl rfl rfl rfl) fun _ H44 => ?_
 refine a_opZ 23 H44 rfl rfl (by kernel_rfl) (wn rfl) (fun w hL => R_pickOr H44 rfl rfl rfl) hL rfl (P3 47 0 3 rfl rfl rfl) fun _ H45 => ?_
 refine a_opZ 24 H45 rfl rfl (by kernel_rfl) (wn rfl) (fun w hL => R_as H45 rfl rfl) hL rfl (P3 23 0 3 rfl rfl rfl) fun _ H46 => ?_
 replace H46 := H46.pick [(23, .bool (s2 || (decide (x.part ≥ (S.t.own.length : Int))))), (0, .pointer (some ⟨p, 0, none⟩)), (3, .pointer (some ⟨W.heap.size, 0, none⟩))] (P3 23 0 3 rfl rfl rfl)
 generalize hs3 : (s2 || (decide (x.part ≥ (S.t.own.length : Int)))) = s3 at H46
 refine wpAnyH_done (by kernel_rfl) ?_ _
 have hs : ((((x.kind == 1) && (x.part != 0)) || decide (x.part < 0)) || decide (x.part ≥ (S.t.own.length : Int))) = s3 := by
  have hb1 : (x.kind == 1) = ((x.kind : Int) == 1) := by
   by_cases h1 : x.kind = 1
   ·rw [h1]; rfl
   ·rw [beq_eq_false_iff_ne.2 h1, beq_eq_false_iff_ne.2 (show (x.kind : Int) ≠ 1 by omega)]
  rw [← hs3, ← hs2, ← hs1, ← hs0, hb1]
 rw [hs] at hy
 cases s3
 rotate_left
 ·rw [if_pos rfl] at hy
  repeat (go_not_at_region 8; go_step)
  refine wp_cond_true (H46.ev (x := .tmp 23) rfl) ?_
  repeat (go_not_at_region 8; go_step)
  refine wp_region_lit ?_
  refine h_o H46 rfl (R_as H46 rfl rfl) (P1 4 rfl) fun _ H47 => ?_
  refine h_o H47 rfl (R_as H47 rfl rfl) (P2 5 4 rfl rfl) fun _ H48 => ?_
  refine h_end ?_
  repeat (go_not_at_region 999; go_step)
  refine H48.ret2 rfl rfl rfl ?_
  rw [hy]
  exact ⟨rfl, hL.tail⟩
 rw [if_neg (by decide)] at hy
 repeat (go_not_at_region 9; go_step)
 refine wp_cond_false (H46.ev (x := .tmp 23) rfl) ?_
 repeat (go_not_at_region 9; go_step)
 by_cases hf : (lowN S.L : Int) + 16 ≤ S.L.length + 1
 ·rw [if_pos hf] at hy
  refine wp_region_held_drew (S := fun w' => LV w0 (bk W.heap.size (itC x) 33 :: bk p (srC S (.slice A S.t.own.length c) bo ba) 60 :: mp bo (opE S.L) :: mp ba (anE S.L) :: L) w') (by kernel_rfl) hL.drew (fun hL' => ?_)
  replace hL := hL'
  clear hL'
  refine a_opZ 0 H46 rfl rfl (by kernel_rfl) (wn rfl) (fun w hL => R_mv H46 rfl rfl) (hL) rfl (P3 49 0 3 rfl rfl rfl) fun _ H47 => ?_
  refine a_opZ 5 H47 rfl rfl (by kernel_rfl) (wn rfl) (fun w hL => R_mv H47 rfl rfl) (hL) rfl (P4 54 49 0 3 rfl rfl rfl rfl) fun _ H48 => ?_
  refine a_opZ 1 H48 rfl rfl (by kernel_rfl) (wn rfl) (fun w hL => R_nc H48 rfl rfl) (hL) rfl (P4 50 54 0 3 rfl rfl rfl rfl) fun _ H49 => ?_
  refine a_opZ 6 H49 rfl rfl (by kernel_rfl) (wn rfl) (fun w hL => R_nc H49 rfl rfl) (hL) rfl (P4 55 50 0 3 rfl rfl rfl rfl) fun _ H50 => ?_
  refine a_opZ 2 H50 rfl rfl (by kernel_rfl) (wn rfl) (fun w hL => R_fa H50 rfl rfl fs_5) (hL) rfl (P4 51 55 0 3 rfl rfl rfl rfl) fun _ H51 => ?_
  refine a_opZ 7 H51 rfl rfl (by kernel_rfl) (wn rfl) (fun w hL => R_fa H51 rfl rfl fs_4) (hL) rfl (P4 56 51 0 3 rfl rfl rfl rfl) fun _ H52 => ?_
  refine a_opZ 3 H52 rfl rfl (by kernel_rfl) (wn rfl) (fun w hL => R_ld H52 rfl rfl (ld_int (hL.tail.cell 7))) (hL) rfl (P4 52 56 0 3 rfl rfl rfl rfl) fun _ H53 => ?_
  refine a_opZ 8 H53 rfl rfl (by kernel_rfl) (wn rfl) (fun w hL => R_ld H53 rfl rfl (ld_int (hL.tail.cell 6))) (hL) rfl (P4 57 52 0 3 rfl rfl rfl rfl) fun _ H54 => ?_
  refine a_opZ 4 H54 rfl rfl (by kernel_rfl) (wn rfl) (fun w hL => R_bin H54 rfl rfl rfl (B_add Tryz.underlying3 _ _ (by omega) (by omega))) (hL) rfl (P4 53 57 0 3 rfl rfl rfl rfl) fun _ H55 => ?_
  refine a_opZ 9 H55 rfl rfl (by kernel_rfl) (wn rfl) (fun w hL => R_bin H55 rfl rfl rfl (B_add Tryz.underlying3 _ _ (by omega) (by omega))) (hL) rfl (P4 58 53 0 3 rfl rfl rfl rfl) fun _ H56 => ?_
  refine a_opZ 10 H56 rfl rfl (by kernel_rfl) (wn rfl) (fun w hL => R_bin H56 rfl rfl rfl (B_to (y := true) (B_ge Tryz.underlying3 _ _) (decide_eq_true (by omega)))) (hL) rfl (P3 59 0 3 rfl rfl rfl) fun _ H57 => ?_
  refine a_opZ 11 H57 rfl rfl (by kernel_rfl) (wn rfl) (fun w hL => R_as H57 rfl rfl) (hL) rfl (P3 48 0 3 rfl rfl rfl) fun _ H58 => ?_
  refine wpAnyH_done (by kernel_rfl) ?_ _
  repeat (go_not_at_region 10; go_step)
  refine wp_cond_true (H58.ev (x := .tmp 48) rfl) ?_
  repeat (go_not_at_region 10; go_step)
  refine wp_region_lit ?_
  refine h_o H58 rfl (R_as H58 rfl rfl) (P1 4 rfl) fun _ H59 => ?_
  refine h_o H59 rfl (R_as H59 rfl rfl) (P2 5 4 rfl rfl) fun _ H60 => ?_
  refine h_end ?_
  repeat (go_not_at_region 999; go_step)
  refine H60.ret2 rfl rfl rfl ?_
  rw [hy]
  exact ⟨rfl, hL.tail⟩
 rw [if_neg hf] at hy
 refine wp_region_held_drew (S := fun w' => LV w0 (bk W.heap.size (itC x) 33 :: bk p (srC S (.slice A S.t.own.length c) bo ba) 60 :: mp bo (opE S.L) :: mp ba (anE S.L) :: L) w') (by kernel_rfl) hL.drew (fun hL' => ?_)
 replace hL := hL'
 clear hL'
 refine a_opZ 0 H46 rfl rfl (by kernel_rfl) (wn rfl) (fun w hL => R_mv H46 rfl rfl) (hL) rfl (P3 49 0 3 rfl rfl rfl) fun _ H47 => ?_
 refine a_opZ 5 H47 rfl rfl (by kernel_rfl) (wn rfl) (fun w hL => R_mv H47 rfl rfl) (hL) rfl (P4 54 49 0 3 rfl rfl rfl rfl) fun _ H48 => ?_
 refine a_opZ 1 H48 rfl rfl (by kernel_rfl) (wn rfl) (fun w hL => R_nc H48 rfl rfl) (hL) rfl (P4 50 54 0 3 rfl rfl rfl rfl) fun _ H49 => ?_
 refine a_opZ 6 H49 rfl rfl (by kernel_rfl) (wn rfl) (fun w hL => R_nc H49 rfl rfl) (hL) rfl (P4 55 50 0 3 rfl rfl rfl rfl) fun _ H50 => ?_
 refine a_opZ 2 H50 rfl rfl (by kernel_rfl) (wn rfl) (fun w hL => R_fa H50 rfl rfl fs_5) (hL) rfl (P4 51 55 0 3 rfl rfl rfl rfl) fun _ H51 => ?_
 refine a_opZ 7 H51 rfl rfl (by kernel_rfl) (wn rfl) (fun w hL => R_fa H51 rfl rfl fs_4) (hL) rfl (P4 56 51 0 3 rfl rfl rfl rfl) fun _ H52 => ?_
 refine a_opZ 3 H52 rfl rfl (by kernel_rfl) (wn rfl) (fun w hL => R_ld H52 rfl rfl (ld_int (hL.tail.cell 7))) (hL) rfl (P4 52 56 0 3 rfl rfl rfl rfl) fun _ H53 => ?_
 refine a_opZ 8 H53 rfl rfl (by kernel_rfl) (wn rfl) (fun w hL => R_ld H53 rfl rfl (ld_int (hL.tail.cell 6))) (hL) rfl (P4 57 52 0 3 rfl rfl rfl rfl) fun _ H54 => ?_
 refine a_opZ 4 H54 rfl rfl (by kernel_rfl) (wn rfl) (fun w hL => R_bin H54 rfl rfl rfl (B_add Tryz.underlying3 _ _ (by omega) (by omega))) (hL) rfl (P4 53 57 0 3 rfl rfl rfl rfl) fun _ H55 => ?_
 refine a_opZ 9 H55 rfl rfl (by kernel_rfl) (wn rfl) (fun w hL => R_bin H55 rfl rfl rfl (B_add Tryz.underlying3 _ _ (by omega) (by omega))) (hL) rfl (P4 58 53 0 3 rfl rfl rfl rfl) fun _ H56 => ?_
 refine a_opZ 10 H56 rfl rfl (by kernel_rfl) (wn rfl) (fun w hL => R_bin H56 rfl rfl rfl (B_to (y := false) (B_ge Tryz.underlying3 _ _) (decide_eq_false (by omega)))) (hL) rfl (P3 59 0 3 rfl rfl rfl) fun _ H57 => ?_
 refine a_opZ 11 H57 rfl rfl (by kernel_rfl) (wn rfl) (fun w hL => R_as H57 rfl rfl) (hL) rfl (P3 48 0 3 rfl rfl rfl) fun _ H58 => ?_
 refine wpAnyH_done (by kernel_rfl) ?_ _
 repeat (go_not_at_region 11; go_step)
 refine wp_cond_false (H58.ev (x := .tmp 48) rfl) ?_
 replace hL := hL.swap
 repeat (go_not_at_region 11; go_step)
 refine wp_region_lit ?_
 refine h_o H58 rfl (R_mv H58 rfl rfl) (P3 60 0 3 rfl rfl rfl) fun _ H59 => ?_
 refine h_o H59 rfl (R_nc H59 rfl rfl) (P4 61 60 0 3 rfl rfl rfl rfl) fun _ H60 => ?_
 refine h_o H60 rfl (R_fa H60 rfl rfl fs_5) (P4 62 60 0 3 rfl rfl rfl rfl) fun _ H61 => ?_
 refine h_o H61 rfl (R_ld H61 rfl rfl (ld_int (hL.cell 7))) (P4 63 60 0 3 rfl rfl rfl rfl) fun _ H62 => ?_
 refine h_o H62 rfl (R_bin H62 rfl rfl rfl (B_add Tryz.underlying3 _ _ (by omega) (by omega))) (P4 64 60 0 3 rfl rfl rfl rfl) fun _ H63 => ?_
 refine h_o H63 rfl (R_nc H63 rfl rfl) (P4 65 64 0 3 rfl rfl rfl rfl) fun _ H64 => ?_
 refine h_o H64 rfl (R_fa H64 rfl rfl fs_5) (P4 66 64 0 3 rfl rfl rfl rfl) fun _ H65 => ?_
 refine h_stS (bk p (srD S (.slice A S.t.own.length c) bo ba (lowN S.L : Nat) ((S.L.length : Int) + 1)) 60 :: bk W.heap.size (itC x) 33 :: mp bo (opE S.L) :: mp ba (anE S.L) :: L) H65 rfl (wn rfl) (R_st H65 rfl rfl rfl (st_i (i := 7) hL rfl)) (hL.put 7 _) fun _ w66 H66 hL => ?_
 refine h_end ?_
 repeat (go_not_at_region 12; go_step)
 replace hL := hL.swap
 refine wp_region_held_drew (S := fun w' => LV w0 (bk p (srD S (.slice A S.t.own.length c) bo ba (lowN S.L : Nat) ((S.L.length : Int) + 1)) 60 :: mp bo (opE S.L) :: mp ba (anE S.L) :: L) w') (by kernel_rfl) (hL.drew.tail) (fun _ => ?_)
 replace hL := hL.drew
 refine a_opZ 0 H66 rfl rfl (by kernel_rfl) (wn rfl) (fun w hL => R_mv H66 rfl rfl) (hL.tail) rfl (P3 67 0 3 rfl rfl rfl) fun _ H67 => ?_
 refine a_opZ 1 H67 rfl rfl (by kernel_rfl) (wn rfl) (fun w hL => R_nc H67 rfl rfl) (hL.tail) rfl (P3 68 0 3 rfl rfl rfl) fun _ H68 => ?_
 refine a_opZ 2 H68 rfl rfl (by kernel_rfl) (wn rfl) (fun w hL => R_fa H68 rfl rfl fs_0) (hL.tail) rfl (P3 69 0 3 rfl rfl rfl) fun _ H69 => ?_
 refine a_opZ 3 H69 rfl rfl (by kernel_rfl) (wn rfl) (fun w hL => R_ld H69 rfl rfl (ld_int (hL.cell 0))) (hL.tail) rfl (P3 70 0 3 rfl rfl rfl) fun _ H70 => ?_
 refine a_opZ 4 H70 rfl rfl (by kernel_rfl) (wn rfl) (fun w hL => R_mv H70 rfl rfl) (hL.tail) rfl (P4 71 70 0 3 rfl rfl rfl rfl) fun _ H71 => ?_
 refine a_opZ 5 H71 rfl rfl (by kernel_rfl) (wn rfl) (fun w hL => R_nc H71 rfl rfl) (hL.tail) rfl (P4 72 70 0 3 rfl rfl rfl rfl) fun _ H72 => ?_
 refine a_opZ 6 H72 rfl rfl (by kernel_rfl) (wn rfl) (fun w hL => R_fa H72 rfl rfl fs_5) (hL.tail) rfl (P4 73 70 0 3 rfl rfl rfl rfl) fun _ H73 => ?_
 refine a_opZ 7 H73 rfl rfl (by kernel_rfl) (wn rfl) (fun w hL => R_ld H73 rfl rfl (ld_int (hL.cell 7))) (hL.tail) rfl (P4 74 70 0 3 rfl rfl rfl rfl) fun _ H74 => ?_
 refine a_opZ 8 H74 rfl rfl (by kernel_rfl) (wn rfl) (fun w hL => R_fa H74 rfl rfl (fi_k (by decide))) (hL.tail) rfl (P5 75 74 70 0 3 rfl rfl rfl rfl rfl) fun _ H75 => ?_
 refine a_all1 9 (by kernel_rfl) ?_
 refine o_stS (bk W.heap.size (itC { x with src := S.src }) 33 :: bk p (srD S (.slice A S.t.own.length c) bo ba (lowN S.L : Nat) ((S.L.length : Int) + 1)) 60 :: mp bo (opE S.L) :: mp ba (anE S.L) :: L) 9 H75 rfl rfl (wn rfl) (R_st H75 rfl rfl rfl (st_i (i := 0) hL rfl)) (hL.put 0 _) fun a76 w76 H76 hL' => ⟨hL'.tail, ?_⟩
 replace hL := hL'
 refine a_opZ 10 H76 rfl rfl (by kernel_rfl) (wn rfl) (fun w hL => R_fa H76 rfl rfl (fi_k (by decide))) (hL.tail) rfl (P4 76 74 0 3 rfl rfl rfl rfl) fun _ H77 => ?_
 refine a_all1 11 (by kernel_rfl) ?_
 refine o_stS (bk W.heap.size (itC { x with src := S.src, seq := (S.L.length : Int) + 1 }) 33 :: bk p (srD S (.slice A S.t.own.length c) bo ba (lowN S.L : Nat) ((S.L.length : Int) + 1)) 60 :: mp bo (opE S.L) :: mp ba (anE S.L) :: L) 11 H77 rfl rfl (wn rfl) (R_st H77 rfl rfl rfl (st_i (i := 1) hL rfl)) (hL.put 1 _) fun a78 w78 H78 hL' => ⟨hL'.tail, ?_⟩
 replace hL := hL'
 refine a_opZ 12 H78 rfl rfl (by kernel_rfl) (wn rfl) (fun w hL => R_fa H78 rfl rfl (fi_k (by decide))) (hL.tail) rfl (P3 77 0 3 rfl rfl rfl) fun _ H79 => ?_
 refine a_all1 13 (by kernel_rfl) ?_
 refine o_stS (bk W.heap.size (itC { x with src := S.src, seq := (S.L.length : Int) + 1, low := 0 }) 33 :: bk p (srD S (.slice A S.t.own.length c) bo ba (lowN S.L : Nat) ((S.L.length : Int) + 1)) 60 :: mp bo (opE S.L) :: mp ba (anE S.L) :: L) 13 H79 rfl rfl (wn rfl) (R_st H79 rfl rfl rfl (st_i (i := 2) hL rfl)) (hL.put 2 _) fun a80 w80 H80 hL' => ⟨hL'.tail, ?_⟩
 replace hL := hL'
 refine wpAnyH_done (by kernel_rfl) ?_ _
 repeat (go_not_at_region 13; go_step)
 have hst : ∀ w, LV w0 (mp bo (opE S.L) :: bk W.heap.size (itC { x with src := S.src, seq := (S.L.length : Int) + 1, low := 0 }) 33 :: bk p (srD S (.slice A S.t.own.length c) bo ba (lowN S.L : Nat) ((S.L.length : Int) + 1)) 60 :: mp ba (anE S.L) :: L) w → ∃ W', (Instr.mapUpdate 58 (.map (some bo)) (.int .i64 ((S.L.length : Int) + 1)) (.agg (itC { x with src := S.src, seq := (S.L.length : Int) + 1, low := 0 }))).run Tryz.prog w = .ok () W' ∧ LV w0 (mp bo (putE (opE S.L) ((S.L.length : Int) + 1) (.agg (itC { x with src := S.src, seq := (S.L.length : Int) + 1, low := 0 }))) :: bk W.heap.size (itC { x with src := S.src, seq := (S.L.length : Int) + 1, low := 0 }) 33 :: bk p (srD S (.slice A S.t.own.length c) bo ba (lowN S.L : Nat) ((S.L.length : Int) + 1)) 60 :: mp ba (anE S.L) :: L) W' := fun w h => store_run (by omega) (by omega) _ Tryz.underlying58 (Nat.lt_of_le_of_lt ents_size (by omega)) h
 replace hL := hL.third
 refine wp_region_held_drew (S := fun w' => LV w0 (bk W.heap.size (itC { x with src := S.src, seq := (S.L.length : Int) + 1, low := 0 }) 33 :: bk p (srD S (.slice A S.t.own.length c) bo ba (lowN S.L : Nat) ((S.L.length : Int) + 1)) 60 :: mp ba (anE S.L) :: L) w') (by kernel_rfl) (hL.drew.tail) (fun _ => ?_)
 replace hL := hL.drew
 refine a_opZ 0 H80 rfl rfl (by kernel_rfl) (wn rfl) (fun w hL => R_mv H80 rfl rfl) (hL.tail) rfl (P3 78 0 3 rfl rfl rfl) fun _ H81 => ?_
 refine a_opZ 1 H81 rfl rfl (by kernel_rfl) (wn rfl) (fun w hL => R_nc H81 rfl rfl) (hL.tail) rfl (P3 79 0 3 rfl rfl rfl) fun _ H82 => ?_
 refine a_opZ 2 H82 rfl rfl (by kernel_rfl) (wn rfl) (fun w hL => R_fa H82 rfl rfl fs_2) (hL.tail) rfl (P3 80 0 3 rfl rfl rfl) fun _ H83 => ?_
 refine a_opZ 3 H83 rfl rfl (by kernel_rfl) (wn rfl) (fun w hL => R_ld H83 rfl rfl (ld_mi (hL.tail.cell 4))) (hL.tail) rfl (P3 81 0 3 rfl rfl rfl) fun _ H84 => ?_
 refine a_opZ 4 H84 rfl rfl (by kernel_rfl) (wn rfl) (fun w hL => R_fa H84 rfl rfl (fi_k (by decide))) (hL.tail) rfl (P4 82 81 0 3 rfl rfl rfl rfl) fun _ H85 => ?_
 refine a_opZ 5 H85 rfl rfl (by kernel_rfl) (wn rfl) (fun w hL => R_ld H85 rfl rfl (ld_int (hL.cell 1))) (hL.tail) rfl (P4 83 81 0 3 rfl rfl rfl rfl) fun _ H86 => ?_
 refine a_opZ 6 H86 rfl rfl (by kernel_rfl) (wn rfl) (fun w hL => R_ld H86 rfl rfl (ld_it hL.at_)) (hL.tail) rfl (P5 84 83 81 0 3 rfl rfl rfl rfl rfl) fun _ H87 => ?_
 refine a_all1 7 (by kernel_rfl) ?_
 obtain ⟨Wn, hrun, hLn⟩ := hst _ hL
 refine o_stS (mp bo (putE (opE S.L) ((S.L.length : Int) + 1) (.agg (itC { x with src := S.src, seq := (S.L.length : Int) + 1, low := 0 }))) :: bk W.heap.size (itC { x with src := S.src, seq := (S.L.length : Int) + 1, low := 0 }) 33 :: bk p (srD S (.slice A S.t.own.length c) bo ba (lowN S.L : Nat) ((S.L.length : Int) + 1)) 60 :: mp ba (anE S.L) :: L) 7 H87 rfl rfl (wn rfl) (R_mu H87 rfl rfl rfl rfl hrun) (hLn) fun a88 w88 H88 hL' => ⟨hL'.tail, ?_⟩
 replace hL := hL'
 refine wpAnyH_done (by kernel_rfl) ?_ _
 repeat (go_not_at_region 14; go_step)
 refine wp_region_lit ?_
 refine h_o H88 rfl (R_fa H88 rfl rfl (fi_k (by decide))) (P1 85 rfl) fun _ H89 => ?_
 refine h_o H89 rfl (R_ld H89 rfl rfl (ld_int (hL.tail.cell 1))) (P1 86 rfl) fun _ H90 => ?_
 refine h_o H90 rfl (R_as H90 rfl rfl) (P1 4 rfl) fun _ H91 => ?_
 refine h_o H91 rfl (R_as H91 rfl rfl) (P2 5 4 rfl rfl) fun _ H92 => ?_
 refine h_end ?_
 repeat (go_not_at_region 999; go_step)
 refine H92.ret2 rfl rfl rfl ?_
 rw [hy]
 refine ⟨rfl, ?_⟩
 have e1 := opE_push (L := S.L) (x := { x with src := S.src, seq := ((S.L.length + 1 : Nat) : Int), low := 0 })
 show LV w0 (bk p (srC { S with L := _ } _ bo ba) _ :: mp bo (opE (S.L ++ [_])) :: mp ba (anE (S.L ++ [_])) :: L) _
 rw [← e1, anE_push]
 have e2 : (S.L ++ [(({ x with src := S.src, seq := ((S.L.length + 1 : Nat) : Int), low := 0 } : PItem), 0)]).length = S.L.length + 1 := by simp
 unfold srC
 rw [lowN_push, e2]
 exact (hL.swap.tail).swap
end
end Go.Proofs.YthkeiclhllikjaaGreat
