/-
  Tables: whether one is, its copy, its shards, which of two is newer.
-/
import Derived.Test.YthkeiclhllikjaaGreatSvA
import Derived.Test.YthkeiclhllikjaaGreatMsgVar
import Derived.Deep.Cut
import Derived.Test.YthkeiclhllikjaaGreatMsgEq
set_option linter.unusedSimpArgs false
set_option linter.unusedVariables false
namespace Go.Proofs.YthkeiclhllikjaaGreat
open Go.RowKit
section
variable {P : Program} {a : Act} {w w' : World} {n : Nat} {m : List (Nat × Value)} {o : Oper} {v : Value}
theorem R_callV1 {f : FuncId} {ts : Array TypeId} {x0 x1 : Operand} {cap : Array Value} {v1 : Value} (H : Fr a n m) (ho : o.op = .call { callee := .value x0, args := #[x1], argTypes := ts }) (h0 : ev1 m x0 = some (.func (.func f) #[] cap)) (h1 : ev1 m x1 = some v1) (hf : ∀ w : World, (callFunc f (#[v1] ++ cap)).run P w = .ok (.enter f (#[v1] ++ cap)) w) : (execOp a.eval o).run P w = .ok (.enter f (#[v1] ++ cap)) w := by
 have e0 := H.ev h0
 have e1 := H.ev h1
 unfold execOp
 rw [ho]
 generalize a.eval = ρ at *
 simp [resolve, invoke, go_sem, e0, e1, hf]
theorem R_mf {f : FuncId} {x : Operand} {vx : Value} (H : Fr a n m) (ho : o.op = .makeFunc (.func f) #[] #[x]) (hx : ev1 m x = some vx) : (execOp a.eval o).run P w = .ok (.value (.func (.func f) #[] #[vx])) w := by
 have e1 := H.ev hx
 unfold execOp
 rw [ho]
 generalize a.eval = ρ at *
 simp only [List.map_toArray, List.map_cons, List.map_nil, e1]
 exact fr_v rfl
end
theorem R_nc {P : Program} {a : Act} {w : World} {n : Nat} {m : List (Nat × Value)} {o : Oper} {x : Operand} {p : Addr} (H : Fr a n m) (ho : o.op = .nilCheck x) (hx : ev1 m x = some (.pointer (some p))) : (execOp a.eval o).run P w = .ok (.value (.pointer (some p))) w := by
 have e1 := H.ev hx
 unfold execOp
 rw [ho]
 simp only [e1]
 rfl
theorem B_ne {t : TypeId} (ht : Tryz.prog.underlying t = some (.int .i64)) {X Y : Operand} {w : World} (x y : Int) : ((do eqGuard .neq t X Y (.int .i64 x) (.int .i64 y); binOp .neq t (.int .i64 x) (.int .i64 y)) : Sem Value).run Tryz.prog w = .ok (.bool (x != y)) w := by simp [go_sem, ht]
theorem B_eq {t : TypeId} (ht : Tryz.prog.underlying t = some (.int .i64)) {X Y : Operand} {w : World} (x y : Int) : ((do eqGuard .eql t X Y (.int .i64 x) (.int .i64 y); binOp .eql t (.int .i64 x) (.int .i64 y)) : Sem Value).run Tryz.prog w = .ok (.bool (x == y)) w := by simp [go_sem, ht]
theorem B_gt {t : TypeId} (ht : Tryz.prog.underlying t = some (.int .i64)) {X Y : Operand} {w : World} (x y : Int) : ((do eqGuard .gtr t X Y (.int .i64 x) (.int .i64 y); binOp .gtr t (.int .i64 x) (.int .i64 y)) : Sem Value).run Tryz.prog w = .ok (.bool (decide (x > y))) w := by simp [go_sem, ht]
theorem B_ge {t : TypeId} (ht : Tryz.prog.underlying t = some (.int .i64)) {X Y : Operand} {w : World} (x y : Int) : ((do eqGuard .geq t X Y (.int .i64 x) (.int .i64 y); binOp .geq t (.int .i64 x) (.int .i64 y)) : Sem Value).run Tryz.prog w = .ok (.bool (decide (x ≥ y))) w := by simp [go_sem, ht]
theorem B_le {t : TypeId} (ht : Tryz.prog.underlying t = some (.int .i64)) {X Y : Operand} {w : World} (x y : Int) : ((do eqGuard .leq t X Y (.int .i64 x) (.int .i64 y); binOp .leq t (.int .i64 x) (.int .i64 y)) : Sem Value).run Tryz.prog w = .ok (.bool (decide (x ≤ y))) w := by simp [go_sem, ht]
theorem B_lt {t : TypeId} (ht : Tryz.prog.underlying t = some (.int .i64)) {X Y : Operand} {w : World} (x y : Int) : ((do eqGuard .lss t X Y (.int .i64 x) (.int .i64 y); binOp .lss t (.int .i64 x) (.int .i64 y)) : Sem Value).run Tryz.prog w = .ok (.bool (decide (x < y))) w := by simp [go_sem, ht]
theorem B_add {t : TypeId} (ht : Tryz.prog.underlying t = some (.int .i64)) {X Y : Operand} {w : World} (x y : Int) (h0 : -9223372036854775808 ≤ x + y) (h1 : x + y < 9223372036854775808) : ((do eqGuard .add t X Y (.int .i64 x) (.int .i64 y); binOp .add t (.int .i64 x) (.int .i64 y)) : Sem Value).run Tryz.prog w = .ok (.int .i64 (x + y)) w := by
 have e : IntKind.i64.wrap (x + y) = x + y := i64_id h0 h1
 simp [go_sem, ht, e]
theorem B_to {s : Sem Value} {w w' : World} {x y : Bool} (h : s.run Tryz.prog w = .ok (.bool x) w') (e : x = y) : s.run Tryz.prog w = .ok (.bool y) w' := e ▸ h
theorem ix_at {w : World} {ad : Addr} {n c j : Nat} (h : j < n) : (Instr.indexAt 26 (.slice (some ad) n c) (.int .i64 (j : Nat))).run Tryz.prog w = .ok (.pointer (some (ad.add j))) w := by
 simp [go_sem, h]
theorem ld_sl {w : World} {a : Addr} {p : Option Addr} {l c : Nat} (h : w.cell? a = some (.slice p l c)) : (Instr.loadAt 26 (.pointer (some a))).run Tryz.prog w = .ok (.slice p l c) w := by simp [go_sem, h]
theorem st_sl {w0 w : World} {L : List Blk} {g i : Nat} {A : Array Value} {T : TypeId} {p q : Option Addr} {l c l2 c2 : Nat} (h : Live w0 ((g, A, T) :: L) w) (hc : A[i]? = some (.slice q l2 c2)) : (Instr.storeAt 26 (.pointer (some ⟨g, i, none⟩)) (.slice p l c)).run Tryz.prog w = .ok () (w.setCell ⟨g, i, none⟩ (.slice p l c)) := by
 have hc2 := (h.cell i).trans hc
 have hz := h.thaw i
 simp [go_sem, hc2, hz]
abbrev tbC (t : PTab) (v : Value) : Array Value := #[.int .i64 t.ep, .int .i64 t.nd, v]
theorem infoTb : (Tryz.prog.info? 28).map (·.size) = some 3 := by kernel_rfl
theorem ft_0 (g k : Nat) (w : World) : (Instr.fieldAt 28 (.pointer (some ⟨g, k, none⟩)) 0).run Tryz.prog w = .ok (.pointer (some ⟨g, k, none⟩)) w := by simp [go_sem]
theorem ft_1 (g k : Nat) (w : World) : (Instr.fieldAt 28 (.pointer (some ⟨g, k, none⟩)) 1).run Tryz.prog w = .ok (.pointer (some ⟨g, k + 1, none⟩)) w := by simp [go_sem]
theorem ft_2 (g k : Nat) (w : World) : (Instr.fieldAt 28 (.pointer (some ⟨g, k, none⟩)) 2).run Tryz.prog w = .ok (.pointer (some ⟨g, k + 2, none⟩)) w := by simp [go_sem]
theorem bx_tb {w : World} {t : PTab} {p : Option Addr} {l c : Nat} : (Instr.box 28 (.agg (tbC t (.slice p l c)))).run Tryz.prog w = .ok (.pointer (some ⟨w.heap.size, 0, none⟩)) (w.alloc (.cells (tbC t (.slice p l c)) 28)) := by
 simp [go_sem]
theorem al_tb {w : World} : (Instr.alloc 28 true (.tuple #[])).run Tryz.prog w = .ok (.pointer (some ⟨w.heap.size, 0, none⟩)) (w.alloc (.cells (tbC ⟨0, 0, []⟩ (.slice none 0 0)) 28)) := by
 simp [go_sem]
theorem ld_tb {w : World} {g : Nat} {t : PTab} {p : Option Addr} {l c : Nat} (h : w.heap[g]? = some (.cells (tbC t (.slice p l c)) 28 (0, 0))) : (Instr.loadAt 28 (.pointer (some ⟨g, 0, none⟩))).run Tryz.prog w = .ok (.agg (tbC t (.slice p l c))) w := by
 simp only [Instr.loadAt, Instr.sureAddr, Sem.run_bind, Sem.run_pure, Result.andThen_ok, run_loadVar_row w g 28 28 (tbC t (.slice p l c)) (0, 0) _ h Tryz.underlying28 rfl infoTb]
theorem st_tb {w : World} {g : Nat} {t u : PTab} {p q : Option Addr} {l c k e : Nat} (h : w.heap[g]? = some (.cells (tbC t (.slice p l c)) 28 (0, 0))) : (Instr.storeAt 28 (.pointer (some ⟨g, 0, none⟩)) (.agg (tbC u (.slice q k e)))).run Tryz.prog w = .ok () (w.setRow g (tbC u (.slice q k e))) := by
 simp only [Instr.storeAt, Instr.sureAddr, Sem.run_bind, Sem.run_pure, Result.andThen_ok, run_storeVar_row w g 28 28 _ (tbC u (.slice q k e)) h infoTb rfl (by simp only [List.all_toArray, List.all_cons, List.all_nil, Bool.and_true]; rfl)]
def badN (nd x : Int) : Bool := decide (x < 0) || decide (x ≥ nd)
def rightT (t : PTab) : Bool := decide (t.ep ≥ 1) && decide (t.nd ≥ 1) && decide (t.nd ≤ 4) && decide ((t.own.length : Int) ≥ 1) && decide ((t.own.length : Int) ≤ 8) && !(t.own.any (badN t.nd))
section
variable {w0 W : World} {L : List Blk} {l : List Int} {v : Value} {g k : Nat} {nd : Int} {t u : PTab}
theorem bad_any (hc : W.cell? ⟨g, 1, none⟩ = some (.int .i64 nd)) (x : Int) : Calls Tryz.prog 51 #[.int .i64 x, .pointer (some ⟨g, 0, none⟩)] W fun e W' => e = .returned (.bool (badN nd x)) ∧ W' = W := by
 unfold badN
 by_cases h : x < 0
 ·rw [decide_eq_true h, Bool.true_or]
  go_enter Tryz.func51, Tryz.ntmps51
  refine wp_fr (n := 12) (m := [(0, _), (1, _)]) ⟨rfl, rfl, by intro p hp; simp only [List.mem_cons, List.not_mem_nil, or_false] at hp; rcases hp with rfl | rfl <;> rfl⟩ fun a0 H0 => ?_
  repeat (go_not_at_region 0; go_step)
  refine wp_region_lit ?_
  refine h_o H0 rfl (R_as H0 rfl rfl) (P2 0 1 rfl rfl) fun _ H1 => ?_
  refine h_end ?_
  repeat (go_not_at_region 1; go_step)
  refine wp_region_lit ?_
  refine h_o H1 rfl (R_mv H1 rfl rfl) (P3 4 0 1 rfl rfl rfl) fun _ H2 => ?_
  refine h_o H2 rfl (R_bin H2 rfl rfl rfl (B_to (y := true) (B_lt Tryz.underlying3 _ _) (decide_eq_true h))) (P3 5 0 1 rfl rfl rfl) fun _ H3 => ?_
  refine h_o H3 rfl (R_mv H3 rfl rfl) (P3 6 0 1 rfl rfl rfl) fun _ H4 => ?_
  refine h_skip H4 rfl (H4.wf rfl rfl rfl) rfl (P3 7 6 1 rfl rfl rfl) fun _ H5 => ?_
  refine h_skip H5 rfl (H5.wf rfl rfl rfl) rfl (P3 8 7 6 rfl rfl rfl) fun _ H6 => ?_
  refine h_skip H6 rfl (H6.wf rfl rfl rfl) rfl (P3 9 7 6 rfl rfl rfl) fun _ H7 => ?_
  refine h_skip H7 rfl (H7.wf rfl rfl rfl) rfl (P2 10 6 rfl rfl) fun _ H8 => ?_
  refine h_o H8 rfl (R_pick H8 rfl rfl rfl) (P1 11 rfl) fun _ H9 => ?_
  refine h_o H9 rfl (R_as H9 rfl rfl) (P1 3 rfl) fun _ H10 => ?_
  refine h_end ?_
  repeat (go_not_at_region 999; go_step)
  exact H10.ret1 rfl rfl ⟨rfl, rfl⟩
 ·rw [decide_eq_false h, Bool.false_or]
  go_enter Tryz.func51, Tryz.ntmps51
  refine wp_fr (n := 12) (m := [(0, _), (1, _)]) ⟨rfl, rfl, by intro p hp; simp only [List.mem_cons, List.not_mem_nil, or_false] at hp; rcases hp with rfl | rfl <;> rfl⟩ fun a0 H0 => ?_
  repeat (go_not_at_region 0; go_step)
  refine wp_region_lit ?_
  refine h_o H0 rfl (R_as H0 rfl rfl) (P2 0 1 rfl rfl) fun _ H1 => ?_
  refine h_end ?_
  repeat (go_not_at_region 1; go_step)
  refine wp_region_lit ?_
  refine h_o H1 rfl (R_mv H1 rfl rfl) (P3 4 0 1 rfl rfl rfl) fun _ H2 => ?_
  refine h_o H2 rfl (R_bin H2 rfl rfl rfl (B_to (y := false) (B_lt Tryz.underlying3 _ _) (decide_eq_false h))) (P3 5 0 1 rfl rfl rfl) fun _ H3 => ?_
  refine h_o H3 rfl (R_mv H3 rfl rfl) (P3 6 0 1 rfl rfl rfl) fun _ H4 => ?_
  refine h_op H4 rfl (H4.wt rfl rfl rfl) (R_mv H4 rfl rfl) rfl (P3 7 6 1 rfl rfl rfl) fun _ H5 => ?_
  refine h_op H5 rfl (H5.wt rfl rfl rfl) (R_fa H5 rfl rfl (ft_1 _ _ _)) rfl (P3 8 7 6 rfl rfl rfl) fun _ H6 => ?_
  refine h_op H6 rfl (H6.wt rfl rfl rfl) (R_ld H6 rfl rfl (ld_int hc)) rfl (P3 9 7 6 rfl rfl rfl) fun _ H7 => ?_
  refine h_op H7 rfl (H7.wt rfl rfl rfl) (R_bin H7 rfl rfl rfl (B_ge Tryz.underlying3 _ _)) rfl (P2 10 6 rfl rfl) fun _ H8 => ?_
  refine h_o H8 rfl (R_pick H8 rfl rfl rfl) (P1 11 rfl) fun _ H9 => ?_
  refine h_o H9 rfl (R_as H9 rfl rfl) (P1 3 rfl) fun _ H10 => ?_
  refine h_end ?_
  repeat (go_not_at_region 999; go_step)
  exact H10.ret1 rfl rfl ⟨rfl, rfl⟩
theorem any_more {f : Int → Bool} {j : Nat} (hj : j < l.length) (h : (l.take j).any f = false) (hx : f (l.getD j 0) = false) : (l.take (j + 1)).any f = false := by
 rw [List.take_add_one, List.any_append, h, List.getElem?_eq_getElem hj]
 rw [List.getD_eq_getElem?_getD, List.getElem?_eq_getElem hj] at hx
 simpa using hx
theorem any_hit {f : Int → Bool} {j : Nat} (hj : j < l.length) (hx : f (l.getD j 0) = true) : l.any f = true := by
 rw [List.getD_eq_getElem?_getD, List.getElem?_eq_getElem hj] at hx
 exact List.any_eq_true.2 ⟨l[j], List.getElem_mem hj, hx⟩
set_option maxRecDepth 100000 in
theorem index_any (hR : Rd W v l) (hl : l.length ≤ 1000000000000) (hc : W.cell? ⟨g, 1, none⟩ = some (.int .i64 nd)) : Calls Tryz.prog 74 #[v, .func (.func 51) #[] #[.pointer (some ⟨g, 0, none⟩)]] W fun e W' => (∃ r : Int, e = .returned (.int .i64 r) ∧ decide (r ≥ 0) = l.any (badN nd)) ∧ W' = W := by
 obtain ⟨A, c, rfl⟩ := hR.slc
 go_enter Tryz.func74, Tryz.ntmps74
 refine wp_fr (n := 19) (m := [(0, _), (1, _)]) ⟨rfl, rfl, by intro p hp; simp only [List.mem_cons, List.not_mem_nil, or_false] at hp; rcases hp with rfl | rfl <;> rfl⟩ fun a0 H0 => ?_
 repeat (go_not_at_region 0; go_step)
 refine wp_region_lit ?_
 refine h_o H0 rfl (R_as H0 rfl rfl) (P2 0 1 rfl rfl) fun _ H1 => ?_
 refine h_end ?_
 repeat (go_not_at_region 1; go_step)
 refine wp_region_lit ?_
 refine h_o H1 rfl (R_mv H1 rfl rfl) (P3 6 0 1 rfl rfl rfl) fun _ H2 => ?_
 refine h_o H2 rfl (R_lenS H2 rfl rfl Tryz.underlying26) (P3 7 0 1 rfl rfl rfl) fun _ H3 => ?_
 refine h_o H3 rfl (R_mv H3 rfl rfl) (P4 8 7 0 1 rfl rfl rfl rfl) fun _ H4 => ?_
 refine h_end ?_
 repeat (go_not_at_region 2; go_step)
 obtain ⟨I, hI⟩ : ∃ I : Nat → Act → World → Prop, ∀ n a' w', I n a' w' ↔ ∃ j : Nat, n = l.length - j ∧ j ≤ l.length ∧ (l.take j).any (badN nd) = false ∧ Fr a' 19 [(0, .slice A l.length c), (1, .func (.func 51) #[] #[.pointer (some ⟨g, 0, none⟩)]), (7, .int .i64 (l.length : Nat)), (8, .int .i64 (j : Nat))] ∧ w' = W := ⟨_, fun _ _ _ => Iff.rfl⟩
 have HI := Lib.hid hI
 clear hI
 refine wp_loop_ghost I l.length ((HI.out _ _ _).2 ⟨0, rfl, Nat.zero_le _, rfl, H4.pick _ (P4 0 1 7 8 rfl rfl rfl rfl), rfl⟩) ?_
 intro n a1 w1 hi
 obtain ⟨j, rfl, hj, hno, H0, rfl⟩ := (HI.out _ _ _).1 hi
 clear hi
 by_cases hjl : j < l.length
 ·repeat (go_not_at_region 2; go_step)
  refine wp_region_lit ?_
  refine h_o H0 rfl (R_bin H0 rfl rfl rfl (B_to (y := true) (B_lt Tryz.underlying3 _ _) (decide_eq_true (by omega)))) (P5 9 0 1 7 8 rfl rfl rfl rfl rfl) fun _ H1 => ?_
  refine h_end ?_
  repeat (go_not_at_region 3; go_step)
  refine wp_cond_true (H1.ev (x := .tmp 9) rfl) ?_
  obtain ⟨ad, rfl, hcell⟩ := hR.elem hjl
  repeat (go_not_at_region 3; go_step)
  refine wp_region_lit ?_
  refine h_o H1 rfl (R_mv H1 rfl rfl) (P5 10 0 1 7 8 rfl rfl rfl rfl rfl) fun _ H2 => ?_
  refine h_o H2 rfl (R_as H2 rfl rfl) (P5 5 0 1 7 8 rfl rfl rfl rfl rfl) fun _ H3 => ?_
  refine h_end ?_
  repeat (go_not_at_region 4; go_step)
  refine wp_region_lit ?_
  refine h_o H3 rfl (R_mv H3 rfl rfl) (P6 11 5 0 1 7 8 rfl rfl rfl rfl rfl rfl) fun _ H4 => ?_
  refine h_o H4 rfl (R_mv H4 rfl rfl) (P7 12 11 5 0 1 7 8 rfl rfl rfl rfl rfl rfl rfl) fun _ H5 => ?_
  refine h_o H5 rfl (R_mv H5 rfl rfl) (P8 13 12 11 5 0 1 7 8 rfl rfl rfl rfl rfl rfl rfl rfl) fun _ H6 => ?_
  refine h_o H6 rfl (R_ixa H6 rfl rfl rfl (ix_at hjl)) (P7 14 11 5 0 1 7 8 rfl rfl rfl rfl rfl rfl rfl) fun _ H7 => ?_
  refine h_o H7 rfl (R_ld H7 rfl rfl (ld_int hcell)) (P7 15 11 5 0 1 7 8 rfl rfl rfl rfl rfl rfl rfl) fun _ H8 => ?_
  refine h_call H8 rfl (wn rfl) (R_callV1 H8 rfl rfl rfl (fun w => by simp [go_sem])) rfl ?_
  refine (bad_any hc _).mono ?_
  rintro e wx ⟨rfl, rfl⟩
  refine ⟨_, rfl, fun a9 HH => ?_⟩
  have H9 := HH _ (P6 16 5 0 1 7 8 rfl rfl rfl rfl rfl rfl)
  refine h_end ?_
  cases hb : badN nd (l.getD j 0)
  ·rw [hb] at H9
   repeat (go_not_at_region 6; go_step)
   refine wp_cond_false (H9.ev (x := .tmp 16) rfl) ?_
   repeat (go_not_at_region 6; go_step)
   refine wp_region_lit ?_
   refine h_o H9 rfl (R_bin H9 rfl rfl rfl (B_add Tryz.underlying3 _ _ (by omega) (by omega))) (P5 18 0 1 7 8 rfl rfl rfl rfl rfl) fun _ H10 => ?_
   refine h_o H10 rfl (R_mv H10 rfl rfl) (P4 8 0 1 7 rfl rfl rfl rfl) fun _ H11 => ?_
   refine h_end ?_
   repeat (go_not_at_region 999; go_step)
   refine ⟨l.length - (j + 1), by omega, (HI.out _ _ _).2 ⟨j + 1, rfl, hjl, any_more hjl hno hb, ?_, rfl⟩⟩
   exact H11.pick _ (P4 0 1 7 8 rfl rfl rfl rfl)
  ·rw [hb] at H9
   repeat (go_not_at_region 5; go_step)
   refine wp_cond_true (H9.ev (x := .tmp 16) rfl) ?_
   repeat (go_not_at_region 5; go_step)
   refine wp_region_lit ?_
   refine h_o H9 rfl (R_mv H9 rfl rfl) (P1 17 rfl) fun _ H10 => ?_
   refine h_o H10 rfl (R_as H10 rfl rfl) (P1 4 rfl) fun _ H11 => ?_
   refine h_end ?_
   repeat (go_not_at_region 999; go_step)
   refine H11.ret1 rfl rfl ⟨⟨_, rfl, ?_⟩, rfl⟩
   rw [any_hit hjl hb]
   exact decide_eq_true (by omega)
 ·obtain rfl : j = l.length := by omega
  repeat (go_not_at_region 2; go_step)
  refine wp_region_lit ?_
  refine h_o H0 rfl (R_bin H0 rfl rfl rfl (B_to (y := false) (B_lt Tryz.underlying3 _ _) (decide_eq_false (by omega)))) (P5 9 0 1 7 8 rfl rfl rfl rfl rfl) fun _ H1 => ?_
  refine h_end ?_
  repeat (go_not_at_region 7; go_step)
  refine wp_cond_false (H1.ev (x := .tmp 9) rfl) ?_
  repeat (go_not_at_region 7; go_step)
  refine wp_region_lit ?_
  refine h_o H1 rfl (R_as H1 rfl rfl) (P1 4 rfl) fun _ H2 => ?_
  refine h_end ?_
  repeat (go_not_at_region 999; go_step)
  refine H2.ret1 rfl rfl ⟨⟨_, rfl, ?_⟩, rfl⟩
  rw [List.take_of_length_le (Nat.le_refl _)] at hno
  rw [hno]
  rfl
set_option maxRecDepth 100000 in
theorem contains_any (hR : Rd W v l) (hl : l.length ≤ 1000000000000) (hc : W.cell? ⟨g, 1, none⟩ = some (.int .i64 nd)) : Calls Tryz.prog 50 #[v, .func (.func 51) #[] #[.pointer (some ⟨g, 0, none⟩)]] W fun e W' => e = .returned (.bool (l.any (badN nd))) ∧ W' = W := by
 go_enter Tryz.func50, Tryz.ntmps50
 refine wp_fr (n := 9) (m := [(0, _), (1, _)]) ⟨rfl, rfl, by intro p hp; simp only [List.mem_cons, List.not_mem_nil, or_false] at hp; rcases hp with rfl | rfl <;> rfl⟩ fun a0 H0 => ?_
 repeat (go_not_at_region 0; go_step)
 refine wp_region_lit ?_
 refine h_o H0 rfl (R_as H0 rfl rfl) (P2 0 1 rfl rfl) fun _ H1 => ?_
 refine h_end ?_
 repeat (go_not_at_region 1; go_step)
 refine wp_region_lit ?_
 refine h_o H1 rfl (R_mv H1 rfl rfl) (P2 5 1 rfl rfl) fun _ H2 => ?_
 refine h_o H2 rfl (R_mv H2 rfl rfl) (P2 6 5 rfl rfl) fun _ H3 => ?_
 refine h_call H3 rfl (wn rfl) (R_call2 H3 rfl rfl rfl (fun w => by simp [go_sem])) rfl ?_
 refine (index_any hR hl hc).mono ?_
 rintro e wx ⟨⟨r, rfl, hr⟩, rfl⟩
 refine ⟨_, rfl, fun a4 HH => ?_⟩
 have H4 := HH _ (P1 7 rfl)
 refine h_o H4 rfl (R_bin H4 rfl rfl rfl (B_to (B_ge Tryz.underlying3 _ _) hr)) (P1 8 rfl) fun _ H5 => ?_
 refine h_o H5 rfl (R_as H5 rfl rfl) (P1 4 rfl) fun _ H6 => ?_
 refine h_end ?_
 repeat (go_not_at_region 999; go_step)
 exact H6.ret1 rfl rfl ⟨rfl, rfl⟩
set_option maxRecDepth 100000 in
set_option maxHeartbeats 1000000 in
theorem right_any (hR : Rd W v t.own) (hl : t.own.length ≤ 1000000000000) : Calls Tryz.prog 31 #[.agg (tbC t v)] W fun e W' => e = .returned (.bool (rightT t)) ∧ Below W.heap.size W W' := by
 obtain ⟨A, c, rfl⟩ := hR.slc
 have K1 : ∀ {w}, Below W.heap.size W w → Rd w (.slice A t.own.length c) t.own := fun hb => hR.kept fun k hk => hb.block k hk
 have hL := (Live.init W).alloc (tbC t (.slice A t.own.length c)) 28
 go_enter Tryz.func31, Tryz.ntmps31
 refine wp_fr (n := 35) (m := [(0, _)]) ⟨rfl, rfl, by intro p hp; simp only [List.mem_cons, List.not_mem_nil, or_false] at hp; rcases hp with rfl <;> rfl⟩ fun a0 H0 => ?_
 repeat (go_not_at_region 0; go_step)
 refine wp_region_lit ?_
 refine h_o H0 rfl (R_box H0 rfl rfl bx_tb) (P1 1 rfl) fun _ H1 => ?_
 refine h_o H1 rfl (R_as H1 rfl rfl) (P1 1 rfl) fun _ H2 => ?_
 refine h_end ?_
 repeat (go_not_at_region 1; go_step)
 refine wp_region_lit ?_
 refine h_o H2 rfl (R_fa H2 rfl rfl (ft_0 _ _ _)) (P2 3 1 rfl rfl) fun _ H3 => ?_
 refine h_o H3 rfl (R_ld H3 rfl rfl (ld_int (hL.cell 0))) (P2 4 1 rfl rfl) fun _ H4 => ?_
 refine h_o H4 rfl (R_bin H4 rfl rfl rfl (B_ge Tryz.underlying3 _ _)) (P2 5 1 rfl rfl) fun _ H5 => ?_
 refine h_o H5 rfl (R_mv H5 rfl rfl) (P2 6 1 rfl rfl) fun _ H6 => ?_
 replace H6 := H6.pick [(1, .pointer (some ⟨W.heap.size, 0, none⟩)), (6, .bool (decide (t.ep ≥ 1)))] (P2 1 6 rfl rfl)
 generalize ht0 : (decide (t.ep ≥ 1)) = t0 at H6
 refine wpList_cut [_, _, _, _, _] (R := fun a' w' => Fr a' 35 [(1, .pointer (some ⟨W.heap.size, 0, none⟩)), (11, .bool (t0 && (decide (t.nd ≥ 1))))] ∧ Live W [(W.heap.size, tbC t (.slice A t.own.length c), 28)] w') ?_ ?_
 ·cases t0
  ·refine h_skip H6 rfl (H6.wf rfl rfl rfl) rfl (P3 7 1 6 rfl rfl rfl) fun a7 H7 => ?_
   refine h_skip H7 rfl (H7.wf rfl rfl rfl) rfl (P3 8 1 6 rfl rfl rfl) fun _ H8 => ?_
   refine h_skip H8 rfl (H8.wf rfl rfl rfl) rfl (P3 9 1 6 rfl rfl rfl) fun _ H9 => ?_
   refine h_o H9 rfl (R_pick H9 rfl rfl rfl) (P2 10 1 rfl rfl) fun _ H10 => ?_
   refine h_o H10 rfl (R_mv H10 rfl rfl) (P2 11 1 rfl rfl) fun _ H11 => ?_
   exact h_end ⟨H11.pick _ (P2 1 11 rfl rfl), hL⟩
  ·refine h_op H6 rfl (H6.wt rfl rfl rfl) (R_fa H6 rfl rfl (ft_1 _ _ _)) rfl (P3 7 1 6 rfl rfl rfl) fun a7 H7 => ?_
   refine h_op H7 rfl (H7.wt rfl rfl rfl) (R_ld H7 rfl rfl (ld_int (hL.cell 1))) rfl (P3 8 1 6 rfl rfl rfl) fun _ H8 => ?_
   refine h_op H8 rfl (H8.wt rfl rfl rfl) (R_bin H8 rfl rfl rfl (B_ge Tryz.underlying3 _ _)) rfl (P3 9 1 6 rfl rfl rfl) fun _ H9 => ?_
   refine h_o H9 rfl (R_pick H9 rfl rfl rfl) (P2 10 1 rfl rfl) fun _ H10 => ?_
   refine h_o H10 rfl (R_mv H10 rfl rfl) (P2 11 1 rfl rfl) fun _ H11 => ?_
   exact h_end ⟨H11.pick _ (P2 1 11 rfl rfl), hL⟩
 clear hL H6
 rintro a12 wx ⟨H12, hL⟩
 generalize ht1 : (t0 && (decide (t.nd ≥ 1))) = t1 at H12
 refine wpList_cut [_, _, _, _, _] (R := fun a' w' => Fr a' 35 [(1, .pointer (some ⟨W.heap.size, 0, none⟩)), (16, .bool (t1 && (decide (t.nd ≤ 4))))] ∧ Live W [(W.heap.size, tbC t (.slice A t.own.length c), 28)] w') ?_ ?_
 ·cases t1
  ·refine h_skip H12 rfl (H12.wf rfl rfl rfl) rfl (P3 12 1 11 rfl rfl rfl) fun a13 H13 => ?_
   refine h_skip H13 rfl (H13.wf rfl rfl rfl) rfl (P3 13 1 11 rfl rfl rfl) fun _ H14 => ?_
   refine h_skip H14 rfl (H14.wf rfl rfl rfl) rfl (P3 14 1 11 rfl rfl rfl) fun _ H15 => ?_
   refine h_o H15 rfl (R_pick H15 rfl rfl rfl) (P2 15 1 rfl rfl) fun _ H16 => ?_
   refine h_o H16 rfl (R_mv H16 rfl rfl) (P2 16 1 rfl rfl) fun _ H17 => ?_
   exact h_end ⟨H17.pick _ (P2 1 16 rfl rfl), hL⟩
  ·refine h_op H12 rfl (H12.wt rfl rfl rfl) (R_fa H12 rfl rfl (ft_1 _ _ _)) rfl (P3 12 1 11 rfl rfl rfl) fun a13 H13 => ?_
   refine h_op H13 rfl (H13.wt rfl rfl rfl) (R_ld H13 rfl rfl (ld_int (hL.cell 1))) rfl (P3 13 1 11 rfl rfl rfl) fun _ H14 => ?_
   refine h_op H14 rfl (H14.wt rfl rfl rfl) (R_bin H14 rfl rfl rfl (B_le Tryz.underlying3 _ _)) rfl (P3 14 1 11 rfl rfl rfl) fun _ H15 => ?_
   refine h_o H15 rfl (R_pick H15 rfl rfl rfl) (P2 15 1 rfl rfl) fun _ H16 => ?_
   refine h_o H16 rfl (R_mv H16 rfl rfl) (P2 16 1 rfl rfl) fun _ H17 => ?_
   exact h_end ⟨H17.pick _ (P2 1 16 rfl rfl), hL⟩
 clear hL H12
 rintro a18 wx ⟨H18, hL⟩
 generalize ht2 : (t1 && (decide (t.nd ≤ 4))) = t2 at H18
 refine wpList_cut [_, _, _, _, _, _] (R := fun a' w' => Fr a' 35 [(1, .pointer (some ⟨W.heap.size, 0, none⟩)), (22, .bool (t2 && (decide ((t.own.length : Int) ≥ 1))))] ∧ Live W [(W.heap.size, tbC t (.slice A t.own.length c), 28)] w') ?_ ?_
 ·cases t2
  ·refine h_skip H18 rfl (H18.wf rfl rfl rfl) rfl (P3 17 1 16 rfl rfl rfl) fun a19 H19 => ?_
   refine h_skip H19 rfl (H19.wf rfl rfl rfl) rfl (P3 18 1 16 rfl rfl rfl) fun _ H20 => ?_
   refine h_skip H20 rfl (H20.wf rfl rfl rfl) rfl (P3 19 1 16 rfl rfl rfl) fun _ H21 => ?_
   refine h_skip H21 rfl (H21.wf rfl rfl rfl) rfl (P3 20 1 16 rfl rfl rfl) fun _ H22 => ?_
   refine h_o H22 rfl (R_pick H22 rfl rfl rfl) (P2 21 1 rfl rfl) fun _ H23 => ?_
   refine h_o H23 rfl (R_mv H23 rfl rfl) (P2 22 1 rfl rfl) fun _ H24 => ?_
   exact h_end ⟨H24.pick _ (P2 1 22 rfl rfl), hL⟩
  ·refine h_op H18 rfl (H18.wt rfl rfl rfl) (R_fa H18 rfl rfl (ft_2 _ _ _)) rfl (P3 17 1 16 rfl rfl rfl) fun a19 H19 => ?_
   refine h_op H19 rfl (H19.wt rfl rfl rfl) (R_ld H19 rfl rfl (ld_sl (hL.cell 2))) rfl (P3 18 1 16 rfl rfl rfl) fun _ H20 => ?_
   refine h_op H20 rfl (H20.wt rfl rfl rfl) (R_lenS H20 rfl rfl Tryz.underlying26) rfl (P3 19 1 16 rfl rfl rfl) fun _ H21 => ?_
   refine h_op H21 rfl (H21.wt rfl rfl rfl) (R_bin H21 rfl rfl rfl (B_ge Tryz.underlying3 _ _)) rfl (P3 20 1 16 rfl rfl rfl) fun _ H22 => ?_
   refine h_o H22 rfl (R_pick H22 rfl rfl rfl) (P2 21 1 rfl rfl) fun _ H23 => ?_
   refine h_o H23 rfl (R_mv H23 rfl rfl) (P2 22 1 rfl rfl) fun _ H24 => ?_
   exact h_end ⟨H24.pick _ (P2 1 22 rfl rfl), hL⟩
 clear hL H18
 rintro a25 wx ⟨H25, hL⟩
 generalize ht3 : (t2 && (decide ((t.own.length : Int) ≥ 1))) = t3 at H25
 refine wpList_cut [_, _, _, _, _, _] (R := fun a' w' => Fr a' 35 [(1, .pointer (some ⟨W.heap.size, 0, none⟩)), (28, .bool (t3 && (decide ((t.own.length : Int) ≤ 8))))] ∧ Live W [(W.heap.size, tbC t (.slice A t.own.length c), 28)] w') ?_ ?_
 ·cases t3
  ·refine h_skip H25 rfl (H25.wf rfl rfl rfl) rfl (P3 23 1 22 rfl rfl rfl) fun a26 H26 => ?_
   refine h_skip H26 rfl (H26.wf rfl rfl rfl) rfl (P3 24 1 22 rfl rfl rfl) fun _ H27 => ?_
   refine h_skip H27 rfl (H27.wf rfl rfl rfl) rfl (P3 25 1 22 rfl rfl rfl) fun _ H28 => ?_
   refine h_skip H28 rfl (H28.wf rfl rfl rfl) rfl (P3 26 1 22 rfl rfl rfl) fun _ H29 => ?_
   refine h_o H29 rfl (R_pick H29 rfl rfl rfl) (P2 27 1 rfl rfl) fun _ H30 => ?_
   refine h_o H30 rfl (R_mv H30 rfl rfl) (P2 28 1 rfl rfl) fun _ H31 => ?_
   exact h_end ⟨H31.pick _ (P2 1 28 rfl rfl), hL⟩
  ·refine h_op H25 rfl (H25.wt rfl rfl rfl) (R_fa H25 rfl rfl (ft_2 _ _ _)) rfl (P3 23 1 22 rfl rfl rfl) fun a26 H26 => ?_
   refine h_op H26 rfl (H26.wt rfl rfl rfl) (R_ld H26 rfl rfl (ld_sl (hL.cell 2))) rfl (P3 24 1 22 rfl rfl rfl) fun _ H27 => ?_
   refine h_op H27 rfl (H27.wt rfl rfl rfl) (R_lenS H27 rfl rfl Tryz.underlying26) rfl (P3 25 1 22 rfl rfl rfl) fun _ H28 => ?_
   refine h_op H28 rfl (H28.wt rfl rfl rfl) (R_bin H28 rfl rfl rfl (B_le Tryz.underlying3 _ _)) rfl (P3 26 1 22 rfl rfl rfl) fun _ H29 => ?_
   refine h_o H29 rfl (R_pick H29 rfl rfl rfl) (P2 27 1 rfl rfl) fun _ H30 => ?_
   refine h_o H30 rfl (R_mv H30 rfl rfl) (P2 28 1 rfl rfl) fun _ H31 => ?_
   exact h_end ⟨H31.pick _ (P2 1 28 rfl rfl), hL⟩
 clear hL H25
 rintro a32 wx ⟨H32, hL⟩
 generalize ht4 : (t3 && (decide ((t.own.length : Int) ≤ 8))) = t4 at H32
 refine wpList_cut [_, _, _, _, _, _] (R := fun a' w' => Fr a' 35 [(1, .pointer (some ⟨W.heap.size, 0, none⟩)), (34, .bool (t4 && (!(t.own.any (badN t.nd)))))] ∧ Live W [(W.heap.size, tbC t (.slice A t.own.length c), 28)] w') ?_ ?_
 ·cases t4
  ·refine h_skip H32 rfl (H32.wf rfl rfl rfl) rfl (P3 29 1 28 rfl rfl rfl) fun a33 H33 => ?_
   refine h_skip H33 rfl (H33.wf rfl rfl rfl) rfl (P3 30 1 28 rfl rfl rfl) fun _ H34 => ?_
   refine h_skip H34 rfl (H34.wf rfl rfl rfl) rfl (P4 31 30 1 28 rfl rfl rfl rfl) fun _ H35 => ?_
   refine h_skip H35 rfl (H35.wf rfl rfl rfl) rfl (P3 32 1 28 rfl rfl rfl) fun _ H36 => ?_
   refine h_skip H36 rfl (H36.wf rfl rfl rfl) rfl (P3 33 1 28 rfl rfl rfl) fun _ H37 => ?_
   refine h_o H37 rfl (R_pick H37 rfl rfl rfl) (P2 34 1 rfl rfl) fun _ H38 => ?_
   exact h_end ⟨H38.pick _ (P2 1 34 rfl rfl), hL⟩
  ·refine h_op H32 rfl (H32.wt rfl rfl rfl) (R_fa H32 rfl rfl (ft_2 _ _ _)) rfl (P3 29 1 28 rfl rfl rfl) fun a33 H33 => ?_
   refine h_op H33 rfl (H33.wt rfl rfl rfl) (R_ld H33 rfl rfl (ld_sl (hL.cell 2))) rfl (P3 30 1 28 rfl rfl rfl) fun _ H34 => ?_
   refine h_op H34 rfl (H34.wt rfl rfl rfl) (R_mf H34 rfl rfl) rfl (P4 31 30 1 28 rfl rfl rfl rfl) fun _ H35 => ?_
   refine h_call H35 rfl (H35.wt rfl rfl rfl) (R_call2 H35 rfl rfl rfl (fun w => by simp [go_sem])) rfl ?_
   refine (contains_any (K1 hL.1) hl (hL.cell 1)).mono ?_
   rintro e wx ⟨rfl, rfl⟩
   refine ⟨_, rfl, fun a36 HH => ?_⟩
   have H36 := HH _ (P3 32 1 28 rfl rfl rfl)
   refine h_op H36 rfl (H36.wt rfl rfl rfl) (R_not H36 rfl rfl) rfl (P3 33 1 28 rfl rfl rfl) fun _ H37 => ?_
   refine h_o H37 rfl (R_pick H37 rfl rfl rfl) (P2 34 1 rfl rfl) fun _ H38 => ?_
   exact h_end ⟨H38.pick _ (P2 1 34 rfl rfl), hL⟩
 clear hL H32
 rintro a39 wx ⟨H39, hL⟩
 generalize ht5 : (t4 && (!(t.own.any (badN t.nd)))) = t5 at H39
 refine h_o H39 rfl (R_as H39 rfl rfl) (P1 2 rfl) fun _ H40 => ?_
 refine h_end ?_
 repeat (go_not_at_region 999; go_step)
 refine H40.ret1 rfl rfl ⟨?_, hL.1⟩
 unfold rightT
 rw [ht0, ht1, ht2, ht3, ht4, ht5]
end
end Go.Proofs.YthkeiclhllikjaaGreat
/-
 Tables: the copy, a shard's owner, which is newer, which is kept; whether two are the same.
-/
namespace Go.Proofs.YthkeiclhllikjaaGreat
open Go.RowKit
def newerT (a b : PTab) : Bool := rightT a && rightT b && (a.nd == b.nd) && ((a.own.length : Int) == (b.own.length : Int)) && decide (a.ep > b.ep)
def keepT (own got : PTab) : PTab × Bool := if newerT got own then (got, true) else (own, false)
def ownT (t : PTab) (part : Int) : Int × Bool := if !rightT t || decide (part < 0) || decide (part ≥ (t.own.length : Int)) then (0, false) else (t.own.getD part.toNat 0, true)
theorem Live.join {w0 W W' : World} {L R : List Blk} (h : Live w0 L W) (hr : Live W R W') : Live w0 (R ++ L) W' := by
 have h2 := h.call hr.1
 refine ⟨h2.1, ?_, fun p hp => ?_⟩
 ·rw [List.map_append, List.nodup_append]
  refine ⟨hr.2.1, h2.2.1, ?_⟩
  intro a ha b hb e
  obtain ⟨p, hp, rfl⟩ := List.mem_map.1 ha
  obtain ⟨q, hq, rfl⟩ := List.mem_map.1 hb
  have h3 := (hr.2.2 p hp).1
  have h4 := blk_lt (h.2.2 q hq).2
  omega
 ·rcases List.mem_append.1 hp with hp | hp
  ·exact ⟨Nat.le_trans h.1.size (hr.2.2 p hp).1, (hr.2.2 p hp).2⟩
  ·exact h2.2.2 p hp
section
variable {w0 W : World} {L : List Blk} {l : List Int} {v v2 : Value} {g k : Nat} {nd : Int} {t u : PTab}
theorem tb_results {f : Func} {i : Nat} (hf : f.results = #[.cell i 28]) {tmps : Array Value} {w : World} {g : Nat} {t : PTab} {p : Option Addr} {l c : Nat} (hp : tmps.getD i undef = .pointer (some ⟨g, 0, none⟩)) (hg : w.heap[g]? = some (.cells (tbC t (.slice p l c)) 28 (0, 0))) :
  (results f tmps).run Tryz.prog w = .ok (.agg (tbC t (.slice p l c))) w :=
 results_cell_row hf _ _ g 28 _ (0, 0) _ hp hg Tryz.underlying28 rfl infoTb
set_option maxRecDepth 100000 in
theorem copy_any (hR : Rd W v t.own) (hl : t.own.length ≤ 1000000000000) : Calls Tryz.prog 32 #[.agg (tbC t v)] W fun e W' => ∃ v' R, e = .returned (.agg (tbC t v')) ∧ RowIs 3 v' (ints t.own) R ∧ Live W R W' := by
 obtain ⟨A, c, rfl⟩ := hR.slc
 have K1 : ∀ {w}, Below W.heap.size W w → Rd w (.slice A t.own.length c) t.own := fun hb => hR.kept fun k hk => hb.block k hk
 have hL := Live.init W
 go_enter Tryz.func32, Tryz.ntmps32
 refine wp_fr (n := 8) (m := [(0, _)]) ⟨rfl, rfl, by intro p hp; simp only [List.mem_cons, List.not_mem_nil, or_false] at hp; rcases hp with rfl <;> rfl⟩ fun a0 H0 => ?_
 repeat (go_not_at_region 0; go_step)
 refine wp_region_lit ?_
 refine h_opL [(W.heap.size, (tbC t (.slice A t.own.length c)), 28)] H0 rfl (wn rfl) (R_box H0 rfl rfl bx_tb) (hL.alloc _ _) rfl (P1 1 rfl) fun _ w1 H1 hL => ?_
 refine h_opL [(w1.heap.size, (tbC ⟨0, 0, []⟩ (.slice none 0 0)), 28), (W.heap.size, (tbC t (.slice A t.own.length c)), 28)] H1 rfl (wn rfl) (R_alloc rfl al_tb) (hL.alloc _ _) rfl (P2 2 1 rfl rfl) fun _ w2 H2 hL => ?_
 refine h_end ?_
 repeat (go_not_at_region 1; go_step)
 refine wp_region_lit ?_
 refine h_o H2 rfl (R_fa H2 rfl rfl (ft_2 _ _ _)) (P3 3 2 1 rfl rfl rfl) fun _ H3 => ?_
 refine h_o H3 rfl (R_ld H3 rfl rfl (ld_sl (hL.swap.cell 2))) (P3 4 2 1 rfl rfl rfl) fun _ H4 => ?_
 refine h_call H4 rfl (wn rfl) (R_call1 H4 rfl rfl (fun w => by simp [go_sem])) rfl ?_
 refine (clone_ok (K1 hL.1) hL hl).mono ?_
 rintro e w5 ⟨v', R, rfl, hr, hL2⟩
 obtain ⟨p2, c2, rfl⟩ := hr.shapeI
 replace hL := hL2.perm (L' := (W.heap.size, (tbC t (.slice A t.own.length c)), 28) :: (w1.heap.size, (tbC ⟨0, 0, []⟩ (.slice none 0 0)), 28) :: R) (List.perm_append_comm.trans (.swap _ _ _))
 clear hL2
 refine ⟨_, rfl, fun a5 HH => ?_⟩
 have H5 := HH _ (P3 5 2 1 rfl rfl rfl)
 refine h_o H5 rfl (R_fa H5 rfl rfl (ft_2 _ _ _)) (P4 6 5 2 1 rfl rfl rfl rfl) fun _ H6 => ?_
 refine h_stL ((W.heap.size, (tbC t (.slice p2 t.own.length c2)), 28) :: (w1.heap.size, (tbC ⟨0, 0, []⟩ (.slice none 0 0)), 28) :: R) H6 rfl (wn rfl) (R_st H6 rfl rfl rfl (st_sl hL rfl)) (hL.put 2 _) fun _ w7 H7 hL => ?_
 refine h_end ?_
 repeat (go_not_at_region 2; go_step)
 refine wp_region_lit ?_
 refine h_o H7 rfl (R_ld H7 rfl rfl (ld_tb hL.at_)) (P2 7 2 rfl rfl) fun _ H8 => ?_
 refine h_stL ((w1.heap.size, (tbC t (.slice p2 t.own.length c2)), 28) :: (W.heap.size, (tbC t (.slice p2 t.own.length c2)), 28) :: R) H8 rfl (wn rfl) (R_st H8 rfl rfl rfl (st_tb hL.swap.at_)) (hL.swap.row _) fun _ w9 H9 hL => ?_
 refine h_end ?_
 repeat (go_not_at_region 999; go_step)
 refine bodyPost_ret (v := .agg (tbC t (.slice p2 t.own.length c2))) (tb_results rfl (H9.getD rfl) hL.at_) H9.1 ⟨_, R, rfl, hr, hL.tail.tail⟩
set_option maxRecDepth 100000 in
theorem owner_any (hR : Rd W v t.own) (hl : t.own.length ≤ 1000000000000) (part : Int) : Calls Tryz.prog 38 #[.agg (tbC t v), .int .i64 part] W fun e W' => e = .returned (.tuple #[.int .i64 (ownT t part).1, .bool (ownT t part).2]) ∧ Below W.heap.size W W' := by
 obtain ⟨A, c, rfl⟩ := hR.slc
 have K1 : ∀ {w}, Below W.heap.size W w → Rd w (.slice A t.own.length c) t.own := fun hb => hR.kept fun k hk => hb.block k hk
 have hL := (Live.init W).alloc (tbC t (.slice A t.own.length c)) 28
 obtain ⟨y, hy⟩ : ∃ y, y = ownT t part := ⟨_, rfl⟩
 rw [← hy]
 unfold ownT at hy
 go_enter Tryz.func38, Tryz.ntmps38
 refine wp_fr (n := 25) (m := [(0, _), (1, _)]) ⟨rfl, rfl, by intro p hp; simp only [List.mem_cons, List.not_mem_nil, or_false] at hp; rcases hp with rfl | rfl <;> rfl⟩ fun a0 H0 => ?_
 repeat (go_not_at_region 0; go_step)
 refine wp_region_lit ?_
 refine h_o H0 rfl (R_box H0 rfl rfl bx_tb) (P2 2 1 rfl rfl) fun _ H1 => ?_
 refine h_o H1 rfl (R_as H1 rfl rfl) (P2 2 1 rfl rfl) fun _ H2 => ?_
 refine h_o H2 rfl (R_as H2 rfl rfl) (P2 2 1 rfl rfl) fun _ H3 => ?_
 refine h_end ?_
 repeat (go_not_at_region 1; go_step)
 refine wp_region_lit ?_
 refine h_o H3 rfl (R_ld H3 rfl rfl (ld_tb (t := t) hL.at_)) (P3 6 2 1 rfl rfl rfl) fun _ H4 => ?_
 refine h_call H4 rfl (wn rfl) (R_call1 H4 rfl rfl (fun w => by simp [go_sem])) rfl ?_
 refine (right_any (K1 hL.1) hl).mono ?_
 rintro e w5 ⟨rfl, hb⟩
 replace hL := hL.call hb
 clear hb
 refine ⟨_, rfl, fun a5 HH => ?_⟩
 have H5 := HH _ (P3 7 2 1 rfl rfl rfl)
 refine h_o H5 rfl (R_not H5 rfl rfl) (P3 8 2 1 rfl rfl rfl) fun _ H6 => ?_
 refine h_o H6 rfl (R_mv H6 rfl rfl) (P3 9 2 1 rfl rfl rfl) fun _ H7 => ?_
 replace H7 := H7.pick [(1, .int .i64 part), (2, .pointer (some ⟨W.heap.size, 0, none⟩)), (9, .bool (!(rightT t)))] (P3 1 2 9 rfl rfl rfl)
 generalize ht0 : (!(rightT t)) = t0 at H7
 refine wpList_cut [_, _, _, _] (R := fun a' w' => Fr a' 25 [(1, .int .i64 part), (2, .pointer (some ⟨W.heap.size, 0, none⟩)), (13, .bool (t0 || (decide (part < 0))))] ∧ Live W [(W.heap.size, (tbC t (.slice A t.own.length c)), 28)] w') ?_ ?_
 ·cases t0
  ·refine h_op H7 rfl (H7.wt rfl rfl rfl) (R_mv H7 rfl rfl) rfl (P4 10 1 2 9 rfl rfl rfl rfl) fun a8 H8 => ?_
   refine h_op H8 rfl (H8.wt rfl rfl rfl) (R_bin H8 rfl rfl rfl (B_lt Tryz.underlying3 _ _)) rfl (P4 11 1 2 9 rfl rfl rfl rfl) fun _ H9 => ?_
   refine h_o H9 rfl (R_pick H9 rfl rfl rfl) (P3 12 1 2 rfl rfl rfl) fun _ H10 => ?_
   refine h_o H10 rfl (R_mv H10 rfl rfl) (P3 13 1 2 rfl rfl rfl) fun _ H11 => ?_
   exact h_end ⟨H11.pick _ (P3 1 2 13 rfl rfl rfl), hL⟩
  ·refine h_skip H7 rfl (H7.wf rfl rfl rfl) rfl (P4 10 1 2 9 rfl rfl rfl rfl) fun a8 H8 => ?_
   refine h_skip H8 rfl (H8.wf rfl rfl rfl) rfl (P4 11 1 2 9 rfl rfl rfl rfl) fun _ H9 => ?_
   refine h_o H9 rfl (R_pick H9 rfl rfl rfl) (P3 12 1 2 rfl rfl rfl) fun _ H10 => ?_
   refine h_o H10 rfl (R_mv H10 rfl rfl) (P3 13 1 2 rfl rfl rfl) fun _ H11 => ?_
   exact h_end ⟨H11.pick _ (P3 1 2 13 rfl rfl rfl), hL⟩
 clear hL H7
 rintro a12 wx ⟨H12, hL⟩
 generalize ht1 : (t0 || (decide (part < 0))) = t1 at H12
 refine wpList_cut [_, _, _, _, _, _] (R := fun a' w' => Fr a' 25 [(1, .int .i64 part), (2, .pointer (some ⟨W.heap.size, 0, none⟩)), (19, .bool (t1 || (decide (part ≥ (t.own.length : Int)))))] ∧ Live W [(W.heap.size, (tbC t (.slice A t.own.length c)), 28)] w') ?_ ?_
 ·cases t1
  ·refine h_op H12 rfl (H12.wt rfl rfl rfl) (R_mv H12 rfl rfl) rfl (P4 14 1 2 13 rfl rfl rfl rfl) fun a13 H13 => ?_
   refine h_op H13 rfl (H13.wt rfl rfl rfl) (R_fa H13 rfl rfl (ft_2 _ _ _)) rfl (P5 15 14 1 2 13 rfl rfl rfl rfl rfl) fun _ H14 => ?_
   refine h_op H14 rfl (H14.wt rfl rfl rfl) (R_ld H14 rfl rfl (ld_sl (hL.cell 2))) rfl (P5 16 14 1 2 13 rfl rfl rfl rfl rfl) fun _ H15 => ?_
   refine h_op H15 rfl (H15.wt rfl rfl rfl) (R_lenS H15 rfl rfl Tryz.underlying26) rfl (P5 17 14 1 2 13 rfl rfl rfl rfl rfl) fun _ H16 => ?_
   refine h_op H16 rfl (H16.wt rfl rfl rfl) (R_bin H16 rfl rfl rfl (B_ge Tryz.underlying3 _ _)) rfl (P4 18 1 2 13 rfl rfl rfl rfl) fun _ H17 => ?_
   refine h_o H17 rfl (R_pick H17 rfl rfl rfl) (P3 19 1 2 rfl rfl rfl) fun _ H18 => ?_
   exact h_end ⟨H18.pick _ (P3 1 2 19 rfl rfl rfl), hL⟩
  ·refine h_skip H12 rfl (H12.wf rfl rfl rfl) rfl (P4 14 1 2 13 rfl rfl rfl rfl) fun a13 H13 => ?_
   refine h_skip H13 rfl (H13.wf rfl rfl rfl) rfl (P5 15 14 1 2 13 rfl rfl rfl rfl rfl) fun _ H14 => ?_
   refine h_skip H14 rfl (H14.wf rfl rfl rfl) rfl (P5 16 14 1 2 13 rfl rfl rfl rfl rfl) fun _ H15 => ?_
   refine h_skip H15 rfl (H15.wf rfl rfl rfl) rfl (P5 17 14 1 2 13 rfl rfl rfl rfl rfl) fun _ H16 => ?_
   refine h_skip H16 rfl (H16.wf rfl rfl rfl) rfl (P4 18 1 2 13 rfl rfl rfl rfl) fun _ H17 => ?_
   refine h_o H17 rfl (R_pick H17 rfl rfl rfl) (P3 19 1 2 rfl rfl rfl) fun _ H18 => ?_
   exact h_end ⟨H18.pick _ (P3 1 2 19 rfl rfl rfl), hL⟩
 clear hL H12
 rintro a19 wx ⟨H19, hL⟩
 generalize ht2 : (t1 || (decide (part ≥ (t.own.length : Int)))) = t2 at H19
 refine h_end ?_
 rw [ht0, ht1, ht2] at hy
 cases t2
 rotate_left
 ·repeat (go_not_at_region 2; go_step)
  refine wp_cond_true (H19.ev (x := .tmp 19) rfl) ?_
  repeat (go_not_at_region 2; go_step)
  refine wp_region_lit ?_
  refine h_o H19 rfl (R_as H19 rfl rfl) (P1 4 rfl) fun _ H20 => ?_
  refine h_o H20 rfl (R_as H20 rfl rfl) (P2 5 4 rfl rfl) fun _ H21 => ?_
  refine h_end ?_
  repeat (go_not_at_region 999; go_step)
  refine H21.ret2 rfl rfl rfl ⟨?_, hL.1⟩
  rw [hy]
  rfl
 have hp : 0 ≤ part ∧ part < t.own.length := by
  rw [← ht1, ← ht0] at ht2
  have e1 := (Bool.or_eq_false_iff.1 ht2).2
  have e2 := (Bool.or_eq_false_iff.1 (Bool.or_eq_false_iff.1 ht2).1).2
  exact ⟨by simpa using e2, by simpa using e1⟩
 obtain ⟨pn, rfl⟩ : ∃ p : Nat, part = p := ⟨part.toNat, by omega⟩
 obtain ⟨ad, rfl, hcell⟩ := (K1 hL.1).elem (j := pn) (by omega)
 repeat (go_not_at_region 3; go_step)
 refine wp_cond_false (H19.ev (x := .tmp 19) rfl) ?_
 repeat (go_not_at_region 3; go_step)
 refine wp_region_lit ?_
 refine h_o H19 rfl (R_fa H19 rfl rfl (ft_2 _ _ _)) (P2 20 1 rfl rfl) fun _ H20 => ?_
 refine h_o H20 rfl (R_ld H20 rfl rfl (ld_sl (hL.cell 2))) (P2 21 1 rfl rfl) fun _ H21 => ?_
 refine h_o H21 rfl (R_mv H21 rfl rfl) (P2 22 21 rfl rfl) fun _ H22 => ?_
 refine h_o H22 rfl (R_ixa H22 rfl rfl rfl (ix_at (by omega))) (P1 23 rfl) fun _ H23 => ?_
 refine h_o H23 rfl (R_ld H23 rfl rfl (ld_int hcell)) (P1 24 rfl) fun _ H24 => ?_
 refine h_o H24 rfl (R_as H24 rfl rfl) (P1 4 rfl) fun _ H25 => ?_
 refine h_o H25 rfl (R_as H25 rfl rfl) (P2 5 4 rfl rfl) fun _ H26 => ?_
 refine h_end ?_
 repeat (go_not_at_region 999; go_step)
 refine H26.ret2 rfl rfl rfl ⟨?_, hL.1⟩
 rw [hy]
 rfl
set_option maxRecDepth 100000 in
set_option maxHeartbeats 1000000 in
theorem newer_any (hR : Rd W v t.own) (hl : t.own.length ≤ 1000000000000) (hR2 : Rd W v2 u.own) (hl2 : u.own.length ≤ 1000000000000) : Calls Tryz.prog 53 #[.agg (tbC t v), .agg (tbC u v2)] W fun e W' => e = .returned (.bool (newerT t u)) ∧ Below W.heap.size W W' := by
 obtain ⟨A, c, rfl⟩ := hR.slc
 obtain ⟨A2, c2, rfl⟩ := hR2.slc
 have K1 : ∀ {w}, Below W.heap.size W w → Rd w (.slice A t.own.length c) t.own := fun hb => hR.kept fun k hk => hb.block k hk
 have K2 : ∀ {w}, Below W.heap.size W w → Rd w (.slice A2 u.own.length c2) u.own := fun hb => hR2.kept fun k hk => hb.block k hk
 have hs1 : ∀ (w : World) (o : Obj), (w.alloc o).heap.size = w.heap.size + 1 := fun w o => by simp
 have hL := ((Live.init W).alloc (tbC t (.slice A t.own.length c)) 28).alloc (tbC u (.slice A2 u.own.length c2)) 28
 simp only [hs1] at hL
 unfold newerT
 go_enter Tryz.func53, Tryz.ntmps53
 refine wp_fr (n := 34) (m := [(0, _), (1, _)]) ⟨rfl, rfl, by intro p hp; simp only [List.mem_cons, List.not_mem_nil, or_false] at hp; rcases hp with rfl | rfl <;> rfl⟩ fun a0 H0 => ?_
 repeat (go_not_at_region 0; go_step)
 refine wp_region_lit ?_
 refine h_o H0 rfl (R_box H0 rfl rfl bx_tb) (P2 2 1 rfl rfl) fun _ H1 => ?_
 refine h_o H1 rfl (R_box H1 rfl rfl bx_tb) (P2 3 2 rfl rfl) fun _ H2 => ?_
 refine h_o H2 rfl (R_as H2 rfl rfl) (P2 3 2 rfl rfl) fun _ H3 => ?_
 refine h_end ?_
 simp only [hs1] at *
 repeat (go_not_at_region 1; go_step)
 refine wp_region_lit ?_
 refine h_o H3 rfl (R_ld H3 rfl rfl (ld_tb (t := t) hL.tail.at_)) (P3 5 3 2 rfl rfl rfl) fun _ H4 => ?_
 refine h_call H4 rfl (wn rfl) (R_call1 H4 rfl rfl (fun w => by simp [go_sem])) rfl ?_
 refine (right_any (K1 hL.1) hl).mono ?_
 rintro e w5 ⟨rfl, hb⟩
 replace hL := hL.call hb
 clear hb
 refine ⟨_, rfl, fun a5 HH => ?_⟩
 have H5 := HH _ (P3 6 3 2 rfl rfl rfl)
 refine h_o H5 rfl (R_mv H5 rfl rfl) (P3 7 3 2 rfl rfl rfl) fun _ H6 => ?_
 replace H6 := H6.pick [(2, .pointer (some ⟨W.heap.size, 0, none⟩)), (3, .pointer (some ⟨W.heap.size + 1, 0, none⟩)), (7, .bool (rightT t))] (P3 2 3 7 rfl rfl rfl)
 generalize ht0 : (rightT t) = t0 at H6
 refine wpList_cut [_, _, _, _] (R := fun a' w' => Fr a' 34 [(2, .pointer (some ⟨W.heap.size, 0, none⟩)), (3, .pointer (some ⟨W.heap.size + 1, 0, none⟩)), (11, .bool (t0 && (rightT u)))] ∧ Live W [(W.heap.size + 1, (tbC u (.slice A2 u.own.length c2)), 28), (W.heap.size, (tbC t (.slice A t.own.length c)), 28)] w') ?_ ?_
 ·cases t0
  ·refine h_skip H6 rfl (H6.wf rfl rfl rfl) rfl (P4 8 2 3 7 rfl rfl rfl rfl) fun a7 H7 => ?_
   refine h_skip H7 rfl (H7.wf rfl rfl rfl) rfl (P4 9 2 3 7 rfl rfl rfl rfl) fun _ H8 => ?_
   refine h_o H8 rfl (R_pick H8 rfl rfl rfl) (P3 10 2 3 rfl rfl rfl) fun _ H9 => ?_
   refine h_o H9 rfl (R_mv H9 rfl rfl) (P3 11 2 3 rfl rfl rfl) fun _ H10 => ?_
   exact h_end ⟨H10.pick _ (P3 2 3 11 rfl rfl rfl), hL⟩
  ·refine h_op H6 rfl (H6.wt rfl rfl rfl) (R_ld H6 rfl rfl (ld_tb (t := u) hL.at_)) rfl (P4 8 2 3 7 rfl rfl rfl rfl) fun a7 H7 => ?_
   refine h_call H7 rfl (H7.wt rfl rfl rfl) (R_call1 H7 rfl rfl (fun w => by simp [go_sem])) rfl ?_
   refine (right_any (K2 hL.1) hl2).mono ?_
   rintro e w8 ⟨rfl, hb⟩
   replace hL := hL.call hb
   clear hb
   refine ⟨_, rfl, fun a8 HH => ?_⟩
   have H8 := HH _ (P4 9 2 3 7 rfl rfl rfl rfl)
   refine h_o H8 rfl (R_pick H8 rfl rfl rfl) (P3 10 2 3 rfl rfl rfl) fun _ H9 => ?_
   refine h_o H9 rfl (R_mv H9 rfl rfl) (P3 11 2 3 rfl rfl rfl) fun _ H10 => ?_
   exact h_end ⟨H10.pick _ (P3 2 3 11 rfl rfl rfl), hL⟩
 clear hL H6
 rintro a11 wx ⟨H11, hL⟩
 generalize ht1 : (t0 && (rightT u)) = t1 at H11
 refine wpList_cut [_, _, _, _, _, _, _] (R := fun a' w' => Fr a' 34 [(2, .pointer (some ⟨W.heap.size, 0, none⟩)), (3, .pointer (some ⟨W.heap.size + 1, 0, none⟩)), (18, .bool (t1 && (t.nd == u.nd)))] ∧ Live W [(W.heap.size + 1, (tbC u (.slice A2 u.own.length c2)), 28), (W.heap.size, (tbC t (.slice A t.own.length c)), 28)] w') ?_ ?_
 ·cases t1
  ·refine h_skip H11 rfl (H11.wf rfl rfl rfl) rfl (P4 12 2 3 11 rfl rfl rfl rfl) fun a12 H12 => ?_
   refine h_skip H12 rfl (H12.wf rfl rfl rfl) rfl (P4 13 2 3 11 rfl rfl rfl rfl) fun _ H13 => ?_
   refine h_skip H13 rfl (H13.wf rfl rfl rfl) rfl (P5 14 13 2 3 11 rfl rfl rfl rfl rfl) fun _ H14 => ?_
   refine h_skip H14 rfl (H14.wf rfl rfl rfl) rfl (P5 15 13 2 3 11 rfl rfl rfl rfl rfl) fun _ H15 => ?_
   refine h_skip H15 rfl (H15.wf rfl rfl rfl) rfl (P4 16 2 3 11 rfl rfl rfl rfl) fun _ H16 => ?_
   refine h_o H16 rfl (R_pick H16 rfl rfl rfl) (P3 17 2 3 rfl rfl rfl) fun _ H17 => ?_
   refine h_o H17 rfl (R_mv H17 rfl rfl) (P3 18 2 3 rfl rfl rfl) fun _ H18 => ?_
   exact h_end ⟨H18.pick _ (P3 2 3 18 rfl rfl rfl), hL⟩
  ·refine h_op H11 rfl (H11.wt rfl rfl rfl) (R_fa H11 rfl rfl (ft_1 _ _ _)) rfl (P4 12 2 3 11 rfl rfl rfl rfl) fun a12 H12 => ?_
   refine h_op H12 rfl (H12.wt rfl rfl rfl) (R_ld H12 rfl rfl (ld_int (hL.tail.cell 1))) rfl (P4 13 2 3 11 rfl rfl rfl rfl) fun _ H13 => ?_
   refine h_op H13 rfl (H13.wt rfl rfl rfl) (R_fa H13 rfl rfl (ft_1 _ _ _)) rfl (P5 14 13 2 3 11 rfl rfl rfl rfl rfl) fun _ H14 => ?_
   refine h_op H14 rfl (H14.wt rfl rfl rfl) (R_ld H14 rfl rfl (ld_int (hL.cell 1))) rfl (P5 15 13 2 3 11 rfl rfl rfl rfl rfl) fun _ H15 => ?_
   refine h_op H15 rfl (H15.wt rfl rfl rfl) (R_bin H15 rfl rfl rfl (B_eq Tryz.underlying3 _ _)) rfl (P4 16 2 3 11 rfl rfl rfl rfl) fun _ H16 => ?_
   refine h_o H16 rfl (R_pick H16 rfl rfl rfl) (P3 17 2 3 rfl rfl rfl) fun _ H17 => ?_
   refine h_o H17 rfl (R_mv H17 rfl rfl) (P3 18 2 3 rfl rfl rfl) fun _ H18 => ?_
   exact h_end ⟨H18.pick _ (P3 2 3 18 rfl rfl rfl), hL⟩
 clear hL H11
 rintro a19 wx ⟨H19, hL⟩
 generalize ht2 : (t1 && (t.nd == u.nd)) = t2 at H19
 refine wpList_cut [_, _, _, _, _, _, _, _, _] (R := fun a' w' => Fr a' 34 [(2, .pointer (some ⟨W.heap.size, 0, none⟩)), (3, .pointer (some ⟨W.heap.size + 1, 0, none⟩)), (27, .bool (t2 && ((t.own.length : Int) == (u.own.length : Int))))] ∧ Live W [(W.heap.size + 1, (tbC u (.slice A2 u.own.length c2)), 28), (W.heap.size, (tbC t (.slice A t.own.length c)), 28)] w') ?_ ?_
 ·cases t2
  ·refine h_skip H19 rfl (H19.wf rfl rfl rfl) rfl (P4 19 2 3 18 rfl rfl rfl rfl) fun a20 H20 => ?_
   refine h_skip H20 rfl (H20.wf rfl rfl rfl) rfl (P4 20 2 3 18 rfl rfl rfl rfl) fun _ H21 => ?_
   refine h_skip H21 rfl (H21.wf rfl rfl rfl) rfl (P4 21 2 3 18 rfl rfl rfl rfl) fun _ H22 => ?_
   refine h_skip H22 rfl (H22.wf rfl rfl rfl) rfl (P5 22 21 2 3 18 rfl rfl rfl rfl rfl) fun _ H23 => ?_
   refine h_skip H23 rfl (H23.wf rfl rfl rfl) rfl (P5 23 21 2 3 18 rfl rfl rfl rfl rfl) fun _ H24 => ?_
   refine h_skip H24 rfl (H24.wf rfl rfl rfl) rfl (P5 24 21 2 3 18 rfl rfl rfl rfl rfl) fun _ H25 => ?_
   refine h_skip H25 rfl (H25.wf rfl rfl rfl) rfl (P4 25 2 3 18 rfl rfl rfl rfl) fun _ H26 => ?_
   refine h_o H26 rfl (R_pick H26 rfl rfl rfl) (P3 26 2 3 rfl rfl rfl) fun _ H27 => ?_
   refine h_o H27 rfl (R_mv H27 rfl rfl) (P3 27 2 3 rfl rfl rfl) fun _ H28 => ?_
   exact h_end ⟨H28.pick _ (P3 2 3 27 rfl rfl rfl), hL⟩
  ·refine h_op H19 rfl (H19.wt rfl rfl rfl) (R_fa H19 rfl rfl (ft_2 _ _ _)) rfl (P4 19 2 3 18 rfl rfl rfl rfl) fun a20 H20 => ?_
   refine h_op H20 rfl (H20.wt rfl rfl rfl) (R_ld H20 rfl rfl (ld_sl (hL.tail.cell 2))) rfl (P4 20 2 3 18 rfl rfl rfl rfl) fun _ H21 => ?_
   refine h_op H21 rfl (H21.wt rfl rfl rfl) (R_lenS H21 rfl rfl Tryz.underlying26) rfl (P4 21 2 3 18 rfl rfl rfl rfl) fun _ H22 => ?_
   refine h_op H22 rfl (H22.wt rfl rfl rfl) (R_fa H22 rfl rfl (ft_2 _ _ _)) rfl (P5 22 21 2 3 18 rfl rfl rfl rfl rfl) fun _ H23 => ?_
   refine h_op H23 rfl (H23.wt rfl rfl rfl) (R_ld H23 rfl rfl (ld_sl (hL.cell 2))) rfl (P5 23 21 2 3 18 rfl rfl rfl rfl rfl) fun _ H24 => ?_
   refine h_op H24 rfl (H24.wt rfl rfl rfl) (R_lenS H24 rfl rfl Tryz.underlying26) rfl (P5 24 21 2 3 18 rfl rfl rfl rfl rfl) fun _ H25 => ?_
   refine h_op H25 rfl (H25.wt rfl rfl rfl) (R_bin H25 rfl rfl rfl (B_eq Tryz.underlying3 _ _)) rfl (P4 25 2 3 18 rfl rfl rfl rfl) fun _ H26 => ?_
   refine h_o H26 rfl (R_pick H26 rfl rfl rfl) (P3 26 2 3 rfl rfl rfl) fun _ H27 => ?_
   refine h_o H27 rfl (R_mv H27 rfl rfl) (P3 27 2 3 rfl rfl rfl) fun _ H28 => ?_
   exact h_end ⟨H28.pick _ (P3 2 3 27 rfl rfl rfl), hL⟩
 clear hL H19
 rintro a29 wx ⟨H29, hL⟩
 generalize ht3 : (t2 && ((t.own.length : Int) == (u.own.length : Int))) = t3 at H29
 refine wpList_cut [_, _, _, _, _, _] (R := fun a' w' => Fr a' 34 [(2, .pointer (some ⟨W.heap.size, 0, none⟩)), (3, .pointer (some ⟨W.heap.size + 1, 0, none⟩)), (33, .bool (t3 && (decide (t.ep > u.ep))))] ∧ Live W [(W.heap.size + 1, (tbC u (.slice A2 u.own.length c2)), 28), (W.heap.size, (tbC t (.slice A t.own.length c)), 28)] w') ?_ ?_
 ·cases t3
  ·refine h_skip H29 rfl (H29.wf rfl rfl rfl) rfl (P4 28 2 3 27 rfl rfl rfl rfl) fun a30 H30 => ?_
   refine h_skip H30 rfl (H30.wf rfl rfl rfl) rfl (P4 29 2 3 27 rfl rfl rfl rfl) fun _ H31 => ?_
   refine h_skip H31 rfl (H31.wf rfl rfl rfl) rfl (P5 30 29 2 3 27 rfl rfl rfl rfl rfl) fun _ H32 => ?_
   refine h_skip H32 rfl (H32.wf rfl rfl rfl) rfl (P5 31 29 2 3 27 rfl rfl rfl rfl rfl) fun _ H33 => ?_
   refine h_skip H33 rfl (H33.wf rfl rfl rfl) rfl (P4 32 2 3 27 rfl rfl rfl rfl) fun _ H34 => ?_
   refine h_o H34 rfl (R_pick H34 rfl rfl rfl) (P3 33 2 3 rfl rfl rfl) fun _ H35 => ?_
   exact h_end ⟨H35.pick _ (P3 2 3 33 rfl rfl rfl), hL⟩
  ·refine h_op H29 rfl (H29.wt rfl rfl rfl) (R_fa H29 rfl rfl (ft_0 _ _ _)) rfl (P4 28 2 3 27 rfl rfl rfl rfl) fun a30 H30 => ?_
   refine h_op H30 rfl (H30.wt rfl rfl rfl) (R_ld H30 rfl rfl (ld_int (hL.tail.cell 0))) rfl (P4 29 2 3 27 rfl rfl rfl rfl) fun _ H31 => ?_
   refine h_op H31 rfl (H31.wt rfl rfl rfl) (R_fa H31 rfl rfl (ft_0 _ _ _)) rfl (P5 30 29 2 3 27 rfl rfl rfl rfl rfl) fun _ H32 => ?_
   refine h_op H32 rfl (H32.wt rfl rfl rfl) (R_ld H32 rfl rfl (ld_int (hL.cell 0))) rfl (P5 31 29 2 3 27 rfl rfl rfl rfl rfl) fun _ H33 => ?_
   refine h_op H33 rfl (H33.wt rfl rfl rfl) (R_bin H33 rfl rfl rfl (B_gt Tryz.underlying3 _ _)) rfl (P4 32 2 3 27 rfl rfl rfl rfl) fun _ H34 => ?_
   refine h_o H34 rfl (R_pick H34 rfl rfl rfl) (P3 33 2 3 rfl rfl rfl) fun _ H35 => ?_
   exact h_end ⟨H35.pick _ (P3 2 3 33 rfl rfl rfl), hL⟩
 clear hL H29
 rintro a36 wx ⟨H36, hL⟩
 generalize ht4 : (t3 && (decide (t.ep > u.ep))) = t4 at H36
 refine h_o H36 rfl (R_as H36 rfl rfl) (P1 4 rfl) fun _ H37 => ?_
 refine h_end ?_
 repeat (go_not_at_region 999; go_step)
 refine H37.ret1 rfl rfl ⟨?_, hL.1⟩
 rw [ht0, ht1, ht2, ht3, ht4]
theorem keep_results {f : Func} (hf : f.results = #[.cell 4 28, .tmp 5]) {tmps : Array Value} {w : World} {g : Nat} {t : PTab} {p : Option Addr} {l c : Nat} {x : Value} (hp : tmps.getD 4 undef = .pointer (some ⟨g, 0, none⟩)) (hx : tmps.getD 5 undef = x) (hg : w.heap[g]? = some (.cells (tbC t (.slice p l c)) 28 (0, 0))) :
  (results f tmps).run Tryz.prog w = .ok (.tuple #[.agg (tbC t (.slice p l c)), x]) w := by
 rw [results_cell_tmp (p := 4) (u := 5) (ty := 28) hf, hp, hx]
 have h := run_loadVar_row (P := Tryz.prog) w g 28 28 (tbC t (.slice p l c)) (0, 0) _ hg Tryz.underlying28 rfl infoTb
 simp [asAddr, h]
set_option maxRecDepth 100000 in
set_option maxHeartbeats 1000000 in
theorem keep_any (hR : Rd W v t.own) (hl : t.own.length ≤ 1000000000000) (hR2 : Rd W v2 u.own) (hl2 : u.own.length ≤ 1000000000000) : Calls Tryz.prog 35 #[.agg (tbC t v), .agg (tbC u v2)] W fun e W' => ∃ v' R, e = .returned (.tuple #[.agg (tbC (keepT t u).1 v'), .bool (keepT t u).2]) ∧ RowIs 3 v' (ints (keepT t u).1.own) R ∧ Live W R W' := by
 obtain ⟨A, c, rfl⟩ := hR.slc
 obtain ⟨A2, c2, rfl⟩ := hR2.slc
 have K1 : ∀ {w}, Below W.heap.size W w → Rd w (.slice A t.own.length c) t.own := fun hb => hR.kept fun k hk => hb.block k hk
 have K2 : ∀ {w}, Below W.heap.size W w → Rd w (.slice A2 u.own.length c2) u.own := fun hb => hR2.kept fun k hk => hb.block k hk
 have hL := Live.init W
 obtain ⟨y, hy⟩ : ∃ y, y = keepT t u := ⟨_, rfl⟩
 rw [← hy]
 unfold keepT at hy
 go_enter Tryz.func35, Tryz.ntmps35
 refine wp_fr (n := 13) (m := [(0, _), (1, _)]) ⟨rfl, rfl, by intro p hp; simp only [List.mem_cons, List.not_mem_nil, or_false] at hp; rcases hp with rfl | rfl <;> rfl⟩ fun a0 H0 => ?_
 repeat (go_not_at_region 0; go_step)
 refine wp_region_lit ?_
 refine h_opL [(W.heap.size, (tbC t (.slice A t.own.length c)), 28)] H0 rfl (wn rfl) (R_box H0 rfl rfl bx_tb) (hL.alloc _ _) rfl (P2 2 1 rfl rfl) fun _ w1 H1 hL => ?_
 refine h_opL [(w1.heap.size, (tbC u (.slice A2 u.own.length c2)), 28), (W.heap.size, (tbC t (.slice A t.own.length c)), 28)] H1 rfl (wn rfl) (R_box H1 rfl rfl bx_tb) (hL.alloc _ _) rfl (P2 3 2 rfl rfl) fun _ w2 H2 hL => ?_
 refine h_opL [(w2.heap.size, (tbC ⟨0, 0, []⟩ (.slice none 0 0)), 28), (w1.heap.size, (tbC u (.slice A2 u.own.length c2)), 28), (W.heap.size, (tbC t (.slice A t.own.length c)), 28)] H2 rfl (wn rfl) (R_alloc rfl al_tb) (hL.alloc _ _) rfl (P3 4 3 2 rfl rfl rfl) fun _ w3 H3 hL => ?_
 refine h_o H3 rfl (R_as H3 rfl rfl) (P3 4 3 2 rfl rfl rfl) fun _ H4 => ?_
 refine h_end ?_
 repeat (go_not_at_region 1; go_step)
 refine wp_region_lit ?_
 refine h_o H4 rfl (R_ld H4 rfl rfl (ld_tb (t := u) hL.tail.at_)) (P4 6 4 3 2 rfl rfl rfl rfl) fun _ H5 => ?_
 refine h_o H5 rfl (R_ld H5 rfl rfl (ld_tb (t := t) hL.tail.tail.at_)) (P5 7 6 4 3 2 rfl rfl rfl rfl rfl) fun _ H6 => ?_
 refine h_call H6 rfl (wn rfl) (R_call2 H6 rfl rfl rfl (fun w => by simp [go_sem])) rfl ?_
 refine (newer_any (K2 hL.1) hl2 (K1 hL.1) hl).mono ?_
 rintro e w7 ⟨rfl, hb⟩
 replace hL := hL.call hb
 clear hb
 refine ⟨_, rfl, fun a7 HH => ?_⟩
 have H7 := HH _ (P4 8 4 3 2 rfl rfl rfl rfl)
 refine h_end ?_
 cases hn : newerT u t
 rotate_left
 ·rw [hn] at hy H7
  repeat (go_not_at_region 2; go_step)
  refine wp_cond_true (H7.ev (x := .tmp 8) rfl) ?_
  repeat (go_not_at_region 2; go_step)
  refine wp_region_lit ?_
  refine h_o H7 rfl (R_ld H7 rfl rfl (ld_tb (t := u) hL.tail.at_)) (P2 9 4 rfl rfl) fun _ H8 => ?_
  refine h_call H8 rfl (wn rfl) (R_call1 H8 rfl rfl (fun w => by simp [go_sem])) rfl ?_
  refine (copy_any (K2 hL.1) hl2).mono ?_
  rintro e w9 ⟨v', R, rfl, hr, hL3⟩
  obtain ⟨p3, c3, rfl⟩ := hr.shapeI
  replace hL := hL.join hL3
  clear hL3
  refine ⟨_, rfl, fun a9 HH => ?_⟩
  have H9 := HH _ (P2 10 4 rfl rfl)
  refine h_stL ((w2.heap.size, (tbC u (.slice p3 u.own.length c3)), 28) :: (R ++ [(w1.heap.size, (tbC u (.slice A2 u.own.length c2)), 28), (W.heap.size, (tbC t (.slice A t.own.length c)), 28)])) H9 rfl (wn rfl) (R_st H9 rfl rfl rfl (st_tb (t := ⟨0, 0, []⟩) (p := none) (l := 0) (c := 0) (hL.mem_at (by simp)))) ((hL.perm List.perm_middle).row _) fun _ w10 H10 hL => ?_
  refine h_o H10 rfl (R_as H10 rfl rfl) (P2 5 4 rfl rfl) fun _ H11 => ?_
  refine h_end ?_
  repeat (go_not_at_region 999; go_step)
  refine bodyPost_ret (v := .tuple #[.agg (tbC u (.slice p3 u.own.length c3)), .bool true]) (keep_results rfl (H11.getD rfl) (H11.getD rfl) hL.at_) H11.1 ?_
  rw [hy]
  exact ⟨_, R, rfl, hr, (hL.tail.perm List.perm_append_comm).dropl (X := [_, _])⟩
 ·rw [hn] at hy H7
  repeat (go_not_at_region 3; go_step)
  refine wp_cond_false (H7.ev (x := .tmp 8) rfl) ?_
  repeat (go_not_at_region 3; go_step)
  refine wp_region_lit ?_
  refine h_o H7 rfl (R_ld H7 rfl rfl (ld_tb (t := t) hL.tail.tail.at_)) (P2 11 4 rfl rfl) fun _ H8 => ?_
  refine h_call H8 rfl (wn rfl) (R_call1 H8 rfl rfl (fun w => by simp [go_sem])) rfl ?_
  refine (copy_any (K1 hL.1) hl).mono ?_
  rintro e w9 ⟨v', R, rfl, hr, hL3⟩
  obtain ⟨p3, c3, rfl⟩ := hr.shapeI
  replace hL := hL.join hL3
  clear hL3
  refine ⟨_, rfl, fun a9 HH => ?_⟩
  have H9 := HH _ (P2 12 4 rfl rfl)
  refine h_stL ((w2.heap.size, (tbC t (.slice p3 t.own.length c3)), 28) :: (R ++ [(w1.heap.size, (tbC u (.slice A2 u.own.length c2)), 28), (W.heap.size, (tbC t (.slice A t.own.length c)), 28)])) H9 rfl (wn rfl) (R_st H9 rfl rfl rfl (st_tb (t := ⟨0, 0, []⟩) (p := none) (l := 0) (c := 0) (hL.mem_at (by simp)))) ((hL.perm List.perm_middle).row _) fun _ w10 H10 hL => ?_
  refine h_o H10 rfl (R_as H10 rfl rfl) (P2 5 4 rfl rfl) fun _ H11 => ?_
  refine h_end ?_
  repeat (go_not_at_region 999; go_step)
  refine bodyPost_ret (v := .tuple #[.agg (tbC t (.slice p3 t.own.length c3)), .bool false]) (keep_results rfl (H11.getD rfl) (H11.getD rfl) hL.at_) H11.1 ?_
  rw [hy]
  exact ⟨_, R, rfl, hr, (hL.tail.perm List.perm_append_comm).dropl (X := [_, _])⟩
end
end Go.Proofs.YthkeiclhllikjaaGreat
/-
 shardkey: a key's print, its shard.
-/
namespace Go.Proofs.YthkeiclhllikjaaGreat
open Go.RowKit
def prS (n b : Nat) : Nat := ((n ^^^ b) * 1099511628211) % 18446744073709551616
def prN (l : List Nat) : Nat := l.foldl prS 14695981039346656037
def ofS (s : ByteArray) (n : Int) : Int := if n < 1 then 0 else ((prN (bytesOf s) % n.toNat : Nat) : Int)
theorem prS_val (n b : Nat) : prS n b = ((n ^^^ b) * 1099511628211) % 18446744073709551616 := rfl
theorem prS_lt (n b : Nat) : prS n b < 18446744073709551616 := Nat.mod_lt _ (by decide)
theorem prN_lt (l : List Nat) : prN l < 18446744073709551616 := by
 unfold prN
 have key : ∀ (l : List Nat) (n : Nat), n < 18446744073709551616 → l.foldl prS n < 18446744073709551616 := by
  intro l
  induction l with
  | nil => intro n h; exact h
  | cons b t ih => intro n _; exact ih _ (prS_lt n b)
 exact key l _ (by decide)
section
variable {W w : World} {s : ByteArray}
theorem ofS_in {n : Int} (h : 1 ≤ n) : 0 ≤ ofS s n ∧ ofS s n < n := by
 unfold ofS
 rw [if_neg (by omega)]
 have := Nat.mod_lt (prN (bytesOf s)) (show n.toNat > 0 by omega)
 omega
theorem B64_xorN {X Y : Operand} (x y : Nat) (hx : x < 18446744073709551616) (hy : y < 18446744073709551616) : ((do eqGuard .xor 35 X Y (.int .u64 (x : Nat)) (.int .u64 (y : Nat)); binOp .xor 35 (.int .u64 (x : Nat)) (.int .u64 (y : Nat))) : Sem Value).run Tryz.prog w = .ok (.int .u64 (x ^^^ y : Nat)) w := by
 have e := u64_xor_nat x y hx hy
 simp [go_sem, e]
theorem B64_mulP {X Y : Operand} (x : Nat) : ((do eqGuard .mul 35 X Y (.int .u64 (x : Nat)) (.int .u64 1099511628211); binOp .mul 35 (.int .u64 (x : Nat)) (.int .u64 1099511628211)) : Sem Value).run Tryz.prog w = .ok (.int .u64 (x * 1099511628211 % 18446744073709551616 : Nat)) w := by
 have e : IntKind.u64.wrap ((x : Int) * 1099511628211) = ((x * 1099511628211 % 18446744073709551616 : Nat) : Int) := by
  unfold IntKind.wrap
  simp [IntKind.signed, IntKind.bits]
 simp [go_sem, e]
theorem B64_remN {X Y : Operand} (x k : Nat) (hk : 0 < k) : ((do eqGuard .rem 35 X Y (.int .u64 (x : Nat)) (.int .u64 (k : Nat)); binOp .rem 35 (.int .u64 (x : Nat)) (.int .u64 (k : Nat))) : Sem Value).run Tryz.prog w = .ok (.int .u64 (x % k : Nat)) w := by
 have e : (x : Int).tmod k = ((x % k : Nat) : Int) := Int.tmod_eq_emod_of_nonneg (by omega)
 have e2 : (k : Int) ≠ 0 := by omega
 have e3 : ¬ k = 0 := by omega
 simp [go_sem, e, e2, e3]
theorem cv8_64 (x : Nat) (h : x < 256) : (convert 5 35 (.int .u8 (x : Nat))).run Tryz.prog w = .ok (.int .u64 (x : Nat)) w := by
 have e : IntKind.u64.wrap (x : Int) = x := u64_id (by omega) (by omega)
 simp [go_sem, e]
theorem cvi_64 (x : Nat) (h : x < 9223372036854775808) : (convert 3 35 (.int .i64 (x : Nat))).run Tryz.prog w = .ok (.int .u64 (x : Nat)) w := by
 have e : IntKind.u64.wrap (x : Int) = x := u64_id (by omega) (by omega)
 simp [go_sem, e]
theorem cv64_i (x : Nat) (h : x < 9223372036854775808) : (convert 35 3 (.int .u64 (x : Nat))).run Tryz.prog w = .ok (.int .i64 (x : Nat)) w := by
 have e : IntKind.i64.wrap (x : Int) = x := i64_id (by omega) (by omega)
 simp [go_sem, e]
theorem pr_more (f : Nat → Nat → Nat) {j : Nat} (hj : j < s.size) (n : Nat) : ((bytesOf s).take (j + 1)).foldl f n = f (((bytesOf s).take j).foldl f n) (s[j]'hj).toNat := by
 have e : (bytesOf s)[j]? = some (s[j]'hj).toNat := by
  rw [List.getElem?_eq_getElem (by simpa [bytesOf] using hj)]
  congr 1
  simp [bytesOf]
  rfl
 rw [List.take_add_one, List.foldl_append, e]
 simp only [Option.toList_some, List.foldl_cons, List.foldl_nil]
set_option maxRecDepth 100000 in
theorem print_any (hs : s.size < 140737488351233) : Calls Tryz.prog 78 #[.string s] W fun e W' => e = .returned (.int .u64 (prN (bytesOf s) : Nat)) ∧ W' = W := by
 go_enter Tryz.func78, Tryz.ntmps78
 refine wp_fr (n := 20) (m := [(0, _)]) ⟨rfl, rfl, by intro p hp; simp only [List.mem_cons, List.not_mem_nil, or_false] at hp; rcases hp with rfl <;> rfl⟩ fun a0 H0 => ?_
 repeat (go_not_at_region 0; go_step)
 refine wp_region_lit ?_
 refine h_o H0 rfl (R_as H0 rfl rfl) (P1 0 rfl) fun _ H1 => ?_
 refine h_end ?_
 repeat (go_not_at_region 1; go_step)
 refine wp_region_lit ?_
 refine h_o H1 rfl (R_as H1 rfl rfl) (P2 3 0 rfl rfl) fun _ H2 => ?_
 refine h_end ?_
 repeat (go_not_at_region 2; go_step)
 refine wp_region_lit ?_
 refine h_o H2 rfl (R_mv H2 rfl rfl) (P3 5 3 0 rfl rfl rfl) fun _ H3 => ?_
 refine h_o H3 rfl (R_len H3 rfl rfl Tryz.underlying9) (P3 6 3 0 rfl rfl rfl) fun _ H4 => ?_
 refine h_o H4 rfl (R_mv H4 rfl rfl) (P4 7 6 3 0 rfl rfl rfl rfl) fun _ H5 => ?_
 refine h_end ?_
 repeat (go_not_at_region 3; go_step)
 obtain ⟨I, hI⟩ : ∃ I : Nat → Act → World → Prop, ∀ n a' w', I n a' w' ↔ ∃ j : Nat, n = s.size - j ∧ j ≤ s.size ∧ Fr a' 20 [(0, .string s), (3, .int .u64 (((bytesOf s).take j).foldl prS 14695981039346656037 : Nat)), (6, .int .i64 (s.size : Nat)), (7, .int .i64 (j : Nat))] ∧ w' = W := ⟨_, fun _ _ _ => Iff.rfl⟩
 have HI := Lib.hid hI
 clear hI
 refine wp_loop_ghost I s.size ((HI.out _ _ _).2 ⟨0, rfl, Nat.zero_le _, H5.pick _ (P4 0 3 6 7 rfl rfl rfl rfl), rfl⟩) ?_
 intro n a1 w1 hi
 obtain ⟨j, rfl, hj, H0, rfl⟩ := (HI.out _ _ _).1 hi
 clear hi
 by_cases hjl : j < s.size
 ·repeat (go_not_at_region 3; go_step)
  refine wp_region_lit ?_
  refine h_o H0 rfl (R_bin H0 rfl rfl rfl (B_to (y := true) (B_lt Tryz.underlying3 _ _) (decide_eq_true (by omega)))) (P5 8 0 3 6 7 rfl rfl rfl rfl rfl) fun _ H1 => ?_
  refine h_end ?_
  repeat (go_not_at_region 4; go_step)
  refine wp_cond_true (H1.ev (x := .tmp 8) rfl) ?_
  have hb8 : (s[j]'hjl).toNat < 256 := UInt8.toNat_lt _
  have hmore := pr_more prS hjl 14695981039346656037
  have hnl : ((bytesOf s).take j).foldl prS 14695981039346656037 < 18446744073709551616 := prN_lt _
  generalize ((bytesOf s).take j).foldl prS 14695981039346656037 = x at hmore hnl H1
  obtain ⟨y, hy⟩ : ∃ y, y = x ^^^ (s[j]'hjl).toNat := ⟨_, rfl⟩
  have hmore2 := hmore
  rw [prS_val, ← hy] at hmore2
  repeat (go_not_at_region 4; go_step)
  refine wp_region_lit ?_
  refine h_o H1 rfl (R_mv H1 rfl rfl) (P5 9 0 3 6 7 rfl rfl rfl rfl rfl) fun _ H2 => ?_
  refine h_o H2 rfl (R_as H2 rfl rfl) (P5 4 0 3 6 7 rfl rfl rfl rfl rfl) fun _ H3 => ?_
  refine h_end ?_
  repeat (go_not_at_region 5; go_step)
  refine wp_region_lit ?_
  refine h_o H3 rfl (R_mv H3 rfl rfl) (P6 10 4 0 3 6 7 rfl rfl rfl rfl rfl rfl) fun _ H4 => ?_
  refine h_o H4 rfl (R_mv H4 rfl rfl) (P7 11 10 4 0 3 6 7 rfl rfl rfl rfl rfl rfl rfl) fun _ H5 => ?_
  refine h_o H5 rfl (R_mv H5 rfl rfl) (P7 12 11 10 0 3 6 7 rfl rfl rfl rfl rfl rfl rfl) fun _ H6 => ?_
  refine h_o H6 rfl (R_ix H6 rfl rfl rfl (ix_str hjl)) (P6 13 10 0 3 6 7 rfl rfl rfl rfl rfl rfl) fun _ H7 => ?_
  refine h_o H7 rfl (R_cv H7 rfl rfl (cv8_64 _ hb8)) (P6 14 10 0 3 6 7 rfl rfl rfl rfl rfl rfl) fun _ H8 => ?_
  refine h_o H8 rfl (R_bin H8 rfl rfl rfl (B64_xorN _ _ hnl (by omega))) (P5 15 0 3 6 7 rfl rfl rfl rfl rfl) fun _ H9 => ?_
  refine h_o H9 rfl (R_as H9 rfl rfl) (P4 3 0 6 7 rfl rfl rfl rfl) fun _ H10 => ?_
  refine h_end ?_
  rw [← hy] at H10
  repeat (go_not_at_region 6; go_step)
  refine wp_region_lit ?_
  refine h_o H10 rfl (R_mv H10 rfl rfl) (P5 16 3 0 6 7 rfl rfl rfl rfl rfl) fun _ H11 => ?_
  refine h_o H11 rfl (R_bin H11 rfl rfl rfl (B64_mulP y)) (P5 17 3 0 6 7 rfl rfl rfl rfl rfl) fun _ H12 => ?_
  refine h_o H12 rfl (R_as H12 rfl rfl) (P4 3 0 6 7 rfl rfl rfl rfl) fun _ H13 => ?_
  refine h_end ?_
  repeat (go_not_at_region 7; go_step)
  refine wp_region_lit ?_
  refine h_o H13 rfl (R_bin H13 rfl rfl rfl (B_add Tryz.underlying3 _ _ (by omega) (by omega))) (P5 18 3 0 6 7 rfl rfl rfl rfl rfl) fun _ H14 => ?_
  refine h_o H14 rfl (R_mv H14 rfl rfl) (P4 7 3 0 6 rfl rfl rfl rfl) fun _ H15 => ?_
  refine h_end ?_
  repeat (go_not_at_region 999; go_step)
  refine ⟨s.size - (j + 1), by omega, (HI.out _ _ _).2 ⟨j + 1, rfl, hjl, ?_, rfl⟩⟩
  rw [hmore2]
  exact H15.pick _ (P4 0 3 6 7 rfl rfl rfl rfl)
 ·obtain rfl : j = s.size := by omega
  repeat (go_not_at_region 3; go_step)
  refine wp_region_lit ?_
  refine h_o H0 rfl (R_bin H0 rfl rfl rfl (B_to (y := false) (B_lt Tryz.underlying3 _ _) (decide_eq_false (by omega)))) (P5 8 0 3 6 7 rfl rfl rfl rfl rfl) fun _ H1 => ?_
  refine h_end ?_
  repeat (go_not_at_region 8; go_step)
  refine wp_cond_false (H1.ev (x := .tmp 8) rfl) ?_
  repeat (go_not_at_region 8; go_step)
  refine wp_region_lit ?_
  refine h_o H1 rfl (R_mv H1 rfl rfl) (P1 19 rfl) fun _ H2 => ?_
  refine h_o H2 rfl (R_as H2 rfl rfl) (P1 2 rfl) fun _ H3 => ?_
  refine h_end ?_
  repeat (go_not_at_region 999; go_step)
  refine H3.ret1 rfl rfl ⟨?_, rfl⟩
  have hall : (bytesOf s).take s.size = bytesOf s := List.take_of_length_le (by simp [bytesOf])
  rw [hall]
  rfl
set_option maxRecDepth 100000 in
theorem of_any (hs : s.size < 140737488351233) (n : Nat) (hn : n < 9223372036854775808) : Calls Tryz.prog 57 #[.string s, .int .i64 (n : Nat)] W fun e W' => e = .returned (.int .i64 (ofS s n)) ∧ W' = W := by
 obtain ⟨y, hy⟩ : ∃ y, y = ofS s n := ⟨_, rfl⟩
 rw [← hy]
 unfold ofS at hy
 go_enter Tryz.func57, Tryz.ntmps57
 refine wp_fr (n := 13) (m := [(0, _), (1, _)]) ⟨rfl, rfl, by intro p hp; simp only [List.mem_cons, List.not_mem_nil, or_false] at hp; rcases hp with rfl | rfl <;> rfl⟩ fun a0 H0 => ?_
 repeat (go_not_at_region 0; go_step)
 refine wp_region_lit ?_
 refine h_o H0 rfl (R_as H0 rfl rfl) (P2 0 1 rfl rfl) fun _ H1 => ?_
 refine h_end ?_
 by_cases h : (n : Int) < 1
 ·rw [if_pos h] at hy
  repeat (go_not_at_region 1; go_step)
  refine wp_region_lit ?_
  refine h_o H1 rfl (R_mv H1 rfl rfl) (P1 5 rfl) fun _ H2 => ?_
  refine h_o H2 rfl (R_bin H2 rfl rfl rfl (B_to (y := true) (B_lt Tryz.underlying3 _ _) (decide_eq_true h))) (P1 6 rfl) fun _ H3 => ?_
  refine h_end ?_
  repeat (go_not_at_region 2; go_step)
  refine wp_cond_true (H3.ev (x := .tmp 6) rfl) ?_
  repeat (go_not_at_region 2; go_step)
  refine wp_region_lit ?_
  refine h_o H3 rfl (R_as H3 rfl rfl) (P1 4 rfl) fun _ H4 => ?_
  refine h_end ?_
  repeat (go_not_at_region 999; go_step)
  exact H4.ret1 rfl rfl ⟨by rw [hy], rfl⟩
 ·rw [if_neg h, Int.toNat_natCast] at hy
  have hmod := Nat.mod_lt (prN (bytesOf s)) (show n > 0 by omega)
  repeat (go_not_at_region 1; go_step)
  refine wp_region_lit ?_
  refine h_o H1 rfl (R_mv H1 rfl rfl) (P3 5 0 1 rfl rfl rfl) fun _ H2 => ?_
  refine h_o H2 rfl (R_bin H2 rfl rfl rfl (B_to (y := false) (B_lt Tryz.underlying3 _ _) (decide_eq_false h))) (P3 6 0 1 rfl rfl rfl) fun _ H3 => ?_
  refine h_end ?_
  repeat (go_not_at_region 3; go_step)
  refine wp_cond_false (H3.ev (x := .tmp 6) rfl) ?_
  repeat (go_not_at_region 3; go_step)
  refine wp_region_lit ?_
  refine h_o H3 rfl (R_mv H3 rfl rfl) (P2 7 1 rfl rfl) fun _ H4 => ?_
  refine h_call H4 rfl (wn rfl) (R_call1 H4 rfl rfl (fun w => by simp [go_sem])) rfl ?_
  refine (print_any hs).mono ?_
  rintro e wx ⟨rfl, rfl⟩
  refine ⟨_, rfl, fun a5 HH => ?_⟩
  have H5 := HH _ (P2 8 1 rfl rfl)
  refine h_o H5 rfl (R_mv H5 rfl rfl) (P2 9 8 rfl rfl) fun _ H6 => ?_
  refine h_o H6 rfl (R_cv H6 rfl rfl (cvi_64 n hn)) (P2 10 8 rfl rfl) fun _ H7 => ?_
  refine h_o H7 rfl (R_bin H7 rfl rfl rfl (B64_remN _ n (by omega))) (P1 11 rfl) fun _ H8 => ?_
  refine h_o H8 rfl (R_cv H8 rfl rfl (cv64_i _ (by omega))) (P1 12 rfl) fun _ H9 => ?_
  refine h_o H9 rfl (R_as H9 rfl rfl) (P1 4 rfl) fun _ H10 => ?_
  refine h_end ?_
  repeat (go_not_at_region 999; go_step)
  exact H10.ret1 rfl rfl ⟨by rw [hy], rfl⟩
end
end Go.Proofs.YthkeiclhllikjaaGreat
