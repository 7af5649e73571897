/-
  Small steps; span; keys and codes.
-/
import Derived.Test.YtnjfjdfjheiocaaGreatShA
import Derived.Test.YtnjfjdfjheiocaaGreatMsgFk
import Derived.Deep.Cut
import Derived.LoopTactic
import Derived.Lib.Hide
import Derived.Tactics
import Derived.Tactics2
set_option linter.unusedSimpArgs false
set_option linter.unusedVariables false
namespace Go.Proofs.YtnjfjdfjheiocaaGreat
open Go.RowKit
theorem i64_id {n : Int} (h0 : -9223372036854775808 ≤ n) (h1 : n < 9223372036854775808) : IntKind.i64.wrap n = n := by
  simp only [IntKind.wrap, show IntKind.i64.bits = 64 from rfl, show IntKind.i64.signed = true from rfl, Bool.true_and, decide_eq_true_eq, ge_iff_le]
  omega
section
variable {P : Program} {a : Act} {w w' : World} {n : Nat} {m : List (Nat × Value)} {o : Oper} {v : Value}
theorem R_callV1 {f : FuncId} {ts : Array TypeId} {x0 x1 : Operand} {cap : Array Value} {v1 : Value} (H : Fr a n m) (ho : o.op = .call { callee := .value x0, args := #[x1], argTypes := ts }) (h0 : ev1 m x0 = some (.func (.func f) #[] cap)) (h1 : ev1 m x1 = some v1) (hf : ∀ w : World, (callFunc f (#[v1] ++ cap)).run P w = .ok (.enter f (#[v1] ++ cap)) w) : (execOp a.eval o).run P w = .ok (.enter f (#[v1] ++ cap)) w := by
  have e0 := H.ev h0
  have e1 := H.ev h1
  unfold execOp
  rw [ho]
  generalize a.eval = ρ at *
  simp [resolve, invoke, go_sem, e0, e1, hf]
theorem R_mf {f : FuncId} {x : Operand} {vx : Value} (H : Fr a n m) (ho : o.op = .makeFunc (.func f) #[] #[x]) (hx : ev1 m x = some vx) : (execOp a.eval o).run P w = .ok (.value (.func (.func f) #[] #[vx])) w := by
  have e1 := H.ev hx
  unfold execOp
  rw [ho]
  generalize a.eval = ρ at *
  simp only [List.map_toArray, List.map_cons, List.map_nil, e1]
  exact fr_v rfl
end
theorem R_nc {P : Program} {a : Act} {w : World} {n : Nat} {m : List (Nat × Value)} {o : Oper} {x : Operand} {p : Addr} (H : Fr a n m) (ho : o.op = .nilCheck x) (hx : ev1 m x = some (.pointer (some p))) : (execOp a.eval o).run P w = .ok (.value (.pointer (some p))) w := by
  have e1 := H.ev hx
  unfold execOp
  rw [ho]
  simp only [e1]
  rfl
theorem B_ne {t : TypeId} (ht : Tryz.prog.underlying t = some (.int .i64)) {X Y : Operand} {w : World} (x y : Int) : ((do eqGuard .neq t X Y (.int .i64 x) (.int .i64 y); binOp .neq t (.int .i64 x) (.int .i64 y)) : Sem Value).run Tryz.prog w = .ok (.bool (x != y)) w := by simp [go_sem, ht]
theorem B_eq {t : TypeId} (ht : Tryz.prog.underlying t = some (.int .i64)) {X Y : Operand} {w : World} (x y : Int) : ((do eqGuard .eql t X Y (.int .i64 x) (.int .i64 y); binOp .eql t (.int .i64 x) (.int .i64 y)) : Sem Value).run Tryz.prog w = .ok (.bool (x == y)) w := by simp [go_sem, ht]
theorem B_gt {t : TypeId} (ht : Tryz.prog.underlying t = some (.int .i64)) {X Y : Operand} {w : World} (x y : Int) : ((do eqGuard .gtr t X Y (.int .i64 x) (.int .i64 y); binOp .gtr t (.int .i64 x) (.int .i64 y)) : Sem Value).run Tryz.prog w = .ok (.bool (decide (x > y))) w := by simp [go_sem, ht]
theorem B_ge {t : TypeId} (ht : Tryz.prog.underlying t = some (.int .i64)) {X Y : Operand} {w : World} (x y : Int) : ((do eqGuard .geq t X Y (.int .i64 x) (.int .i64 y); binOp .geq t (.int .i64 x) (.int .i64 y)) : Sem Value).run Tryz.prog w = .ok (.bool (decide (x ≥ y))) w := by simp [go_sem, ht]
theorem B_le {t : TypeId} (ht : Tryz.prog.underlying t = some (.int .i64)) {X Y : Operand} {w : World} (x y : Int) : ((do eqGuard .leq t X Y (.int .i64 x) (.int .i64 y); binOp .leq t (.int .i64 x) (.int .i64 y)) : Sem Value).run Tryz.prog w = .ok (.bool (decide (x ≤ y))) w := by simp [go_sem, ht]
theorem B_lt {t : TypeId} (ht : Tryz.prog.underlying t = some (.int .i64)) {X Y : Operand} {w : World} (x y : Int) : ((do eqGuard .lss t X Y (.int .i64 x) (.int .i64 y); binOp .lss t (.int .i64 x) (.int .i64 y)) : Sem Value).run Tryz.prog w = .ok (.bool (decide (x < y))) w := by simp [go_sem, ht]
theorem B_add {t : TypeId} (ht : Tryz.prog.underlying t = some (.int .i64)) {X Y : Operand} {w : World} (x y : Int) (h0 : -9223372036854775808 ≤ x + y) (h1 : x + y < 9223372036854775808) : ((do eqGuard .add t X Y (.int .i64 x) (.int .i64 y); binOp .add t (.int .i64 x) (.int .i64 y)) : Sem Value).run Tryz.prog w = .ok (.int .i64 (x + y)) w := by
  have e : IntKind.i64.wrap (x + y) = x + y := i64_id h0 h1
  simp [go_sem, ht, e]
theorem B_to {s : Sem Value} {w w' : World} {x y : Bool} (h : s.run Tryz.prog w = .ok (.bool x) w') (e : x = y) : s.run Tryz.prog w = .ok (.bool y) w' := e ▸ h
/-! A table's cells. -/

section
variable {w W : World}
theorem B_rem10 {A B : Operand} (z : Int) : ((do eqGuard .rem 2 A B (.int .i64 z) (.int .i64 10); binOp .rem 2 (.int .i64 z) (.int .i64 10)) : Sem Value).run Tryz.prog w = .ok (.int .i64 (z.tmod 10)) w := by
  have h1 := Int.tmod_lt_of_pos z (show (0 : Int) < 10 by decide)
  have h2 := Int.lt_tmod_of_pos z (show (0 : Int) < 10 by decide)
  have e : IntKind.wrap .i64 (z.tmod 10) = z.tmod 10 := i64_id (by omega) (by omega)
  simp [go_sem, e]
theorem B_subL {A B : Operand} (x y : Int) (h0 : -9223372036854775808 ≤ x - y) (h1 : x - y < 9223372036854775808) : ((do eqGuard .sub 2 A B (.int .i64 x) (.int .i64 y); binOp .sub 2 (.int .i64 x) (.int .i64 y)) : Sem Value).run Tryz.prog w = .ok (.int .i64 (x - y)) w := by
  have e : IntKind.wrap .i64 (x - y) = x - y := i64_id (by omega) (by omega)
  simp [go_sem, e]
def rightI (t : Int) : Bool := decide (t ≥ 0) && decide (t ≤ 1099511627776)
def startI (t : Int) : Int := if rightI t then t - t.tmod 10 else -1
def endI (s : Int) : Int := if !rightI s || (s.tmod 10 != 0) then -1 else s + 10
def overI (s m : Int) : Bool := decide (endI s ≥ 0) && rightI m && decide (endI s + 5 ≤ m)
def lateI (t m : Int) : Bool := rightI t && overI (startI t) m
def keyB (s : ByteArray) : Bool := decide ((s.size : Int) ≥ 1) && decide ((s.size : Int) ≤ 16)
def codeB (n : Int) : Bool := decide (n ≥ 1) && decide (n ≤ 4)
theorem rightI_le {t : Int} (h : rightI t = true) : 0 ≤ t ∧ t ≤ 1099511627776 := by
  unfold rightI at h
  simp only [Bool.and_eq_true, decide_eq_true_eq] at h
  omega
theorem endI_le (s : Int) : -1 ≤ endI s ∧ endI s ≤ 1099511627786 := by
  unfold endI
  split
  · omega
  · rename_i h
    simp only [Bool.or_eq_true, Bool.not_eq_true', not_or, Bool.not_eq_false] at h
    have := rightI_le h.1
    omega
set_option maxRecDepth 100000 in
theorem rightI_any (t : Int) (W : World) : Calls Tryz.prog 77 #[.int .i64 t] W fun e W' => e = .returned (.bool (rightI t)) ∧ W' = W := by
  have hL : W = W := rfl
  go_enter Tryz.func77, Tryz.ntmps77
  refine wp_fr (n := 9) (m := [(0, _)]) ⟨rfl, rfl, by intro p hp; simp only [List.mem_cons, List.not_mem_nil, or_false] at hp; rcases hp with rfl <;> rfl⟩ fun a0 H0 => ?_
  repeat (go_not_at_region 0; go_step)
  refine wp_region_lit ?_
  refine h_op H0 rfl (wn rfl) (R_as H0 rfl rfl) rfl (P1 0 rfl) fun a1 H1 => ?_
  clear H0
  refine h_end ?_
  repeat (go_not_at_region 1; go_step)
  refine wp_region_lit ?_
  refine h_op H1 rfl (wn rfl) (R_mv H1 rfl rfl) rfl (P2 3 0 rfl rfl) fun a2 H2 => ?_
  clear H1
  refine h_op H2 rfl (wn rfl) (R_bin H2 rfl rfl rfl (B_ge Tryz.underlying2 _ _)) rfl (P2 4 0 rfl rfl) fun a3 H3 => ?_
  clear H2
  refine h_op H3 rfl (wn rfl) (R_mv H3 rfl rfl) rfl (P2 5 0 rfl rfl) fun a4 H4 => ?_
  clear H3
  replace H4 := H4.pick [(0, .int .i64 t), (5, .bool (decide (t ≥ 0)))] (P2 0 5 rfl rfl)
  generalize ht0 : (decide (t ≥ 0)) = t0 at H4
  refine wpList_cut [_, _, _] (R := fun a' w' => Fr a' 9 [(0, .int .i64 t), (8, .bool (t0 && (decide (t ≤ 1099511627776))))] ∧ w' = W) ?_ ?_
  · cases t0
    · refine h_skip H4 rfl (H4.wf rfl rfl rfl) rfl (P3 6 0 5 rfl rfl rfl) fun a5 H5 => ?_
      clear H4
      refine h_skip H5 rfl (H5.wf rfl rfl rfl) rfl (P3 7 0 5 rfl rfl rfl) fun a6 H6 => ?_
      clear H5
      refine h_op H6 rfl (wn rfl) (R_pick H6 rfl rfl rfl) rfl (P2 8 0 rfl rfl) fun a7 H7 => ?_
      clear H6
      exact h_end ⟨H7.pick _ (P2 0 8 rfl rfl), hL⟩
    · refine h_op H4 rfl (H4.wt rfl rfl rfl) (R_mv H4 rfl rfl) rfl (P3 6 0 5 rfl rfl rfl) fun a5 H5 => ?_
      clear H4
      refine h_op H5 rfl (H5.wt rfl rfl rfl) (R_bin H5 rfl rfl rfl (B_le Tryz.underlying2 _ _)) rfl (P3 7 0 5 rfl rfl rfl) fun a6 H6 => ?_
      clear H5
      refine h_op H6 rfl (wn rfl) (R_pick H6 rfl rfl rfl) rfl (P2 8 0 rfl rfl) fun a7 H7 => ?_
      clear H6
      exact h_end ⟨H7.pick _ (P2 0 8 rfl rfl), hL⟩
  clear hL H4
  rintro a8 wx ⟨H8, hL⟩
  generalize ht1 : (t0 && (decide (t ≤ 1099511627776))) = t1 at H8
  refine h_op H8 rfl (wn rfl) (R_as H8 rfl rfl) rfl (P1 2 rfl) fun a9 H9 => ?_
  clear H8
  refine h_end ?_
  repeat (go_not_at_region 999; go_step)
  exact H9.ret1 rfl rfl ⟨by rw [← ht1, ← ht0]; rfl, hL⟩
set_option maxRecDepth 100000 in
theorem startI_any (t : Int) (W : World) : Calls Tryz.prog 114 #[.int .i64 t] W fun e W' => e = .returned (.int .i64 (startI t)) ∧ W' = W := by
  have hL : W = W := rfl
  go_enter Tryz.func114, Tryz.ntmps114
  refine wp_fr (n := 10) (m := [(0, _)]) ⟨rfl, rfl, by intro p hp; simp only [List.mem_cons, List.not_mem_nil, or_false] at hp; rcases hp with rfl <;> rfl⟩ fun a0 H0 => ?_
  repeat (go_not_at_region 0; go_step)
  refine wp_region_lit ?_
  refine h_op H0 rfl (wn rfl) (R_as H0 rfl rfl) rfl (P1 0 rfl) fun a1 H1 => ?_
  clear H0
  refine h_end ?_
  cases h : rightI t
  · repeat (go_not_at_region 1; go_step)
    refine wp_region_lit ?_
    refine h_op H1 rfl (wn rfl) (R_mv H1 rfl rfl) rfl (P2 3 0 rfl rfl) fun a2 H2 => ?_
    clear H1
    refine h_call H2 rfl (wn rfl) (R_call1 H2 rfl rfl (fun w => by simp [go_sem])) rfl ?_
    refine (rightI_any t _).mono ?_
    rintro e w3 ⟨rfl, hw⟩
    replace hL := hw.trans hL
    clear hw
    rw [h]
    refine ⟨_, rfl, fun a3 HH => ?_⟩
    have H3 := HH _ (P2 4 0 rfl rfl)
    clear HH H2
    refine h_op H3 rfl (wn rfl) (R_not H3 rfl rfl) rfl (P2 5 0 rfl rfl) fun a4 H4 => ?_
    clear H3
    refine h_end ?_
    repeat (go_not_at_region 2; go_step)
    refine wp_cond_true (H4.ev (x := .tmp 5) rfl) ?_
    repeat (go_not_at_region 2; go_step)
    refine wp_region_lit ?_
    refine h_op H4 rfl (wn rfl) (R_as H4 rfl rfl) rfl (P1 2 rfl) fun a5 H5 => ?_
    clear H4
    refine h_end ?_
    repeat (go_not_at_region 999; go_step)
    exact H5.ret1 rfl rfl ⟨by unfold startI; rw [h]; rfl, hL⟩
  · have hr := rightI_le h
    have h1 := Int.tmod_lt_of_pos t (show (0 : Int) < 10 by decide)
    have h2 := Int.tmod_nonneg 10 hr.1
    repeat (go_not_at_region 1; go_step)
    refine wp_region_lit ?_
    refine h_op H1 rfl (wn rfl) (R_mv H1 rfl rfl) rfl (P2 3 0 rfl rfl) fun a2 H2 => ?_
    clear H1
    refine h_call H2 rfl (wn rfl) (R_call1 H2 rfl rfl (fun w => by simp [go_sem])) rfl ?_
    refine (rightI_any t _).mono ?_
    rintro e w3 ⟨rfl, hw⟩
    replace hL := hw.trans hL
    clear hw
    rw [h]
    refine ⟨_, rfl, fun a3 HH => ?_⟩
    have H3 := HH _ (P2 4 0 rfl rfl)
    clear HH H2
    refine h_op H3 rfl (wn rfl) (R_not H3 rfl rfl) rfl (P2 5 0 rfl rfl) fun a4 H4 => ?_
    clear H3
    refine h_end ?_
    repeat (go_not_at_region 3; go_step)
    refine wp_cond_false (H4.ev (x := .tmp 5) rfl) ?_
    repeat (go_not_at_region 3; go_step)
    refine wp_region_lit ?_
    refine h_op H4 rfl (wn rfl) (R_mv H4 rfl rfl) rfl (P2 6 0 rfl rfl) fun a5 H5 => ?_
    clear H4
    refine h_op H5 rfl (wn rfl) (R_mv H5 rfl rfl) rfl (P2 7 6 rfl rfl) fun a6 H6 => ?_
    clear H5
    refine h_op H6 rfl (wn rfl) (R_bin H6 rfl rfl rfl (B_rem10 _)) rfl (P2 8 6 rfl rfl) fun a7 H7 => ?_
    clear H6
    refine h_op H7 rfl (wn rfl) (R_bin H7 rfl rfl rfl (B_subL _ _ (by omega) (by omega))) rfl (P1 9 rfl) fun a8 H8 => ?_
    clear H7
    refine h_op H8 rfl (wn rfl) (R_as H8 rfl rfl) rfl (P1 2 rfl) fun a9 H9 => ?_
    clear H8
    refine h_end ?_
    repeat (go_not_at_region 999; go_step)
    exact H9.ret1 rfl rfl ⟨by unfold startI; rw [h]; rfl, hL⟩
set_option maxRecDepth 100000 in
theorem endI_any (s : Int) (W : World) : Calls Tryz.prog 98 #[.int .i64 s] W fun e W' => e = .returned (.int .i64 (endI s)) ∧ W' = W := by
  have hL : W = W := rfl
  obtain ⟨y, hy⟩ : ∃ y, y = endI s := ⟨_, rfl⟩
  rw [← hy]
  go_enter Tryz.func98, Tryz.ntmps98
  refine wp_fr (n := 13) (m := [(0, _)]) ⟨rfl, rfl, by intro p hp; simp only [List.mem_cons, List.not_mem_nil, or_false] at hp; rcases hp with rfl <;> rfl⟩ fun a0 H0 => ?_
  repeat (go_not_at_region 0; go_step)
  refine wp_region_lit ?_
  refine h_op H0 rfl (wn rfl) (R_as H0 rfl rfl) rfl (P1 0 rfl) fun a1 H1 => ?_
  clear H0
  refine h_end ?_
  repeat (go_not_at_region 1; go_step)
  refine wp_region_lit ?_
  refine h_op H1 rfl (wn rfl) (R_mv H1 rfl rfl) rfl (P2 3 0 rfl rfl) fun a2 H2 => ?_
  clear H1
  refine h_call H2 rfl (wn rfl) (R_call1 H2 rfl rfl (fun w => by simp [go_sem])) rfl ?_
  refine (rightI_any s _).mono ?_
  rintro e w3 ⟨rfl, hw⟩
  replace hL := hw.trans hL
  clear hw
  refine ⟨_, rfl, fun a3 HH => ?_⟩
  have H3 := HH _ (P2 4 0 rfl rfl)
  clear HH H2
  refine h_op H3 rfl (wn rfl) (R_not H3 rfl rfl) rfl (P2 5 0 rfl rfl) fun a4 H4 => ?_
  clear H3
  refine h_op H4 rfl (wn rfl) (R_mv H4 rfl rfl) rfl (P2 6 0 rfl rfl) fun a5 H5 => ?_
  clear H4
  replace H5 := H5.pick [(0, .int .i64 s), (6, .bool (!(rightI s)))] (P2 0 6 rfl rfl)
  generalize ht0 : (!(rightI s)) = t0 at H5
  refine wpList_cut [_, _, _, _] (R := fun a' w' => Fr a' 13 [(0, .int .i64 s), (10, .bool (t0 || (s.tmod 10 != 0)))] ∧ w' = W) ?_ ?_
  · cases t0
    · refine h_op H5 rfl (H5.wt rfl rfl rfl) (R_mv H5 rfl rfl) rfl (P3 7 0 6 rfl rfl rfl) fun a6 H6 => ?_
      clear H5
      refine h_op H6 rfl (H6.wt rfl rfl rfl) (R_bin H6 rfl rfl rfl (B_rem10 _)) rfl (P3 8 0 6 rfl rfl rfl) fun a7 H7 => ?_
      clear H6
      refine h_op H7 rfl (H7.wt rfl rfl rfl) (R_bin H7 rfl rfl rfl (B_ne Tryz.underlying2 _ _)) rfl (P3 9 0 6 rfl rfl rfl) fun a8 H8 => ?_
      clear H7
      refine h_op H8 rfl (wn rfl) (R_pick H8 rfl rfl rfl) rfl (P2 10 0 rfl rfl) fun a9 H9 => ?_
      clear H8
      exact h_end ⟨H9.pick _ (P2 0 10 rfl rfl), hL⟩
    · refine h_skip H5 rfl (H5.wf rfl rfl rfl) rfl (P3 7 0 6 rfl rfl rfl) fun a6 H6 => ?_
      clear H5
      refine h_skip H6 rfl (H6.wf rfl rfl rfl) rfl (P3 8 0 6 rfl rfl rfl) fun a7 H7 => ?_
      clear H6
      refine h_skip H7 rfl (H7.wf rfl rfl rfl) rfl (P3 9 0 6 rfl rfl rfl) fun a8 H8 => ?_
      clear H7
      refine h_op H8 rfl (wn rfl) (R_pick H8 rfl rfl rfl) rfl (P2 10 0 rfl rfl) fun a9 H9 => ?_
      clear H8
      exact h_end ⟨H9.pick _ (P2 0 10 rfl rfl), hL⟩
  clear hL H5
  rintro a10 wx ⟨H10, hL⟩
  generalize ht1 : (t0 || (s.tmod 10 != 0)) = t1 at H10
  refine h_end ?_
  have he : y = if t1 = true then -1 else s + 10 := by
    rw [hy]
    unfold endI
    rw [← ht1, ← ht0]
  cases t1
  rotate_left
  · repeat (go_not_at_region 2; go_step)
    refine wp_cond_true (H10.ev (x := .tmp 10) rfl) ?_
    repeat (go_not_at_region 2; go_step)
    refine wp_region_lit ?_
    refine h_op H10 rfl (wn rfl) (R_as H10 rfl rfl) rfl (P1 2 rfl) fun a11 H11 => ?_
    clear H10
    refine h_end ?_
    repeat (go_not_at_region 999; go_step)
    exact H11.ret1 rfl rfl ⟨by rw [he]; rfl, hL⟩
  have hr := rightI_le (t := s) (by rw [← ht0] at ht1; simpa using (Bool.or_eq_false_iff.1 ht1).1)
  repeat (go_not_at_region 3; go_step)
  refine wp_cond_false (H10.ev (x := .tmp 10) rfl) ?_
  repeat (go_not_at_region 3; go_step)
  refine wp_region_lit ?_
  refine h_op H10 rfl (wn rfl) (R_mv H10 rfl rfl) rfl (P1 11 rfl) fun a11 H11 => ?_
  clear H10
  refine h_op H11 rfl (wn rfl) (R_bin H11 rfl rfl rfl (B_add Tryz.underlying2 _ _ (by omega) (by omega))) rfl (P1 12 rfl) fun a12 H12 => ?_
  clear H11
  refine h_op H12 rfl (wn rfl) (R_as H12 rfl rfl) rfl (P1 2 rfl) fun a13 H13 => ?_
  clear H12
  refine h_end ?_
  repeat (go_not_at_region 999; go_step)
  exact H13.ret1 rfl rfl ⟨by rw [he]; rfl, hL⟩
set_option maxRecDepth 100000 in
theorem overI_any (s m : Int) (W : World) : Calls Tryz.prog 78 #[.int .i64 s, .int .i64 m] W fun e W' => e = .returned (.bool (overI s m)) ∧ W' = W := by
  have hL : W = W := rfl
  go_enter Tryz.func78, Tryz.ntmps78
  have hel := endI_le s
  refine wp_fr (n := 20) (m := [(0, _), (1, _)]) ⟨rfl, rfl, by intro p hp; simp only [List.mem_cons, List.not_mem_nil, or_false] at hp; rcases hp with rfl | rfl <;> rfl⟩ fun a0 H0 => ?_
  repeat (go_not_at_region 0; go_step)
  refine wp_region_lit ?_
  refine h_op H0 rfl (wn rfl) (R_as H0 rfl rfl) rfl (P2 0 1 rfl rfl) fun a1 H1 => ?_
  clear H0
  refine h_end ?_
  repeat (go_not_at_region 1; go_step)
  refine wp_region_lit ?_
  refine h_op H1 rfl (wn rfl) (R_mv H1 rfl rfl) rfl (P2 6 1 rfl rfl) fun a2 H2 => ?_
  clear H1
  refine h_call H2 rfl (wn rfl) (R_call1 H2 rfl rfl (fun w => by simp [go_sem])) rfl ?_
  refine (endI_any s _).mono ?_
  rintro e w3 ⟨rfl, hw⟩
  replace hL := hw.trans hL
  clear hw
  refine ⟨_, rfl, fun a3 HH => ?_⟩
  have H3 := HH _ (P2 7 1 rfl rfl)
  clear HH H2
  refine h_op H3 rfl (wn rfl) (R_as H3 rfl rfl) rfl (P2 5 1 rfl rfl) fun a4 H4 => ?_
  clear H3
  refine h_end ?_
  repeat (go_not_at_region 2; go_step)
  refine wp_region_lit ?_
  refine h_op H4 rfl (wn rfl) (R_mv H4 rfl rfl) rfl (P3 8 5 1 rfl rfl rfl) fun a5 H5 => ?_
  clear H4
  refine h_op H5 rfl (wn rfl) (R_bin H5 rfl rfl rfl (B_ge Tryz.underlying2 _ _)) rfl (P3 9 5 1 rfl rfl rfl) fun a6 H6 => ?_
  clear H5
  refine h_op H6 rfl (wn rfl) (R_mv H6 rfl rfl) rfl (P3 10 5 1 rfl rfl rfl) fun a7 H7 => ?_
  clear H6
  replace H7 := H7.pick [(1, .int .i64 m), (5, .int .i64 (endI s)), (10, .bool (decide (endI s ≥ 0)))] (P3 1 5 10 rfl rfl rfl)
  generalize ht0 : (decide (endI s ≥ 0)) = t0 at H7
  refine wpList_cut [_, _, _, _] (R := fun a' w' => Fr a' 20 [(1, .int .i64 m), (5, .int .i64 (endI s)), (14, .bool (t0 && (rightI m)))] ∧ w' = W) ?_ ?_
  · cases t0
    · refine h_skip H7 rfl (H7.wf rfl rfl rfl) rfl (P4 11 1 5 10 rfl rfl rfl rfl) fun a8 H8 => ?_
      clear H7
      refine h_skip H8 rfl (H8.wf rfl rfl rfl) rfl (P4 12 1 5 10 rfl rfl rfl rfl) fun a9 H9 => ?_
      clear H8
      refine h_op H9 rfl (wn rfl) (R_pick H9 rfl rfl rfl) rfl (P3 13 1 5 rfl rfl rfl) fun a10 H10 => ?_
      clear H9
      refine h_op H10 rfl (wn rfl) (R_mv H10 rfl rfl) rfl (P3 14 1 5 rfl rfl rfl) fun a11 H11 => ?_
      clear H10
      exact h_end ⟨H11.pick _ (P3 1 5 14 rfl rfl rfl), hL⟩
    · refine h_op H7 rfl (H7.wt rfl rfl rfl) (R_mv H7 rfl rfl) rfl (P4 11 1 5 10 rfl rfl rfl rfl) fun a8 H8 => ?_
      clear H7
      refine h_call H8 rfl (H8.wt rfl rfl rfl) (R_call1 H8 rfl rfl (fun w => by simp [go_sem])) rfl ?_
      refine (rightI_any m _).mono ?_
      rintro e w9 ⟨rfl, hw⟩
      replace hL := hw.trans hL
      clear hw
      refine ⟨_, rfl, fun a9 HH => ?_⟩
      have H9 := HH _ (P4 12 1 5 10 rfl rfl rfl rfl)
      clear HH H8
      refine h_op H9 rfl (wn rfl) (R_pick H9 rfl rfl rfl) rfl (P3 13 1 5 rfl rfl rfl) fun a10 H10 => ?_
      clear H9
      refine h_op H10 rfl (wn rfl) (R_mv H10 rfl rfl) rfl (P3 14 1 5 rfl rfl rfl) fun a11 H11 => ?_
      clear H10
      exact h_end ⟨H11.pick _ (P3 1 5 14 rfl rfl rfl), hL⟩
  clear hL H7
  rintro a12 wx ⟨H12, hL⟩
  generalize ht1 : (t0 && (rightI m)) = t1 at H12
  refine wpList_cut [_, _, _, _, _] (R := fun a' w' => Fr a' 20 [(1, .int .i64 m), (5, .int .i64 (endI s)), (19, .bool (t1 && (decide (endI s + 5 ≤ m))))] ∧ w' = W) ?_ ?_
  · cases t1
    · refine h_skip H12 rfl (H12.wf rfl rfl rfl) rfl (P4 15 1 5 14 rfl rfl rfl rfl) fun a13 H13 => ?_
      clear H12
      refine h_skip H13 rfl (H13.wf rfl rfl rfl) rfl (P4 16 1 5 14 rfl rfl rfl rfl) fun a14 H14 => ?_
      clear H13
      refine h_skip H14 rfl (H14.wf rfl rfl rfl) rfl (P5 17 16 1 5 14 rfl rfl rfl rfl rfl) fun a15 H15 => ?_
      clear H14
      refine h_skip H15 rfl (H15.wf rfl rfl rfl) rfl (P4 18 1 5 14 rfl rfl rfl rfl) fun a16 H16 => ?_
      clear H15
      refine h_op H16 rfl (wn rfl) (R_pick H16 rfl rfl rfl) rfl (P3 19 1 5 rfl rfl rfl) fun a17 H17 => ?_
      clear H16
      exact h_end ⟨H17.pick _ (P3 1 5 19 rfl rfl rfl), hL⟩
    · refine h_op H12 rfl (H12.wt rfl rfl rfl) (R_mv H12 rfl rfl) rfl (P4 15 1 5 14 rfl rfl rfl rfl) fun a13 H13 => ?_
      clear H12
      refine h_op H13 rfl (H13.wt rfl rfl rfl) (R_bin H13 rfl rfl rfl (B_add Tryz.underlying2 _ _ (by omega) (by omega))) rfl (P4 16 1 5 14 rfl rfl rfl rfl) fun a14 H14 => ?_
      clear H13
      refine h_op H14 rfl (H14.wt rfl rfl rfl) (R_mv H14 rfl rfl) rfl (P5 17 16 1 5 14 rfl rfl rfl rfl rfl) fun a15 H15 => ?_
      clear H14
      refine h_op H15 rfl (H15.wt rfl rfl rfl) (R_bin H15 rfl rfl rfl (B_le Tryz.underlying2 _ _)) rfl (P4 18 1 5 14 rfl rfl rfl rfl) fun a16 H16 => ?_
      clear H15
      refine h_op H16 rfl (wn rfl) (R_pick H16 rfl rfl rfl) rfl (P3 19 1 5 rfl rfl rfl) fun a17 H17 => ?_
      clear H16
      exact h_end ⟨H17.pick _ (P3 1 5 19 rfl rfl rfl), hL⟩
  clear hL H12
  rintro a18 wx ⟨H18, hL⟩
  generalize ht2 : (t1 && (decide (endI s + 5 ≤ m))) = t2 at H18
  refine h_op H18 rfl (wn rfl) (R_as H18 rfl rfl) rfl (P1 4 rfl) fun a19 H19 => ?_
  clear H18
  refine h_end ?_
  repeat (go_not_at_region 999; go_step)
  exact H19.ret1 rfl rfl ⟨by rw [← ht2, ← ht1, ← ht0]; rfl, hL⟩
set_option maxRecDepth 100000 in
theorem lateI_any (t m : Int) (W : World) : Calls Tryz.prog 90 #[.int .i64 t, .int .i64 m] W fun e W' => e = .returned (.bool (lateI t m)) ∧ W' = W := by
  have hL : W = W := rfl
  go_enter Tryz.func90, Tryz.ntmps90
  refine wp_fr (n := 13) (m := [(0, _), (1, _)]) ⟨rfl, rfl, by intro p hp; simp only [List.mem_cons, List.not_mem_nil, or_false] at hp; rcases hp with rfl | rfl <;> rfl⟩ fun a0 H0 => ?_
  repeat (go_not_at_region 0; go_step)
  refine wp_region_lit ?_
  refine h_op H0 rfl (wn rfl) (R_as H0 rfl rfl) rfl (P2 0 1 rfl rfl) fun a1 H1 => ?_
  clear H0
  refine h_end ?_
  repeat (go_not_at_region 1; go_step)
  refine wp_region_lit ?_
  refine h_op H1 rfl (wn rfl) (R_mv H1 rfl rfl) rfl (P3 5 0 1 rfl rfl rfl) fun a2 H2 => ?_
  clear H1
  refine h_call H2 rfl (wn rfl) (R_call1 H2 rfl rfl (fun w => by simp [go_sem])) rfl ?_
  refine (rightI_any t _).mono ?_
  rintro e w3 ⟨rfl, hw⟩
  replace hL := hw.trans hL
  clear hw
  refine ⟨_, rfl, fun a3 HH => ?_⟩
  have H3 := HH _ (P3 6 0 1 rfl rfl rfl)
  clear HH H2
  refine h_op H3 rfl (wn rfl) (R_mv H3 rfl rfl) rfl (P3 7 0 1 rfl rfl rfl) fun a4 H4 => ?_
  clear H3
  replace H4 := H4.pick [(0, .int .i64 t), (1, .int .i64 m), (7, .bool (rightI t))] (P3 0 1 7 rfl rfl rfl)
  generalize ht0 : (rightI t) = t0 at H4
  refine wpList_cut [_, _, _, _, _] (R := fun a' w' => Fr a' 13 [(0, .int .i64 t), (1, .int .i64 m), (12, .bool (t0 && (overI (startI t) m)))] ∧ w' = W) ?_ ?_
  · cases t0
    · refine h_skip H4 rfl (H4.wf rfl rfl rfl) rfl (P4 8 0 1 7 rfl rfl rfl rfl) fun a5 H5 => ?_
      clear H4
      refine h_skip H5 rfl (H5.wf rfl rfl rfl) rfl (P4 9 0 1 7 rfl rfl rfl rfl) fun a6 H6 => ?_
      clear H5
      refine h_skip H6 rfl (H6.wf rfl rfl rfl) rfl (P5 10 9 0 1 7 rfl rfl rfl rfl rfl) fun a7 H7 => ?_
      clear H6
      refine h_skip H7 rfl (H7.wf rfl rfl rfl) rfl (P4 11 0 1 7 rfl rfl rfl rfl) fun a8 H8 => ?_
      clear H7
      refine h_op H8 rfl (wn rfl) (R_pick H8 rfl rfl rfl) rfl (P3 12 0 1 rfl rfl rfl) fun a9 H9 => ?_
      clear H8
      exact h_end ⟨H9.pick _ (P3 0 1 12 rfl rfl rfl), hL⟩
    · refine h_op H4 rfl (H4.wt rfl rfl rfl) (R_mv H4 rfl rfl) rfl (P4 8 0 1 7 rfl rfl rfl rfl) fun a5 H5 => ?_
      clear H4
      refine h_call H5 rfl (H5.wt rfl rfl rfl) (R_call1 H5 rfl rfl (fun w => by simp [go_sem])) rfl ?_
      refine (startI_any t _).mono ?_
      rintro e w6 ⟨rfl, hw⟩
      replace hL := hw.trans hL
      clear hw
      refine ⟨_, rfl, fun a6 HH => ?_⟩
      have H6 := HH _ (P4 9 0 1 7 rfl rfl rfl rfl)
      clear HH H5
      refine h_op H6 rfl (H6.wt rfl rfl rfl) (R_mv H6 rfl rfl) rfl (P5 10 9 0 1 7 rfl rfl rfl rfl rfl) fun a7 H7 => ?_
      clear H6
      refine h_call H7 rfl (H7.wt rfl rfl rfl) (R_call2 H7 rfl rfl rfl (fun w => by simp [go_sem])) rfl ?_
      refine (overI_any (startI t) m _).mono ?_
      rintro e w8 ⟨rfl, hw⟩
      replace hL := hw.trans hL
      clear hw
      refine ⟨_, rfl, fun a8 HH => ?_⟩
      have H8 := HH _ (P4 11 0 1 7 rfl rfl rfl rfl)
      clear HH H7
      refine h_op H8 rfl (wn rfl) (R_pick H8 rfl rfl rfl) rfl (P3 12 0 1 rfl rfl rfl) fun a9 H9 => ?_
      clear H8
      exact h_end ⟨H9.pick _ (P3 0 1 12 rfl rfl rfl), hL⟩
  clear hL H4
  rintro a10 wx ⟨H10, hL⟩
  generalize ht1 : (t0 && (overI (startI t) m)) = t1 at H10
  refine h_op H10 rfl (wn rfl) (R_as H10 rfl rfl) rfl (P1 4 rfl) fun a11 H11 => ?_
  clear H10
  refine h_end ?_
  repeat (go_not_at_region 999; go_step)
  exact H11.ret1 rfl rfl ⟨by rw [← ht1, ← ht0]; rfl, hL⟩
set_option maxRecDepth 100000 in
theorem keyB_any (s : ByteArray) (W : World) : Calls Tryz.prog 89 #[.string s] W fun e W' => e = .returned (.bool (keyB s)) ∧ W' = W := by
  have hL : W = W := rfl
  go_enter Tryz.func89, Tryz.ntmps89
  refine wp_fr (n := 11) (m := [(0, _)]) ⟨rfl, rfl, by intro p hp; simp only [List.mem_cons, List.not_mem_nil, or_false] at hp; rcases hp with rfl <;> rfl⟩ fun a0 H0 => ?_
  repeat (go_not_at_region 0; go_step)
  refine wp_region_lit ?_
  refine h_op H0 rfl (wn rfl) (R_as H0 rfl rfl) rfl (P1 0 rfl) fun a1 H1 => ?_
  clear H0
  refine h_end ?_
  repeat (go_not_at_region 1; go_step)
  refine wp_region_lit ?_
  refine h_op H1 rfl (wn rfl) (R_mv H1 rfl rfl) rfl (P2 3 0 rfl rfl) fun a2 H2 => ?_
  clear H1
  refine h_op H2 rfl (wn rfl) (R_len H2 rfl rfl Tryz.underlying9) rfl (P2 4 0 rfl rfl) fun a3 H3 => ?_
  clear H2
  refine h_op H3 rfl (wn rfl) (R_bin H3 rfl rfl rfl (B_ge Tryz.underlying3 _ _)) rfl (P2 5 0 rfl rfl) fun a4 H4 => ?_
  clear H3
  refine h_op H4 rfl (wn rfl) (R_mv H4 rfl rfl) rfl (P2 6 0 rfl rfl) fun a5 H5 => ?_
  clear H4
  replace H5 := H5.pick [(0, .string s), (6, .bool (decide ((s.size : Int) ≥ 1)))] (P2 0 6 rfl rfl)
  generalize ht0 : (decide ((s.size : Int) ≥ 1)) = t0 at H5
  refine wpList_cut [_, _, _, _] (R := fun a' w' => Fr a' 11 [(0, .string s), (10, .bool (t0 && (decide ((s.size : Int) ≤ 16))))] ∧ w' = W) ?_ ?_
  · cases t0
    · refine h_skip H5 rfl (H5.wf rfl rfl rfl) rfl (P3 7 0 6 rfl rfl rfl) fun a6 H6 => ?_
      clear H5
      refine h_skip H6 rfl (H6.wf rfl rfl rfl) rfl (P3 8 0 6 rfl rfl rfl) fun a7 H7 => ?_
      clear H6
      refine h_skip H7 rfl (H7.wf rfl rfl rfl) rfl (P3 9 0 6 rfl rfl rfl) fun a8 H8 => ?_
      clear H7
      refine h_op H8 rfl (wn rfl) (R_pick H8 rfl rfl rfl) rfl (P2 10 0 rfl rfl) fun a9 H9 => ?_
      clear H8
      exact h_end ⟨H9.pick _ (P2 0 10 rfl rfl), hL⟩
    · refine h_op H5 rfl (H5.wt rfl rfl rfl) (R_mv H5 rfl rfl) rfl (P3 7 0 6 rfl rfl rfl) fun a6 H6 => ?_
      clear H5
      refine h_op H6 rfl (H6.wt rfl rfl rfl) (R_len H6 rfl rfl Tryz.underlying9) rfl (P3 8 0 6 rfl rfl rfl) fun a7 H7 => ?_
      clear H6
      refine h_op H7 rfl (H7.wt rfl rfl rfl) (R_bin H7 rfl rfl rfl (B_le Tryz.underlying3 _ _)) rfl (P3 9 0 6 rfl rfl rfl) fun a8 H8 => ?_
      clear H7
      refine h_op H8 rfl (wn rfl) (R_pick H8 rfl rfl rfl) rfl (P2 10 0 rfl rfl) fun a9 H9 => ?_
      clear H8
      exact h_end ⟨H9.pick _ (P2 0 10 rfl rfl), hL⟩
  clear hL H5
  rintro a10 wx ⟨H10, hL⟩
  generalize ht1 : (t0 && (decide ((s.size : Int) ≤ 16))) = t1 at H10
  refine h_op H10 rfl (wn rfl) (R_as H10 rfl rfl) rfl (P1 2 rfl) fun a11 H11 => ?_
  clear H10
  refine h_end ?_
  repeat (go_not_at_region 999; go_step)
  exact H11.ret1 rfl rfl ⟨by rw [← ht1, ← ht0]; rfl, hL⟩
set_option maxRecDepth 100000 in
theorem codeB_any (t : Int) (W : World) : Calls Tryz.prog 62 #[.int .i64 t] W fun e W' => e = .returned (.bool (codeB t)) ∧ W' = W := by
  have hL : W = W := rfl
  go_enter Tryz.func62, Tryz.ntmps62
  refine wp_fr (n := 9) (m := [(0, _)]) ⟨rfl, rfl, by intro p hp; simp only [List.mem_cons, List.not_mem_nil, or_false] at hp; rcases hp with rfl <;> rfl⟩ fun a0 H0 => ?_
  repeat (go_not_at_region 0; go_step)
  refine wp_region_lit ?_
  refine h_op H0 rfl (wn rfl) (R_as H0 rfl rfl) rfl (P1 0 rfl) fun a1 H1 => ?_
  clear H0
  refine h_end ?_
  repeat (go_not_at_region 1; go_step)
  refine wp_region_lit ?_
  refine h_op H1 rfl (wn rfl) (R_mv H1 rfl rfl) rfl (P2 3 0 rfl rfl) fun a2 H2 => ?_
  clear H1
  refine h_op H2 rfl (wn rfl) (R_bin H2 rfl rfl rfl (B_ge Tryz.underlying3 _ _)) rfl (P2 4 0 rfl rfl) fun a3 H3 => ?_
  clear H2
  refine h_op H3 rfl (wn rfl) (R_mv H3 rfl rfl) rfl (P2 5 0 rfl rfl) fun a4 H4 => ?_
  clear H3
  replace H4 := H4.pick [(0, .int .i64 t), (5, .bool (decide (t ≥ 1)))] (P2 0 5 rfl rfl)
  generalize ht0 : (decide (t ≥ 1)) = t0 at H4
  refine wpList_cut [_, _, _] (R := fun a' w' => Fr a' 9 [(0, .int .i64 t), (8, .bool (t0 && (decide (t ≤ 4))))] ∧ w' = W) ?_ ?_
  · cases t0
    · refine h_skip H4 rfl (H4.wf rfl rfl rfl) rfl (P3 6 0 5 rfl rfl rfl) fun a5 H5 => ?_
      clear H4
      refine h_skip H5 rfl (H5.wf rfl rfl rfl) rfl (P3 7 0 5 rfl rfl rfl) fun a6 H6 => ?_
      clear H5
      refine h_op H6 rfl (wn rfl) (R_pick H6 rfl rfl rfl) rfl (P2 8 0 rfl rfl) fun a7 H7 => ?_
      clear H6
      exact h_end ⟨H7.pick _ (P2 0 8 rfl rfl), hL⟩
    · refine h_op H4 rfl (H4.wt rfl rfl rfl) (R_mv H4 rfl rfl) rfl (P3 6 0 5 rfl rfl rfl) fun a5 H5 => ?_
      clear H4
      refine h_op H5 rfl (H5.wt rfl rfl rfl) (R_bin H5 rfl rfl rfl (B_le Tryz.underlying3 _ _)) rfl (P3 7 0 5 rfl rfl rfl) fun a6 H6 => ?_
      clear H5
      refine h_op H6 rfl (wn rfl) (R_pick H6 rfl rfl rfl) rfl (P2 8 0 rfl rfl) fun a7 H7 => ?_
      clear H6
      exact h_end ⟨H7.pick _ (P2 0 8 rfl rfl), hL⟩
  clear hL H4
  rintro a8 wx ⟨H8, hL⟩
  generalize ht1 : (t0 && (decide (t ≤ 4))) = t1 at H8
  refine h_op H8 rfl (wn rfl) (R_as H8 rfl rfl) rfl (P1 2 rfl) fun a9 H9 => ?_
  clear H8
  refine h_end ?_
  repeat (go_not_at_region 999; go_step)
  exact H9.ret1 rfl rfl ⟨by rw [← ht1, ← ht0]; rfl, hL⟩
end
end Go.Proofs.YtnjfjdfjheiocaaGreat
