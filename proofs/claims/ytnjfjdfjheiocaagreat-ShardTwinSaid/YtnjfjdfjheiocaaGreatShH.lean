/-
  cmp at windows; store.All's closure.
-/
import Derived.Test.YtnjfjdfjheiocaaGreatShG
set_option linter.unusedSimpArgs false
set_option linter.unusedVariables false
namespace Go.Proofs.YtnjfjdfjheiocaaGreat
open Go.RowKit
section
variable {P : Program} {ops : Array Oper} {Q : Exit → Act → World → Prop} {rest : List Oper} {o : Oper} {a : Act} {w w' : World} {n d : Nat} {v : Value} {m m' : List (Nat × Value)}
theorem h_opP (R : World → Prop) (H : Fr a n m) (hd : o.dst = some d) (hg : Region.wanted o (yielded ops a.tmps) = true) (hr : (execOp a.eval o).run P w = .ok (.value v) w') (hL : R w') (hn : Nat.blt d n = true) (hp : Picks ((d, v) :: m) m')
    (k : ∀ a' w', Fr a' n m' → R w' → wpList P ops Q rest a' w') : wpList P ops Q (o :: rest) a w :=
  h_op H hd hg hr hn hp fun a' H' => k a' w' H' hL
theorem o_opP {K : Act → World → Prop} (R : World → Prop) (i : Nat) (H : Fr a n m) (hi : ops[i]? = some o) (hd : o.dst = some d) (hg : Region.wanted o (yielded ops a.tmps) = true) (hr : (execOp a.eval o).run P w = .ok (.value v) w') (hL : R w') (hn : Nat.blt d n = true) (hp : Picks ((d, v) :: m) m')
    (k : ∀ a' w', Fr a' n m' → R w' → K a' w') : wpOp P ops Q i K a w :=
  o_op i H hi hd hg hr hn hp fun a' H' => k a' w' H' hL
theorem R_bs2 {t : TypeId} {k : Nat} {x y : Operand} {vx vy : Value} (H : Fr a n m) (ho : o.op = .buildSlice t k #[(0, x), (1, y)]) (hx : ev1 m x = some vx) (hy : ev1 m y = some vy) (hl : (Instr.buildSlice t k #[(0, vx), (1, vy)]).run P w = .ok v w') : (execOp a.eval o).run P w = .ok (.value v) w' := by
  have e1 := H.ev hx
  have e2 := H.ev hy
  unfold execOp
  rw [ho]
  generalize a.eval = ρ at *
  simp only [List.map_toArray, List.map_cons, List.map_nil, e1, e2]
  exact fr_v hl
end
section
variable {w W : World}
theorem nan_i (x : Int) (W : World) : Calls Tryz.prog 125 #[.int .i64 x] W fun e W' => e = .returned (.bool false) ∧ W' = W := by
  go_enter Tryz.func125, Tryz.ntmps125
  refine wp_fr (n := 6) (m := [(0, _)]) ⟨rfl, rfl, by intro p hp; simp only [List.mem_cons, List.not_mem_nil, or_false] at hp; rcases hp with rfl <;> rfl⟩ fun a0 H0 => ?_
  repeat (go_not_at_region 0; go_step)
  refine wp_region_lit ?_
  refine h_op H0 rfl (wn rfl) (R_as H0 rfl rfl) rfl (P1 0 rfl) fun a1 H1 => ?_
  clear H0
  refine h_end ?_
  repeat (go_not_at_region 1; go_step)
  refine wp_region_lit ?_
  refine h_op H1 rfl (wn rfl) (R_mv H1 rfl rfl) rfl (P2 3 0 rfl rfl) fun a2 H2 => ?_
  clear H1
  refine h_op H2 rfl (wn rfl) (R_mv H2 rfl rfl) rfl (P2 4 3 rfl rfl) fun a3 H3 => ?_
  clear H2
  refine h_op H3 rfl (wn rfl) (R_bin H3 rfl rfl rfl (B_to (y := false) (B_ne Tryz.underlying2 _ _) (by simp))) rfl (P1 5 rfl) fun a4 H4 => ?_
  clear H3
  refine h_op H4 rfl (wn rfl) (R_as H4 rfl rfl) rfl (P1 2 rfl) fun a5 H5 => ?_
  clear H4
  refine h_end ?_
  repeat (go_not_at_region 999; go_step)
  exact H5.ret1 rfl rfl ⟨rfl, rfl⟩
theorem B_sne {A B : Operand} (a : ByteArray) : ((do eqGuard .neq 9 A B (.string a) (.string a); binOp .neq 9 (.string a) (.string a)) : Sem Value).run Tryz.prog w = .ok (.bool false) w := by simp [go_sem]
theorem B_slt {A B : Operand} (a b : ByteArray) : ((do eqGuard .lss 9 A B (.string a) (.string b); binOp .lss 9 (.string a) (.string b)) : Sem Value).run Tryz.prog w = .ok (.bool (sLt a b)) w := by
  simp [go_sem]
  rfl
theorem sLt_gt (a b : ByteArray) : (!Op.bytesLess a.toList b.toList && !a.toList == b.toList) = sLt b a := by
  unfold sLt
  by_cases e : a.toList = b.toList
  · rw [e, bl_irrefl]
    simp
  · have h1 : (a.toList == b.toList) = false := beq_eq_false_iff_ne.2 e
    rw [h1, Bool.not_false, Bool.and_true]
    cases h2 : Op.bytesLess b.toList a.toList with
    | true =>
      cases h3 : Op.bytesLess a.toList b.toList with
      | false => rfl
      | true =>
        have := bl_trans h2 h3
        rw [bl_irrefl] at this
        cases this
    | false =>
      rcases bl_total e with h3 | h3
      · rw [h3]
        rfl
      · rw [h2] at h3
        cases h3
theorem B_sgt {A B : Operand} (a b : ByteArray) : ((do eqGuard .gtr 9 A B (.string a) (.string b); binOp .gtr 9 (.string a) (.string b)) : Sem Value).run Tryz.prog w = .ok (.bool (sLt b a)) w := by
  rw [← sLt_gt]
  simp [go_sem]
theorem nan_s (x : ByteArray) (W : World) : Calls Tryz.prog 126 #[.string x] W fun e W' => e = .returned (.bool false) ∧ W' = W := by
  go_enter Tryz.func126, Tryz.ntmps126
  refine wp_fr (n := 6) (m := [(0, _)]) ⟨rfl, rfl, by intro p hp; simp only [List.mem_cons, List.not_mem_nil, or_false] at hp; rcases hp with rfl <;> rfl⟩ fun a0 H0 => ?_
  repeat (go_not_at_region 0; go_step)
  refine wp_region_lit ?_
  refine h_op H0 rfl (wn rfl) (R_as H0 rfl rfl) rfl (P1 0 rfl) fun a1 H1 => ?_
  clear H0
  refine h_end ?_
  repeat (go_not_at_region 1; go_step)
  refine wp_region_lit ?_
  refine h_op H1 rfl (wn rfl) (R_mv H1 rfl rfl) rfl (P2 3 0 rfl rfl) fun a2 H2 => ?_
  clear H1
  refine h_op H2 rfl (wn rfl) (R_mv H2 rfl rfl) rfl (P2 4 3 rfl rfl) fun a3 H3 => ?_
  clear H2
  refine h_op H3 rfl (wn rfl) (R_bin H3 rfl rfl rfl (B_sne _)) rfl (P1 5 rfl) fun a4 H4 => ?_
  clear H3
  refine h_op H4 rfl (wn rfl) (R_as H4 rfl rfl) rfl (P1 2 rfl) fun a5 H5 => ?_
  clear H4
  refine h_end ?_
  repeat (go_not_at_region 999; go_step)
  exact H5.ret1 rfl rfl ⟨rfl, rfl⟩
def cmpB (l g : Bool) : Int := if l then -1 else if g then 1 else 0
theorem cmpI_any (x y : Int) (W : World) : Calls Tryz.prog 109 #[.int .i64 x, .int .i64 y] W fun e W' => e = .returned (.int .i64 (cmpB (decide (x < y)) (decide (x > y)))) ∧ W' = W := by
  obtain ⟨l, hl⟩ : ∃ b, b = (decide (x < y)) := ⟨_, rfl⟩
  obtain ⟨g, hg⟩ : ∃ b, b = (decide (x > y)) := ⟨_, rfl⟩
  rw [← hl, ← hg]
  go_enter Tryz.func109, Tryz.ntmps109
  refine wp_fr (n := 20) (m := [(0, _), (1, _)]) ⟨rfl, rfl, by intro p hp; simp only [List.mem_cons, List.not_mem_nil, or_false] at hp; rcases hp with rfl | rfl <;> rfl⟩ fun a0 H0 => ?_
  repeat (go_not_at_region 0; go_step)
  refine wp_region_lit ?_
  refine h_op H0 rfl (wn rfl) (R_as H0 rfl rfl) rfl (P2 0 1 rfl rfl) fun a1 H1 => ?_
  clear H0
  refine h_end ?_
  repeat (go_not_at_region 1; go_step)
  refine wp_region_lit ?_
  refine h_op H1 rfl (wn rfl) (R_mv H1 rfl rfl) rfl (P3 7 0 1 rfl rfl rfl) fun a2 H2 => ?_
  clear H1
  refine h_call H2 rfl (wn rfl) (R_call1 H2 rfl rfl (fun w => by simp [go_sem])) rfl ?_
  refine (nan_i x _).mono ?_
  rintro e w3 ⟨rfl, rfl⟩
  refine ⟨_, rfl, fun a3 HH => ?_⟩
  have H3 := HH _ (P3 8 0 1 rfl rfl rfl)
  clear HH H2
  refine h_op H3 rfl (wn rfl) (R_as H3 rfl rfl) rfl (P3 5 0 1 rfl rfl rfl) fun a4 H4 => ?_
  clear H3
  refine h_end ?_
  repeat (go_not_at_region 2; go_step)
  refine wp_region_lit ?_
  refine h_op H4 rfl (wn rfl) (R_mv H4 rfl rfl) rfl (P4 9 5 0 1 rfl rfl rfl rfl) fun a5 H5 => ?_
  clear H4
  refine h_call H5 rfl (wn rfl) (R_call1 H5 rfl rfl (fun w => by simp [go_sem])) rfl ?_
  refine (nan_i y _).mono ?_
  rintro e w6 ⟨rfl, rfl⟩
  refine ⟨_, rfl, fun a6 HH => ?_⟩
  have H6 := HH _ (P4 10 5 0 1 rfl rfl rfl rfl)
  clear HH H5
  refine h_op H6 rfl (wn rfl) (R_as H6 rfl rfl) rfl (P4 6 5 0 1 rfl rfl rfl rfl) fun a7 H7 => ?_
  clear H6
  refine h_end ?_
  repeat (go_not_at_region 3; go_step)
  refine wp_region_lit ?_
  refine h_op H7 rfl (wn rfl) (R_mv H7 rfl rfl) rfl (P4 11 6 0 1 rfl rfl rfl rfl) fun a8 H8 => ?_
  clear H7
  refine h_end ?_
  repeat (go_not_at_region 7; go_step)
  refine wp_cond_false (H8.ev (x := .tmp 11) rfl) ?_
  repeat (go_not_at_region 7; go_step)
  refine wp_region_lit ?_
  refine h_op H8 rfl (wn rfl) (R_mv H8 rfl rfl) rfl (P3 13 0 1 rfl rfl rfl) fun a9 H9 => ?_
  clear H8
  refine h_end ?_
  repeat (go_not_at_region 9; go_step)
  refine wp_cond_false (H9.ev (x := .tmp 13) rfl) ?_
  repeat (go_not_at_region 9; go_step)
  refine wp_region_lit ?_
  refine h_op H9 rfl (wn rfl) (R_mv H9 rfl rfl) rfl (P3 14 0 1 rfl rfl rfl) fun a10 H10 => ?_
  clear H9
  refine h_op H10 rfl (wn rfl) (R_mv H10 rfl rfl) rfl (P4 15 14 0 1 rfl rfl rfl rfl) fun a11 H11 => ?_
  clear H10
  refine h_op H11 rfl (wn rfl) (R_bin H11 rfl rfl rfl (B_to (B_lt Tryz.underlying2 _ _) hl.symm)) rfl (P3 16 0 1 rfl rfl rfl) fun a12 H12 => ?_
  clear H11
  refine h_end ?_
  cases l
  rotate_left
  · repeat (go_not_at_region 10; go_step)
    refine wp_cond_true (H12.ev (x := .tmp 16) rfl) ?_
    repeat (go_not_at_region 10; go_step)
    refine wp_region_lit ?_
    refine h_op H12 rfl (wn rfl) (R_as H12 rfl rfl) rfl (P1 4 rfl) fun a13 H13 => ?_
    clear H12
    refine h_end ?_
    repeat (go_not_at_region 999; go_step)
    exact H13.ret1 rfl rfl ⟨rfl, rfl⟩
  repeat (go_not_at_region 11; go_step)
  refine wp_cond_false (H12.ev (x := .tmp 16) rfl) ?_
  repeat (go_not_at_region 11; go_step)
  refine wp_region_lit ?_
  refine h_op H12 rfl (wn rfl) (R_mv H12 rfl rfl) rfl (P2 17 1 rfl rfl) fun a13 H13 => ?_
  clear H12
  refine h_op H13 rfl (wn rfl) (R_mv H13 rfl rfl) rfl (P2 18 17 rfl rfl) fun a14 H14 => ?_
  clear H13
  refine h_op H14 rfl (wn rfl) (R_bin H14 rfl rfl rfl (B_to (B_gt Tryz.underlying2 _ _) hg.symm)) rfl (P1 19 rfl) fun a15 H15 => ?_
  clear H14
  refine h_end ?_
  cases g
  rotate_left
  · repeat (go_not_at_region 12; go_step)
    refine wp_cond_true (H15.ev (x := .tmp 19) rfl) ?_
    repeat (go_not_at_region 12; go_step)
    refine wp_region_lit ?_
    refine h_op H15 rfl (wn rfl) (R_as H15 rfl rfl) rfl (P1 4 rfl) fun a16 H16 => ?_
    clear H15
    refine h_end ?_
    repeat (go_not_at_region 999; go_step)
    exact H16.ret1 rfl rfl ⟨rfl, rfl⟩
  repeat (go_not_at_region 13; go_step)
  refine wp_cond_false (H15.ev (x := .tmp 19) rfl) ?_
  repeat (go_not_at_region 13; go_step)
  refine wp_region_lit ?_
  refine h_op H15 rfl (wn rfl) (R_as H15 rfl rfl) rfl (P1 4 rfl) fun a16 H16 => ?_
  clear H15
  refine h_end ?_
  repeat (go_not_at_region 999; go_step)
  exact H16.ret1 rfl rfl ⟨rfl, rfl⟩
theorem cmpS_any (x y : ByteArray) (W : World) : Calls Tryz.prog 110 #[.string x, .string y] W fun e W' => e = .returned (.int .i64 (cmpB (sLt x y) (sLt y x))) ∧ W' = W := by
  obtain ⟨l, hl⟩ : ∃ b, b = (sLt x y) := ⟨_, rfl⟩
  obtain ⟨g, hg⟩ : ∃ b, b = (sLt y x) := ⟨_, rfl⟩
  rw [← hl, ← hg]
  go_enter Tryz.func110, Tryz.ntmps110
  refine wp_fr (n := 20) (m := [(0, _), (1, _)]) ⟨rfl, rfl, by intro p hp; simp only [List.mem_cons, List.not_mem_nil, or_false] at hp; rcases hp with rfl | rfl <;> rfl⟩ fun a0 H0 => ?_
  repeat (go_not_at_region 0; go_step)
  refine wp_region_lit ?_
  refine h_op H0 rfl (wn rfl) (R_as H0 rfl rfl) rfl (P2 0 1 rfl rfl) fun a1 H1 => ?_
  clear H0
  refine h_end ?_
  repeat (go_not_at_region 1; go_step)
  refine wp_region_lit ?_
  refine h_op H1 rfl (wn rfl) (R_mv H1 rfl rfl) rfl (P3 7 0 1 rfl rfl rfl) fun a2 H2 => ?_
  clear H1
  refine h_call H2 rfl (wn rfl) (R_call1 H2 rfl rfl (fun w => by simp [go_sem])) rfl ?_
  refine (nan_s x _).mono ?_
  rintro e w3 ⟨rfl, rfl⟩
  refine ⟨_, rfl, fun a3 HH => ?_⟩
  have H3 := HH _ (P3 8 0 1 rfl rfl rfl)
  clear HH H2
  refine h_op H3 rfl (wn rfl) (R_as H3 rfl rfl) rfl (P3 5 0 1 rfl rfl rfl) fun a4 H4 => ?_
  clear H3
  refine h_end ?_
  repeat (go_not_at_region 2; go_step)
  refine wp_region_lit ?_
  refine h_op H4 rfl (wn rfl) (R_mv H4 rfl rfl) rfl (P4 9 5 0 1 rfl rfl rfl rfl) fun a5 H5 => ?_
  clear H4
  refine h_call H5 rfl (wn rfl) (R_call1 H5 rfl rfl (fun w => by simp [go_sem])) rfl ?_
  refine (nan_s y _).mono ?_
  rintro e w6 ⟨rfl, rfl⟩
  refine ⟨_, rfl, fun a6 HH => ?_⟩
  have H6 := HH _ (P4 10 5 0 1 rfl rfl rfl rfl)
  clear HH H5
  refine h_op H6 rfl (wn rfl) (R_as H6 rfl rfl) rfl (P4 6 5 0 1 rfl rfl rfl rfl) fun a7 H7 => ?_
  clear H6
  refine h_end ?_
  repeat (go_not_at_region 3; go_step)
  refine wp_region_lit ?_
  refine h_op H7 rfl (wn rfl) (R_mv H7 rfl rfl) rfl (P4 11 6 0 1 rfl rfl rfl rfl) fun a8 H8 => ?_
  clear H7
  refine h_end ?_
  repeat (go_not_at_region 7; go_step)
  refine wp_cond_false (H8.ev (x := .tmp 11) rfl) ?_
  repeat (go_not_at_region 7; go_step)
  refine wp_region_lit ?_
  refine h_op H8 rfl (wn rfl) (R_mv H8 rfl rfl) rfl (P3 13 0 1 rfl rfl rfl) fun a9 H9 => ?_
  clear H8
  refine h_end ?_
  repeat (go_not_at_region 9; go_step)
  refine wp_cond_false (H9.ev (x := .tmp 13) rfl) ?_
  repeat (go_not_at_region 9; go_step)
  refine wp_region_lit ?_
  refine h_op H9 rfl (wn rfl) (R_mv H9 rfl rfl) rfl (P3 14 0 1 rfl rfl rfl) fun a10 H10 => ?_
  clear H9
  refine h_op H10 rfl (wn rfl) (R_mv H10 rfl rfl) rfl (P4 15 14 0 1 rfl rfl rfl rfl) fun a11 H11 => ?_
  clear H10
  refine h_op H11 rfl (wn rfl) (R_bin H11 rfl rfl rfl (B_to (B_slt _ _) hl.symm)) rfl (P3 16 0 1 rfl rfl rfl) fun a12 H12 => ?_
  clear H11
  refine h_end ?_
  cases l
  rotate_left
  · repeat (go_not_at_region 10; go_step)
    refine wp_cond_true (H12.ev (x := .tmp 16) rfl) ?_
    repeat (go_not_at_region 10; go_step)
    refine wp_region_lit ?_
    refine h_op H12 rfl (wn rfl) (R_as H12 rfl rfl) rfl (P1 4 rfl) fun a13 H13 => ?_
    clear H12
    refine h_end ?_
    repeat (go_not_at_region 999; go_step)
    exact H13.ret1 rfl rfl ⟨rfl, rfl⟩
  repeat (go_not_at_region 11; go_step)
  refine wp_cond_false (H12.ev (x := .tmp 16) rfl) ?_
  repeat (go_not_at_region 11; go_step)
  refine wp_region_lit ?_
  refine h_op H12 rfl (wn rfl) (R_mv H12 rfl rfl) rfl (P2 17 1 rfl rfl) fun a13 H13 => ?_
  clear H12
  refine h_op H13 rfl (wn rfl) (R_mv H13 rfl rfl) rfl (P2 18 17 rfl rfl) fun a14 H14 => ?_
  clear H13
  refine h_op H14 rfl (wn rfl) (R_bin H14 rfl rfl rfl (B_to (B_sgt _ _) hg.symm)) rfl (P1 19 rfl) fun a15 H15 => ?_
  clear H14
  refine h_end ?_
  cases g
  rotate_left
  · repeat (go_not_at_region 12; go_step)
    refine wp_cond_true (H15.ev (x := .tmp 19) rfl) ?_
    repeat (go_not_at_region 12; go_step)
    refine wp_region_lit ?_
    refine h_op H15 rfl (wn rfl) (R_as H15 rfl rfl) rfl (P1 4 rfl) fun a16 H16 => ?_
    clear H15
    refine h_end ?_
    repeat (go_not_at_region 999; go_step)
    exact H16.ret1 rfl rfl ⟨rfl, rfl⟩
  repeat (go_not_at_region 13; go_step)
  refine wp_cond_false (H15.ev (x := .tmp 19) rfl) ?_
  repeat (go_not_at_region 13; go_step)
  refine wp_region_lit ?_
  refine h_op H15 rfl (wn rfl) (R_as H15 rfl rfl) rfl (P1 4 rfl) fun a16 H16 => ?_
  clear H15
  refine h_end ?_
  repeat (go_not_at_region 999; go_step)
  exact H16.ret1 rfl rfl ⟨rfl, rfl⟩
theorem ix_two {ad : Addr} {n c j : Nat} (h : j < n) : (Instr.indexAt 52 (.slice (some ad) n c) (.int .i64 (j : Nat))).run Tryz.prog w = .ok (.pointer (some (ad.add j))) w := by
  have h1 : ¬ ((j : Int) < 0) := by omega
  simp [go_sem, h, h1]
set_option maxRecDepth 100000 in
theorem cor_any {g : Nat} {x y : Int} (h : W.heap[g]? = some (.cells #[.int .i64 x, .int .i64 y] 3 (0, 0))) : Calls Tryz.prog 108 #[.slice (some ⟨g, 0, none⟩) 2 2] W fun e W' => e = .returned (.int .i64 (if x != 0 then x else y)) ∧ W' = W := by
  have hc : ∀ j : Nat, j < 2 → W.cell? ((⟨g, 0, none⟩ : Addr).add j) = some (.int .i64 (if j = 0 then x else y)) := by
    intro j hj
    match j, hj with
    | 0, _ => exact cells_at h 0
    | 1, _ => exact cells_at h 1
  go_enter Tryz.func108, Tryz.ntmps108
  refine wp_fr (n := 18) (m := [(0, _)]) ⟨rfl, rfl, by intro p hp; simp only [List.mem_cons, List.not_mem_nil, or_false] at hp; rcases hp with rfl <;> rfl⟩ fun a0 H0 => ?_
  repeat (go_not_at_region 0; go_step)
  refine wp_region_lit ?_
  refine h_op H0 rfl (wn rfl) (R_as H0 rfl rfl) rfl (P1 0 rfl) fun a1 H1 => ?_
  clear H0
  refine h_end ?_
  repeat (go_not_at_region 1; go_step)
  refine wp_region_lit ?_
  refine h_op H1 rfl (wn rfl) (R_as H1 rfl rfl) rfl (P2 3 0 rfl rfl) fun a2 H2 => ?_
  clear H1
  refine h_end ?_
  repeat (go_not_at_region 2; go_step)
  refine wp_region_lit ?_
  refine h_op H2 rfl (wn rfl) (R_mv H2 rfl rfl) rfl (P2 6 3 rfl rfl) fun a3 H3 => ?_
  clear H2
  refine h_op H3 rfl (wn rfl) (R_lenS H3 rfl rfl Tryz.underlying52) rfl (P3 7 6 3 rfl rfl rfl) fun a4 H4 => ?_
  clear H3
  refine h_op H4 rfl (wn rfl) (R_mv H4 rfl rfl) rfl (P4 8 7 6 3 rfl rfl rfl rfl) fun a5 H5 => ?_
  clear H4
  refine h_end ?_
  repeat (go_not_at_region 3; go_step)
  obtain ⟨I, hI⟩ : ∃ I : Nat → Act → World → Prop, ∀ n a' w', I n a' w' ↔ ∃ j : Nat, n = 2 - j ∧ j ≤ 2 ∧ (j ≠ 0 → x = 0) ∧ (j = 2 → y = 0) ∧ Fr a' 18 [(3, .int .i64 0), (6, (.slice (some ⟨g, 0, none⟩) 2 2)), (7, .int .i64 2), (8, .int .i64 (j : Nat))] ∧ w' = W := ⟨_, fun _ _ _ => Iff.rfl⟩
  have HI := Lib.hid hI
  clear hI
  refine wp_loop_ghost I 2 ((HI.out _ _ _).2 ⟨0, rfl, by omega, fun e => absurd rfl e, fun e => by omega, H5.pick _ (P4 3 6 7 8 rfl rfl rfl rfl), rfl⟩) ?_
  clear H5
  intro n a1 wl hi
  obtain ⟨j, rfl, hj, hx0, hy0, H0, rfl⟩ := (HI.out _ _ _).1 hi
  clear hi
  by_cases hjl : j < 2
  · repeat (go_not_at_region 3; go_step)
    refine wp_region_lit ?_
    refine h_op H0 rfl (wn rfl) (R_bin H0 rfl rfl rfl (B_to (y := true) (B_lt Tryz.underlying3 _ _) (decide_eq_true (by omega)))) rfl (P5 9 3 6 7 8 rfl rfl rfl rfl rfl) fun a1 H1 => ?_
    clear H0
    refine h_end ?_
    repeat (go_not_at_region 4; go_step)
    refine wp_cond_true (H1.ev (x := .tmp 9) rfl) ?_
    repeat (go_not_at_region 4; go_step)
    refine wp_region_lit ?_
    refine h_op H1 rfl (wn rfl) (R_ixa H1 rfl rfl rfl (ix_two hjl)) rfl (P5 10 3 6 7 8 rfl rfl rfl rfl rfl) fun a2 H2 => ?_
    clear H1
    refine h_op H2 rfl (wn rfl) (R_ld H2 rfl rfl (ld_inn (hc j hjl))) rfl (P5 11 3 6 7 8 rfl rfl rfl rfl rfl) fun a3 H3 => ?_
    clear H2
    refine h_op H3 rfl (wn rfl) (R_as H3 rfl rfl) rfl (P5 5 3 6 7 8 rfl rfl rfl rfl rfl) fun a4 H4 => ?_
    clear H3
    refine h_end ?_
    repeat (go_not_at_region 5; go_step)
    refine wp_region_lit ?_
    refine h_op H4 rfl (wn rfl) (R_mv H4 rfl rfl) rfl (P6 12 5 3 6 7 8 rfl rfl rfl rfl rfl rfl) fun a5 H5 => ?_
    clear H4
    refine h_op H5 rfl (wn rfl) (R_mv H5 rfl rfl) rfl (P7 13 12 5 3 6 7 8 rfl rfl rfl rfl rfl rfl rfl) fun a6 H6 => ?_
    clear H5
    refine h_op H6 rfl (wn rfl) (R_bin H6 rfl rfl rfl (B_ne Tryz.underlying3 _ _)) rfl (P6 14 5 3 6 7 8 rfl rfl rfl rfl rfl rfl) fun a7 H7 => ?_
    clear H6
    refine h_end ?_
    cases hz : ((if j = 0 then x else y) != 0)
    · rw [hz] at H7
      repeat (go_not_at_region 7; go_step)
      refine wp_cond_false (H7.ev (x := .tmp 14) rfl) ?_
      repeat (go_not_at_region 7; go_step)
      refine wp_region_lit ?_
      refine h_op H7 rfl (wn rfl) (R_bin H7 rfl rfl rfl (B_add Tryz.underlying3 _ _ (by omega) (by omega))) rfl (P5 16 3 6 7 8 rfl rfl rfl rfl rfl) fun a8 H8 => ?_
      clear H7
      refine h_op H8 rfl (wn rfl) (R_mv H8 rfl rfl) rfl (P4 8 3 6 7 rfl rfl rfl rfl) fun a9 H9 => ?_
      clear H8
      refine h_end ?_
      have hz2 : (if j = 0 then x else y) = 0 := by simpa using hz
      refine ⟨2 - (j + 1), by omega, (HI.out _ _ _).2 ⟨j + 1, rfl, by omega, fun _ => ?_, fun e => ?_, H9.pick _ (P4 3 6 7 8 rfl rfl rfl rfl), rfl⟩⟩
      · by_cases h0 : j = 0
        · rw [if_pos h0] at hz2; exact hz2
        · exact hx0 h0
      · rw [if_neg (by omega)] at hz2; exact hz2
    · rw [hz] at H7
      repeat (go_not_at_region 6; go_step)
      refine wp_cond_true (H7.ev (x := .tmp 14) rfl) ?_
      repeat (go_not_at_region 6; go_step)
      refine wp_region_lit ?_
      refine h_op H7 rfl (wn rfl) (R_mv H7 rfl rfl) rfl (P1 15 rfl) fun a8 H8 => ?_
      clear H7
      refine h_op H8 rfl (wn rfl) (R_as H8 rfl rfl) rfl (P1 2 rfl) fun a9 H9 => ?_
      clear H8
      refine h_end ?_
      repeat (go_not_at_region 999; go_step)
      refine H9.ret1 rfl rfl ⟨?_, rfl⟩
      congr 2
      by_cases h0 : j = 0
      · rw [if_pos h0] at hz ⊢
        rw [if_pos hz]
      · rw [if_neg h0] at hz ⊢
        rw [hx0 h0, if_neg (by decide)]
  · repeat (go_not_at_region 3; go_step)
    refine wp_region_lit ?_
    refine h_op H0 rfl (wn rfl) (R_bin H0 rfl rfl rfl (B_to (y := false) (B_lt Tryz.underlying3 _ _) (decide_eq_false (by omega)))) rfl (P5 9 3 6 7 8 rfl rfl rfl rfl rfl) fun a1 H1 => ?_
    clear H0
    refine h_end ?_
    repeat (go_not_at_region 8; go_step)
    refine wp_cond_false (H1.ev (x := .tmp 9) rfl) ?_
    repeat (go_not_at_region 8; go_step)
    refine wp_region_lit ?_
    refine h_op H1 rfl (wn rfl) (R_mv H1 rfl rfl) rfl (P1 17 rfl) fun a2 H2 => ?_
    clear H1
    refine h_op H2 rfl (wn rfl) (R_as H2 rfl rfl) rfl (P1 2 rfl) fun a3 H3 => ?_
    clear H2
    refine h_end ?_
    repeat (go_not_at_region 999; go_step)
    refine H3.ret1 rfl rfl ⟨?_, rfl⟩
    rw [hx0 (by omega), hy0 (by omega)]
    rfl
end
/-! The closure of store.All. -/
def outE (p : Win × A8) : List Value := [.string p.1.2, .int .i64 p.1.1, .int .i64 p.2.c, .int .i64 p.2.s, .int .i64 p.2.mn, .int .i64 p.2.mx, .int .i64 p.2.h0, .int .i64 p.2.h1, .int .i64 p.2.h2, .int .i64 p.2.h3]
abbrev outA (p : Win × A8) : Array Value := (outE p).toArray
def cmpO (p q : Win × A8) : Int := if cmpB (decide (p.1.1 < q.1.1)) (decide (p.1.1 > q.1.1)) != 0 then cmpB (decide (p.1.1 < q.1.1)) (decide (p.1.1 > q.1.1)) else cmpB (sLt p.1.2 q.1.2) (sLt q.1.2 p.1.2)
theorem cmpO_lt (p q : Win × A8) : ltOf cmpO p q = winLt p.1 q.1 := by
  unfold ltOf cmpO winLt cmpB
  by_cases h1 : p.1.1 < q.1.1
  · simp [h1]
  · by_cases h2 : q.1.1 < p.1.1
    · have h3 : p.1.1 ≠ q.1.1 := by omega
      simp [h1, h2, h3]
    · have h3 : p.1.1 = q.1.1 := by omega
      simp only [h3, Int.lt_irrefl, decide_false, gt_iff_lt, Bool.false_eq_true, if_false, bne_self_eq_false, Bool.false_or, decide_true, Bool.true_and]
      cases sLt p.1.2 q.1.2
      · cases sLt q.1.2 p.1.2 <;> simp
      · simp
/-- As LV, and the draws do not fall behind. -/
def LD (d : Nat) (w0 : World) (L : List Thg) (W : World) : Prop := LV w0 L W ∧ d ≤ W.drawn
section
variable {d : Nat} {w w0 W W' : World} {L : List Thg} {g : Nat} {A : Array Value} {t : TypeId} {p q : Win × A8}
theorem LD.drew (h : LD d w0 L W) : LD d w0 L W.drew := ⟨h.1.drew, Nat.le_succ_of_le h.2⟩
theorem LD.alloc (h : LD d w0 L W) (A : Array Value) (t : TypeId) : LD d w0 (bk W.heap.size A t :: L) (W.alloc (.cells A t)) := ⟨h.1.alloc A t, h.2⟩
theorem LD.eqw (h : LD d w0 L W) (e : W' = W) : LD d w0 L W' := e ▸ h
theorem LD.grow (h : LD W.drawn W L W') : ∃ q os', W' = Sort.grow (W.drewN q) os' := by
  refine ⟨W'.drawn - W.drawn, W'.heap.extract W.heap.size W'.heap.size, ?_⟩
  obtain ⟨hb, hd⟩ := h
  have hb := hb.1
  have hh : W'.heap = W.heap ++ W'.heap.extract W.heap.size W'.heap.size := by
    refine Array.ext_getElem? fun i => ?_
    rw [Array.getElem?_append]
    split
    · exact hb.block i ‹_›
    · rw [Array.getElem?_extract]
      have := hb.size
      split
      · congr 1
        omega
      · rw [Array.getElem?_eq_none (by omega)]
  cases W'
  cases W
  simp only [Sort.grow, World.drewN] at *
  obtain ⟨h1, h2, h3, h4, h5⟩ := hb
  simp only at h1 h2 h3
  rw [← hh, h1, h2, h3, Nat.add_sub_cancel' hd]
theorem bx_out : (Instr.box 57 (.agg (outA p))).run Tryz.prog w = .ok (.pointer (some ⟨w.heap.size, 0, none⟩)) (w.alloc (.cells (outA p) 57)) := by
  unfold outA outE
  simp [go_sem]
theorem fa_o0 : (Instr.fieldAt 57 (.pointer (some ⟨g, 0, none⟩)) 0).run Tryz.prog w = .ok (.pointer (some ⟨g, 0, none⟩)) w := by simp [go_sem]
theorem fa_o1 : (Instr.fieldAt 57 (.pointer (some ⟨g, 0, none⟩)) 1).run Tryz.prog w = .ok (.pointer (some ⟨g, 1, none⟩)) w := by simp [go_sem]
theorem bs_two {x y : Int} : (Instr.buildSlice 52 2 #[(0, .int .i64 x), (1, .int .i64 y)]).run Tryz.prog w = .ok (.slice (some ⟨w.heap.size, 0, none⟩) 2 2) (w.alloc (.cells #[.int .i64 x, .int .i64 y] 3)) := by
  simp [go_sem]
set_option maxRecDepth 100000 in
theorem all1_any : Calls Tryz.prog 107 #[.agg (outA p), .agg (outA q)] W fun e W' => e = .returned (.int .i64 (cmpO p q)) ∧ ∃ n os, W' = Sort.grow (W.drewN n) os := by
  have hL : LD W.drawn W [] W := ⟨LV.init W, Nat.le_refl _⟩
  go_enter Tryz.func107, Tryz.ntmps107
  refine wp_fr (n := 17) (m := [(0, _), (1, _)]) ⟨rfl, rfl, by intro p hp; simp only [List.mem_cons, List.not_mem_nil, or_false] at hp; rcases hp with rfl | rfl <;> rfl⟩ fun a0 H0 => ?_
  repeat (go_not_at_region 0; go_step)
  refine wp_region_lit ?_
  refine h_opP (LD W.drawn W [bk W.heap.size (outA p) 57]) H0 rfl (wn rfl) (R_box H0 rfl rfl bx_out) (hL.alloc _ _) rfl (P2 2 1 rfl rfl) fun a1 w1 H1 hL' => ?_
  replace hL := hL'
  clear H0 hL'
  refine h_opP (LD W.drawn W [bk w1.heap.size (outA q) 57, bk W.heap.size (outA p) 57]) H1 rfl (wn rfl) (R_box H1 rfl rfl bx_out) (hL.alloc _ _) rfl (P2 3 2 rfl rfl) fun a2 w2 H2 hL' => ?_
  replace hL := hL'
  clear H1 hL'
  refine h_op H2 rfl (wn rfl) (R_as H2 rfl rfl) rfl (P2 3 2 rfl rfl) fun a3 H3 => ?_
  clear H2
  refine h_end ?_
  obtain ⟨g2, hg2⟩ : ∃ g, g = W.heap.size := ⟨_, rfl⟩
  obtain ⟨g3, hg3⟩ : ∃ g, g = w1.heap.size := ⟨_, rfl⟩
  rw [← hg2, ← hg3] at H3 hL
  clear hg2 hg3
  repeat (go_not_at_region 1; go_step)
  refine wp_region_held_drew (S := fun w' => Thg.ok w' (bk g3 (outA q) 57) ∧ Thg.ok w' (bk g2 (outA p) 57)) (by kernel_rfl) ((⟨LV.has hL.drew.1 (by simp), LV.has hL.drew.1 (by simp)⟩ : Thg.ok _ (bk g3 (outA q) 57) ∧ Thg.ok _ (bk g2 (outA p) 57))) (fun _ => ?_)
  replace hL := hL.drew
  refine a_op 0 H3 rfl rfl (by kernel_rfl) (by kernel_rfl) (by kernel_rfl) (fun _ _ _ h => h) (wn rfl) (fun w hL => R_fa H3 rfl rfl fa_o1) ((⟨LV.has hL.1 (by simp), LV.has hL.1 (by simp)⟩ : Thg.ok _ (bk g3 (outA q) 57) ∧ Thg.ok _ (bk g2 (outA p) 57))) rfl (P3 5 3 2 rfl rfl rfl) fun a4 H4 => ?_
  clear H3
  refine a_op 2 H4 rfl rfl (by kernel_rfl) (by kernel_rfl) (by kernel_rfl) (fun _ _ _ h => h) (wn rfl) (fun w hL => R_fa H4 rfl rfl fa_o1) ((⟨LV.has hL.1 (by simp), LV.has hL.1 (by simp)⟩ : Thg.ok _ (bk g3 (outA q) 57) ∧ Thg.ok _ (bk g2 (outA p) 57))) rfl (P4 7 5 3 2 rfl rfl rfl rfl) fun a5 H5 => ?_
  clear H4
  refine a_op 5 H5 rfl rfl (by kernel_rfl) (by kernel_rfl) (by kernel_rfl) (fun _ _ _ h => h) (wn rfl) (fun w hL => R_fa H5 rfl rfl fa_o0) ((⟨LV.has hL.1 (by simp), LV.has hL.1 (by simp)⟩ : Thg.ok _ (bk g3 (outA q) 57) ∧ Thg.ok _ (bk g2 (outA p) 57))) rfl (P4 10 7 5 3 rfl rfl rfl rfl) fun a6 H6 => ?_
  clear H5
  refine a_op 7 H6 rfl rfl (by kernel_rfl) (by kernel_rfl) (by kernel_rfl) (fun _ _ _ h => h) (wn rfl) (fun w hL => R_fa H6 rfl rfl fa_o0) ((⟨LV.has hL.1 (by simp), LV.has hL.1 (by simp)⟩ : Thg.ok _ (bk g3 (outA q) 57) ∧ Thg.ok _ (bk g2 (outA p) 57))) rfl (P4 12 10 7 5 rfl rfl rfl rfl) fun a7 H7 => ?_
  clear H6
  refine a_op 1 H7 rfl rfl (by kernel_rfl) (by kernel_rfl) (by kernel_rfl) (fun _ _ _ h => h) (wn rfl) (fun w hL => R_ld H7 rfl rfl (ld_lon (okc hL.2 1))) ((⟨LV.has hL.1 (by simp), LV.has hL.1 (by simp)⟩ : Thg.ok _ (bk g3 (outA q) 57) ∧ Thg.ok _ (bk g2 (outA p) 57))) rfl (P4 6 12 10 7 rfl rfl rfl rfl) fun a8 H8 => ?_
  clear H7
  refine a_op 3 H8 rfl rfl (by kernel_rfl) (by kernel_rfl) (by kernel_rfl) (fun _ _ _ h => h) (wn rfl) (fun w hL => R_ld H8 rfl rfl (ld_lon (okc hL.1 1))) ((⟨LV.has hL.1 (by simp), LV.has hL.1 (by simp)⟩ : Thg.ok _ (bk g3 (outA q) 57) ∧ Thg.ok _ (bk g2 (outA p) 57))) rfl (P4 8 6 12 10 rfl rfl rfl rfl) fun a9 H9 => ?_
  clear H8
  refine a_op 6 H9 rfl rfl (by kernel_rfl) (by kernel_rfl) (by kernel_rfl) (fun _ _ _ h => h) (wn rfl) (fun w hL => R_ld H9 rfl rfl (ld_txt (okc hL.2 0))) ((⟨LV.has hL.1 (by simp), LV.has hL.1 (by simp)⟩ : Thg.ok _ (bk g3 (outA q) 57) ∧ Thg.ok _ (bk g2 (outA p) 57))) rfl (P4 11 8 6 12 rfl rfl rfl rfl) fun a10 H10 => ?_
  clear H9
  refine a_op 8 H10 rfl rfl (by kernel_rfl) (by kernel_rfl) (by kernel_rfl) (fun _ _ _ h => h) (wn rfl) (fun w hL => R_ld H10 rfl rfl (ld_txt (okc hL.1 0))) ((⟨LV.has hL.1 (by simp), LV.has hL.1 (by simp)⟩ : Thg.ok _ (bk g3 (outA q) 57) ∧ Thg.ok _ (bk g2 (outA p) 57))) rfl (P4 13 11 8 6 rfl rfl rfl rfl) fun a11 H11 => ?_
  clear H10
  refine a_all1 4 (by kernel_rfl) ?_
  refine o_call 4 H11 rfl rfl (wn rfl) (R_call2 H11 rfl rfl rfl (fun w => by simp [go_sem])) rfl ?_
  refine (cmpI_any p.1.1 q.1.1 _).mono ?_
  rintro e w12 ⟨rfl, hw⟩
  replace hL := hL.eqw hw
  clear hw
  refine ⟨_, rfl, fun a12 HH => ?_⟩
  have H12 := HH _ (P3 9 13 11 rfl rfl rfl)
  clear HH H11
  refine ⟨(⟨LV.has hL.1 (by simp), LV.has hL.1 (by simp)⟩ : Thg.ok _ (bk g3 (outA q) 57) ∧ Thg.ok _ (bk g2 (outA p) 57)), ?_⟩
  refine a_all1 9 (by kernel_rfl) ?_
  refine o_call 9 H12 rfl rfl (wn rfl) (R_call2 H12 rfl rfl rfl (fun w => by simp [go_sem])) rfl ?_
  refine (cmpS_any p.1.2 q.1.2 _).mono ?_
  rintro e w13 ⟨rfl, hw⟩
  replace hL := hL.eqw hw
  clear hw
  refine ⟨_, rfl, fun a13 HH => ?_⟩
  have H13 := HH _ (P2 14 9 rfl rfl)
  clear HH H12
  refine ⟨(⟨LV.has hL.1 (by simp), LV.has hL.1 (by simp)⟩ : Thg.ok _ (bk g3 (outA q) 57) ∧ Thg.ok _ (bk g2 (outA p) 57)), ?_⟩
  refine a_all1 10 (by kernel_rfl) ?_
  refine o_opP _ 10 H13 rfl rfl (wn rfl) (R_bs2 H13 rfl rfl rfl bs_two) (hL.alloc _ _) rfl (P1 15 rfl) fun a14 w14 H14 hL' => ⟨(⟨LV.has hL'.1 (by simp), LV.has hL'.1 (by simp)⟩ : Thg.ok _ (bk g3 (outA q) 57) ∧ Thg.ok _ (bk g2 (outA p) 57)), ?_⟩
  replace hL := hL'
  clear H13 hL'
  refine a_all1 11 (by kernel_rfl) ?_
  refine o_call 11 H14 rfl rfl (wn rfl) (R_call1 H14 rfl rfl (fun w => by simp [go_sem])) rfl ?_
  refine (cor_any hL.1.at_).mono ?_
  rintro e w15 ⟨rfl, hw⟩
  replace hL := hL.eqw hw
  clear hw
  refine ⟨_, rfl, fun a15 HH => ?_⟩
  have H15 := HH _ (P1 16 rfl)
  clear HH H14
  refine ⟨(⟨LV.has hL.1 (by simp), LV.has hL.1 (by simp)⟩ : Thg.ok _ (bk g3 (outA q) 57) ∧ Thg.ok _ (bk g2 (outA p) 57)), ?_⟩
  refine a_op 12 H15 rfl rfl (by kernel_rfl) (by kernel_rfl) (by kernel_rfl) (fun _ _ _ h => h) (wn rfl) (fun w hL => R_as H15 rfl rfl) ((⟨LV.has hL.1 (by simp), LV.has hL.1 (by simp)⟩ : Thg.ok _ (bk g3 (outA q) 57) ∧ Thg.ok _ (bk g2 (outA p) 57))) rfl (P1 4 rfl) fun a16 H16 => ?_
  clear H15
  refine wpAnyH_done (by kernel_rfl) ?_ _
  repeat (go_not_at_region 999; go_step)
  exact H16.ret1 rfl rfl ⟨rfl, hL.grow⟩
end
end Go.Proofs.YtnjfjdfjheiocaaGreat
