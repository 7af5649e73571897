/-
  meterref04.in, items, lists: bounds by the document.
-/
import Derived.Test.YtmmhchpilcjflaaMsgRp
import Derived.Test.YtmmhchpilcjflaaMsgEm
set_option linter.unusedSimpArgs false
set_option linter.unusedVariables false
namespace Go.Proofs.Ytmmhchpilcjflaa
open Go.RowKit

theorem B_le {t : TypeId} (ht : Try.prog.underlying t = some (.int .i64)) {X Y : Operand} {w : World} (x y : Int) : ((do eqGuard .leq t X Y (.int .i64 x) (.int .i64 y); binOp .leq t (.int .i64 x) (.int .i64 y)) : Sem Value).run Try.prog w = .ok (.bool (decide (x ≤ y))) w := by simp [go_sem, ht]
theorem all_false {l : List Int} {j : Nat} (hj : j < l.length) (h : inB (l.getD j 0) = false) : l.all inB = false := by
  rw [List.all_eq_false]
  refine ⟨l.getD j 0, ?_, by rw [h]; decide⟩
  rw [List.getD_eq_getElem?_getD, List.getElem?_eq_getElem hj]
  exact List.getElem_mem hj
theorem all_more {l : List Int} {j : Nat} (ha : (l.take j).all inB = true) (hj : j < l.length) (h : inB (l.getD j 0) = true) : (l.take (j + 1)).all inB = true := by
  rw [List.take_add_one, List.all_append, ha, List.getElem?_eq_getElem hj]
  rw [List.getD_eq_getElem?_getD, List.getElem?_eq_getElem hj] at h
  simpa using h
theorem ix_at {w : World} {ad : Addr} {n c j : Nat} (h : j < n) : (Instr.indexAt 25 (.slice (some ad) n c) (.int .i64 (j : Nat))).run Try.prog w = .ok (.pointer (some (ad.add j))) w := by
  simp [go_sem, h]
theorem B_add {t : TypeId} (ht : Try.prog.underlying t = some (.int .i64)) {X Y : Operand} {w : World} (x y : Int) (h0 : -9223372036854775808 ≤ x + y) (h1 : x + y < 9223372036854775808) : ((do eqGuard .add t X Y (.int .i64 x) (.int .i64 y); binOp .add t (.int .i64 x) (.int .i64 y)) : Sem Value).run Try.prog w = .ok (.int .i64 (x + y)) w := by
  have e : IntKind.i64.wrap (x + y) = x + y := i64_id h0 h1
  simp [go_sem, ht, e]
section
variable {w0 W : World} {L : List Blk} {m : PMsg} {vo vs : Value} {l : List Int} {v : Value}
theorem in_any (x y : Int) : Calls Try.prog 34 #[.int .i64 x, .int .i64 y] W fun e W' => e = .returned (.bool (decide (0 ≤ x) && decide (x ≤ y))) ∧ W' = W := by
  by_cases h0 : 0 ≤ x
  · have e1 : decide (x ≥ 0) = true := decide_eq_true h0
    have e2 : decide (0 ≤ x) = true := decide_eq_true h0
    rw [e2]
    clear h0
    go_enter Try.func34, Try.ntmps34
    go_wp2
    go_ret
    exact ⟨rfl, rfl⟩
  · have e1 : decide (x ≥ 0) = false := decide_eq_false h0
    have e2 : decide (0 ≤ x) = false := decide_eq_false h0
    rw [e2]
    clear h0
    go_enter Try.func34, Try.ntmps34
    go_wp2
    go_ret
    exact ⟨rfl, rfl⟩
/-- An item within its bounds? -/
def itemB (m : PMsg) : Bool := inB m.isrc && inB m.iseq && inB m.ilow && inB m.ipart && decide ((m.ikey.size : Int) ≤ 255)
abbrev icells (m : PMsg) : Array Value := #[.int .i64 m.isrc, .int .i64 m.iseq, .int .i64 m.ilow, .int .u8 m.ikind, .string m.ikey, .int .i64 m.ipart, .int .i64 m.iat, .int .i64 m.iN]
theorem bx_item {w : World} : (Instr.box 24 (.agg (icells m))).run Try.prog w = .ok (.pointer (some ⟨w.heap.size, 0, none⟩)) (w.alloc (.cells (icells m) 24)) := by
  simp [go_sem]
theorem fi_0 (g : Nat) (w : World) : (Instr.fieldAt 24 (.pointer (some ⟨g, 0, none⟩)) 0).run Try.prog w = .ok (.pointer (some ⟨g, 0, none⟩)) w := by simp [go_sem]
theorem fi_1 (g : Nat) (w : World) : (Instr.fieldAt 24 (.pointer (some ⟨g, 0, none⟩)) 1).run Try.prog w = .ok (.pointer (some ⟨g, 1, none⟩)) w := by simp [go_sem]
theorem fi_2 (g : Nat) (w : World) : (Instr.fieldAt 24 (.pointer (some ⟨g, 0, none⟩)) 2).run Try.prog w = .ok (.pointer (some ⟨g, 2, none⟩)) w := by simp [go_sem]
theorem fi_4 (g : Nat) (w : World) : (Instr.fieldAt 24 (.pointer (some ⟨g, 0, none⟩)) 4).run Try.prog w = .ok (.pointer (some ⟨g, 4, none⟩)) w := by simp [go_sem]
theorem fi_5 (g : Nat) (w : World) : (Instr.fieldAt 24 (.pointer (some ⟨g, 0, none⟩)) 5).run Try.prog w = .ok (.pointer (some ⟨g, 5, none⟩)) w := by simp [go_sem]
set_option maxRecDepth 100000 in
theorem items_any : Calls Try.prog 35 #[.agg (icells m)] W fun e W' => e = .returned (.bool (itemB m)) ∧ Below W.heap.size W W' := by
  have hL := (Live.init W).alloc (icells m) 24
  go_enter Try.func35, Try.ntmps35
  refine wp_fr (n := 27) (m := [(0, _)]) ⟨rfl, rfl, by intro p hp; simp only [List.mem_cons, List.not_mem_nil, or_false] at hp; rcases hp with rfl <;> rfl⟩ fun a0 H0 => ?_
  repeat (go_not_at_region 0; go_step)
  refine wp_region_lit ?_
  refine h_op (m' := [(1, _)]) H0 rfl (wn rfl) (R_box H0 rfl rfl bx_item) rfl (.cons rfl .nil) fun a1 H1 => ?_
  clear H0
  refine h_op (m' := [(2, _), (1, _)]) H1 rfl (wn rfl) (R_as H1 rfl rfl) rfl (.cons rfl (.cons rfl .nil)) fun a2 H2 => ?_
  clear H1
  refine h_end ?_
  generalize hw : W.alloc (.cells (icells m) 24) = w at *
  repeat (go_not_at_region 1; go_step)
  refine wp_region_lit ?_
  refine h_op (m' := [(3, _), (1, _)]) H2 rfl (wn rfl) (R_fa H2 rfl rfl (fi_0 _ _)) rfl (.cons rfl (.cons rfl .nil)) fun a3 H3 => ?_
  clear H2
  refine h_op (m' := [(4, _), (1, _)]) H3 rfl (wn rfl) (R_ld H3 rfl rfl (ld_int (hL.cell 0))) rfl (.cons rfl (.cons rfl .nil)) fun a4 H4 => ?_
  clear H3
  refine h_call H4 rfl (wn rfl) (R_call2 H4 rfl rfl rfl (fun w => by simp [go_sem])) rfl ?_
  refine (in_any _ _).mono ?_
  rintro e wx ⟨rfl, rfl⟩
  refine ⟨_, rfl, fun a5 HH => ?_⟩
  have H5 := HH [(5, _), (1, _)] (.cons rfl (.cons rfl .nil))
  clear HH H4
  refine h_op (m' := [(6, _), (1, _)]) H5 rfl (wn rfl) (R_mv H5 rfl rfl) rfl (.cons rfl (.cons rfl .nil)) fun a6 H6 => ?_
  clear H5
  replace H6 := H6.pick [(1, .pointer (some ⟨W.heap.size, 0, none⟩)), (6, .bool (inB m.isrc))] (.cons rfl (.cons rfl .nil))
  generalize ht0 : (inB m.isrc) = t0 at H6
  refine wpList_cut [_, _, _, _, _] (R := fun a' w' => Fr a' 27 [(1, .pointer (some ⟨W.heap.size, 0, none⟩)), (11, .bool (t0 && (inB m.iseq)))] ∧ Live W [(W.heap.size, icells m, 24)] w') ?_ ?_
  · cases t0
    · refine h_skip (m' := [(1, _), (6, _)]) H6 rfl (H6.wf rfl rfl rfl) rfl (.cons rfl (.cons rfl .nil)) fun a7 H7 => ?_
      clear H6
      refine h_skip (m' := [(1, _), (6, _)]) H7 rfl (H7.wf rfl rfl rfl) rfl (.cons rfl (.cons rfl .nil)) fun a8 H8 => ?_
      clear H7
      refine h_skip (m' := [(1, _), (6, _)]) H8 rfl (H8.wf rfl rfl rfl) rfl (.cons rfl (.cons rfl .nil)) fun a9 H9 => ?_
      clear H8
      refine h_op (m' := [(10, _), (1, _)]) H9 rfl (wn rfl) (R_pick H9 rfl rfl rfl) rfl (.cons rfl (.cons rfl .nil)) fun a10 H10 => ?_
      clear H9
      refine h_op (m' := [(11, _), (1, _)]) H10 rfl (wn rfl) (R_mv H10 rfl rfl) rfl (.cons rfl (.cons rfl .nil)) fun a11 H11 => ?_
      clear H10
      exact h_end ⟨H11.pick _ (.cons rfl (.cons rfl .nil)), hL⟩
    · refine h_op (m' := [(7, _), (1, _), (6, _)]) H6 rfl (H6.wt rfl rfl rfl) (R_fa H6 rfl rfl (fi_1 _ _)) rfl (.cons rfl (.cons rfl (.cons rfl .nil))) fun a7 H7 => ?_
      clear H6
      refine h_op (m' := [(8, _), (1, _), (6, _)]) H7 rfl (H7.wt rfl rfl rfl) (R_ld H7 rfl rfl (ld_int (hL.cell 1))) rfl (.cons rfl (.cons rfl (.cons rfl .nil))) fun a8 H8 => ?_
      clear H7
      refine h_call H8 rfl (H8.wt rfl rfl rfl) (R_call2 H8 rfl rfl rfl (fun w => by simp [go_sem])) rfl ?_
      refine (in_any _ _).mono ?_
      rintro e wx ⟨rfl, rfl⟩
      refine ⟨_, rfl, fun a9 HH => ?_⟩
      have H9 := HH [(9, _), (1, _), (6, _)] (.cons rfl (.cons rfl (.cons rfl .nil)))
      clear HH H8
      refine h_op (m' := [(10, _), (1, _)]) H9 rfl (wn rfl) (R_pick H9 rfl rfl rfl) rfl (.cons rfl (.cons rfl .nil)) fun a10 H10 => ?_
      clear H9
      refine h_op (m' := [(11, _), (1, _)]) H10 rfl (wn rfl) (R_mv H10 rfl rfl) rfl (.cons rfl (.cons rfl .nil)) fun a11 H11 => ?_
      clear H10
      exact h_end ⟨H11.pick _ (.cons rfl (.cons rfl .nil)), hL⟩
  clear hL H6
  rintro a12 wx ⟨H12, hL⟩
  generalize ht1 : (t0 && (inB m.iseq)) = t1 at H12
  refine wpList_cut [_, _, _, _, _] (R := fun a' w' => Fr a' 27 [(1, .pointer (some ⟨W.heap.size, 0, none⟩)), (16, .bool (t1 && (inB m.ilow)))] ∧ Live W [(W.heap.size, icells m, 24)] w') ?_ ?_
  · cases t1
    · refine h_skip (m' := [(1, _), (11, _)]) H12 rfl (H12.wf rfl rfl rfl) rfl (.cons rfl (.cons rfl .nil)) fun a13 H13 => ?_
      clear H12
      refine h_skip (m' := [(1, _), (11, _)]) H13 rfl (H13.wf rfl rfl rfl) rfl (.cons rfl (.cons rfl .nil)) fun a14 H14 => ?_
      clear H13
      refine h_skip (m' := [(1, _), (11, _)]) H14 rfl (H14.wf rfl rfl rfl) rfl (.cons rfl (.cons rfl .nil)) fun a15 H15 => ?_
      clear H14
      refine h_op (m' := [(15, _), (1, _)]) H15 rfl (wn rfl) (R_pick H15 rfl rfl rfl) rfl (.cons rfl (.cons rfl .nil)) fun a16 H16 => ?_
      clear H15
      refine h_op (m' := [(16, _), (1, _)]) H16 rfl (wn rfl) (R_mv H16 rfl rfl) rfl (.cons rfl (.cons rfl .nil)) fun a17 H17 => ?_
      clear H16
      exact h_end ⟨H17.pick _ (.cons rfl (.cons rfl .nil)), hL⟩
    · refine h_op (m' := [(12, _), (1, _), (11, _)]) H12 rfl (H12.wt rfl rfl rfl) (R_fa H12 rfl rfl (fi_2 _ _)) rfl (.cons rfl (.cons rfl (.cons rfl .nil))) fun a13 H13 => ?_
      clear H12
      refine h_op (m' := [(13, _), (1, _), (11, _)]) H13 rfl (H13.wt rfl rfl rfl) (R_ld H13 rfl rfl (ld_int (hL.cell 2))) rfl (.cons rfl (.cons rfl (.cons rfl .nil))) fun a14 H14 => ?_
      clear H13
      refine h_call H14 rfl (H14.wt rfl rfl rfl) (R_call2 H14 rfl rfl rfl (fun w => by simp [go_sem])) rfl ?_
      refine (in_any _ _).mono ?_
      rintro e wx ⟨rfl, rfl⟩
      refine ⟨_, rfl, fun a15 HH => ?_⟩
      have H15 := HH [(14, _), (1, _), (11, _)] (.cons rfl (.cons rfl (.cons rfl .nil)))
      clear HH H14
      refine h_op (m' := [(15, _), (1, _)]) H15 rfl (wn rfl) (R_pick H15 rfl rfl rfl) rfl (.cons rfl (.cons rfl .nil)) fun a16 H16 => ?_
      clear H15
      refine h_op (m' := [(16, _), (1, _)]) H16 rfl (wn rfl) (R_mv H16 rfl rfl) rfl (.cons rfl (.cons rfl .nil)) fun a17 H17 => ?_
      clear H16
      exact h_end ⟨H17.pick _ (.cons rfl (.cons rfl .nil)), hL⟩
  clear hL H12
  rintro a18 wx ⟨H18, hL⟩
  generalize ht2 : (t1 && (inB m.ilow)) = t2 at H18
  refine wpList_cut [_, _, _, _, _] (R := fun a' w' => Fr a' 27 [(1, .pointer (some ⟨W.heap.size, 0, none⟩)), (21, .bool (t2 && (inB m.ipart)))] ∧ Live W [(W.heap.size, icells m, 24)] w') ?_ ?_
  · cases t2
    · refine h_skip (m' := [(1, _), (16, _)]) H18 rfl (H18.wf rfl rfl rfl) rfl (.cons rfl (.cons rfl .nil)) fun a19 H19 => ?_
      clear H18
      refine h_skip (m' := [(1, _), (16, _)]) H19 rfl (H19.wf rfl rfl rfl) rfl (.cons rfl (.cons rfl .nil)) fun a20 H20 => ?_
      clear H19
      refine h_skip (m' := [(1, _), (16, _)]) H20 rfl (H20.wf rfl rfl rfl) rfl (.cons rfl (.cons rfl .nil)) fun a21 H21 => ?_
      clear H20
      refine h_op (m' := [(20, _), (1, _)]) H21 rfl (wn rfl) (R_pick H21 rfl rfl rfl) rfl (.cons rfl (.cons rfl .nil)) fun a22 H22 => ?_
      clear H21
      refine h_op (m' := [(21, _), (1, _)]) H22 rfl (wn rfl) (R_mv H22 rfl rfl) rfl (.cons rfl (.cons rfl .nil)) fun a23 H23 => ?_
      clear H22
      exact h_end ⟨H23.pick _ (.cons rfl (.cons rfl .nil)), hL⟩
    · refine h_op (m' := [(17, _), (1, _), (16, _)]) H18 rfl (H18.wt rfl rfl rfl) (R_fa H18 rfl rfl (fi_5 _ _)) rfl (.cons rfl (.cons rfl (.cons rfl .nil))) fun a19 H19 => ?_
      clear H18
      refine h_op (m' := [(18, _), (1, _), (16, _)]) H19 rfl (H19.wt rfl rfl rfl) (R_ld H19 rfl rfl (ld_int (hL.cell 5))) rfl (.cons rfl (.cons rfl (.cons rfl .nil))) fun a20 H20 => ?_
      clear H19
      refine h_call H20 rfl (H20.wt rfl rfl rfl) (R_call2 H20 rfl rfl rfl (fun w => by simp [go_sem])) rfl ?_
      refine (in_any _ _).mono ?_
      rintro e wx ⟨rfl, rfl⟩
      refine ⟨_, rfl, fun a21 HH => ?_⟩
      have H21 := HH [(19, _), (1, _), (16, _)] (.cons rfl (.cons rfl (.cons rfl .nil)))
      clear HH H20
      refine h_op (m' := [(20, _), (1, _)]) H21 rfl (wn rfl) (R_pick H21 rfl rfl rfl) rfl (.cons rfl (.cons rfl .nil)) fun a22 H22 => ?_
      clear H21
      refine h_op (m' := [(21, _), (1, _)]) H22 rfl (wn rfl) (R_mv H22 rfl rfl) rfl (.cons rfl (.cons rfl .nil)) fun a23 H23 => ?_
      clear H22
      exact h_end ⟨H23.pick _ (.cons rfl (.cons rfl .nil)), hL⟩
  clear hL H18
  rintro a24 wx ⟨H24, hL⟩
  generalize ht3 : (t2 && (inB m.ipart)) = t3 at H24
  refine wpList_cut [_, _, _, _, _, _] (R := fun a' w' => Fr a' 27 [(1, .pointer (some ⟨W.heap.size, 0, none⟩)), (2, .bool (t3 && (decide ((m.ikey.size : Int) ≤ 255))))] ∧ Live W [(W.heap.size, icells m, 24)] w') ?_ ?_
  · cases t3
    · refine h_skip (m' := [(1, _), (21, _)]) H24 rfl (H24.wf rfl rfl rfl) rfl (.cons rfl (.cons rfl .nil)) fun a25 H25 => ?_
      clear H24
      refine h_skip (m' := [(1, _), (21, _)]) H25 rfl (H25.wf rfl rfl rfl) rfl (.cons rfl (.cons rfl .nil)) fun a26 H26 => ?_
      clear H25
      refine h_skip (m' := [(1, _), (21, _)]) H26 rfl (H26.wf rfl rfl rfl) rfl (.cons rfl (.cons rfl .nil)) fun a27 H27 => ?_
      clear H26
      refine h_skip (m' := [(1, _), (21, _)]) H27 rfl (H27.wf rfl rfl rfl) rfl (.cons rfl (.cons rfl .nil)) fun a28 H28 => ?_
      clear H27
      refine h_op (m' := [(26, _), (1, _)]) H28 rfl (wn rfl) (R_pick H28 rfl rfl rfl) rfl (.cons rfl (.cons rfl .nil)) fun a29 H29 => ?_
      clear H28
      refine h_op (m' := [(2, _), (1, _)]) H29 rfl (wn rfl) (R_as H29 rfl rfl) rfl (.cons rfl (.cons rfl .nil)) fun a30 H30 => ?_
      clear H29
      exact h_end ⟨H30.pick _ (.cons rfl (.cons rfl .nil)), hL⟩
    · refine h_op (m' := [(22, _), (1, _), (21, _)]) H24 rfl (H24.wt rfl rfl rfl) (R_fa H24 rfl rfl (fi_4 _ _)) rfl (.cons rfl (.cons rfl (.cons rfl .nil))) fun a25 H25 => ?_
      clear H24
      refine h_op (m' := [(23, _), (1, _), (21, _)]) H25 rfl (H25.wt rfl rfl rfl) (R_ld H25 rfl rfl (ld_str (hL.cell 4))) rfl (.cons rfl (.cons rfl (.cons rfl .nil))) fun a26 H26 => ?_
      clear H25
      refine h_op (m' := [(24, _), (1, _), (21, _)]) H26 rfl (H26.wt rfl rfl rfl) (R_len H26 rfl rfl Try.underlying9) rfl (.cons rfl (.cons rfl (.cons rfl .nil))) fun a27 H27 => ?_
      clear H26
      refine h_op (m' := [(25, _), (1, _), (21, _)]) H27 rfl (H27.wt rfl rfl rfl) (R_bin H27 rfl rfl rfl (B_le Try.underlying3 _ _)) rfl (.cons rfl (.cons rfl (.cons rfl .nil))) fun a28 H28 => ?_
      clear H27
      refine h_op (m' := [(26, _), (1, _)]) H28 rfl (wn rfl) (R_pick H28 rfl rfl rfl) rfl (.cons rfl (.cons rfl .nil)) fun a29 H29 => ?_
      clear H28
      refine h_op (m' := [(2, _), (1, _)]) H29 rfl (wn rfl) (R_as H29 rfl rfl) rfl (.cons rfl (.cons rfl .nil)) fun a30 H30 => ?_
      clear H29
      exact h_end ⟨H30.pick _ (.cons rfl (.cons rfl .nil)), hL⟩
  clear hL H24
  rintro a31 wx ⟨H31, hL⟩
  generalize ht4 : (t3 && (decide ((m.ikey.size : Int) ≤ 255))) = t4 at H31
  subst ht0 ht1 ht2 ht3 ht4
  refine h_end ?_
  repeat (go_not_at_region 999; go_step)
  exact H31.ret1 rfl rfl ⟨rfl, hL.1⟩
theorem lists_any (hv : Rd W v l) (top : Int) (hl : l.length ≤ 1000000000000) : Calls Try.prog 36 #[v, .int .i64 top] W fun e W' => e = .returned (.bool (l.all inB && decide ((l.length : Int) ≤ top))) ∧ W' = W := by
  obtain ⟨A, c, rfl⟩ := hv.slc
  go_enter Try.func36, Try.ntmps36
  refine wp_fr (n := 22) (m := [(0, _), (1, _)]) ⟨rfl, rfl, by intro p hp; simp only [List.mem_cons, List.not_mem_nil, or_false] at hp; rcases hp with rfl | rfl <;> rfl⟩ fun a0 H0 => ?_
  repeat (go_not_at_region 0; go_step)
  refine wp_region_lit ?_
  refine h_op (m' := [(0, _), (1, _)]) H0 rfl (wn rfl) (R_as H0 rfl rfl) rfl (.cons rfl (.cons rfl .nil)) fun a1 H1 => ?_
  clear H0
  refine h_end ?_
  repeat (go_not_at_region 1; go_step)
  refine wp_region_lit ?_
  refine h_op (m' := [(5, _), (0, _), (1, _)]) H1 rfl (wn rfl) (R_as H1 rfl rfl) rfl (.cons rfl (.cons rfl (.cons rfl .nil))) fun a2 H2 => ?_
  clear H1
  refine h_end ?_
  repeat (go_not_at_region 2; go_step)
  obtain ⟨I, hI⟩ : ∃ I : Nat → Act → World → Prop, ∀ n a' w', I n a' w' ↔ ∃ j : Nat, n = l.length - j ∧ j ≤ l.length ∧ (l.take j).all inB = true ∧ Fr a' 22 [(0, .slice A l.length c), (1, .int .i64 top), (5, .int .i64 j)] ∧ w' = W := ⟨_, fun _ _ _ => Iff.rfl⟩
  have HI := Lib.hid hI
  clear hI
  refine wp_loop_ghost I l.length ((HI.out _ _ _).2 ⟨0, rfl, Nat.zero_le _, rfl, H2.pick _ (.cons rfl (.cons rfl (.cons rfl .nil))), rfl⟩) ?_
  intro n a1 w1 hi
  obtain ⟨j, rfl, hj, hall, H0, rfl⟩ := (HI.out _ _ _).1 hi
  clear hi
  by_cases hjl : j < l.length
  · repeat (go_not_at_region 2; go_step)
    refine wp_region_lit ?_
    refine h_op (m' := [(6, _), (0, _), (1, _), (5, _)]) H0 rfl (wn rfl) (R_mv H0 rfl rfl) rfl (.cons rfl (.cons rfl (.cons rfl (.cons rfl .nil)))) fun a1 H1 => ?_
    clear H0
    refine h_op (m' := [(7, _), (6, _), (0, _), (1, _), (5, _)]) H1 rfl (wn rfl) (R_mv H1 rfl rfl) rfl (.cons rfl (.cons rfl (.cons rfl (.cons rfl (.cons rfl .nil))))) fun a2 H2 => ?_
    clear H1
    refine h_op (m' := [(8, _), (6, _), (0, _), (1, _), (5, _)]) H2 rfl (wn rfl) (R_lenS H2 rfl rfl Try.underlying25) rfl (.cons rfl (.cons rfl (.cons rfl (.cons rfl (.cons rfl .nil))))) fun a3 H3 => ?_
    clear H2
    refine h_op (m' := [(9, _), (0, _), (1, _), (5, _)]) H3 rfl (wn rfl) (R_bin H3 rfl rfl rfl (B_to (y := true) (B_lt Try.underlying3 _ _) (decide_eq_true (by omega)))) rfl (.cons rfl (.cons rfl (.cons rfl (.cons rfl .nil)))) fun a4 H4 => ?_
    clear H3
    refine h_end ?_
    repeat (go_not_at_region 4; go_step)
    refine wp_cond_true (H4.ev (x := .tmp 9) rfl) ?_
    obtain ⟨ad, rfl, hx⟩ := hv.elem hjl
    repeat (go_not_at_region 4; go_step)
    refine wp_region_lit ?_
    refine h_op (m' := [(12, _), (0, _), (1, _), (5, _)]) H4 rfl (wn rfl) (R_mv H4 rfl rfl) rfl (.cons rfl (.cons rfl (.cons rfl (.cons rfl .nil)))) fun a5 H5 => ?_
    clear H4
    refine h_op (m' := [(13, _), (12, _), (0, _), (1, _), (5, _)]) H5 rfl (wn rfl) (R_mv H5 rfl rfl) rfl (.cons rfl (.cons rfl (.cons rfl (.cons rfl (.cons rfl .nil))))) fun a6 H6 => ?_
    clear H5
    refine h_op (m' := [(14, _), (0, _), (1, _), (5, _)]) H6 rfl (wn rfl) (R_ixa H6 rfl rfl rfl (ix_at hjl)) rfl (.cons rfl (.cons rfl (.cons rfl (.cons rfl .nil)))) fun a7 H7 => ?_
    clear H6
    refine h_op (m' := [(15, _), (0, _), (1, _), (5, _)]) H7 rfl (wn rfl) (R_ld H7 rfl rfl (ld_int hx)) rfl (.cons rfl (.cons rfl (.cons rfl (.cons rfl .nil)))) fun a8 H8 => ?_
    clear H7
    refine h_call H8 rfl (wn rfl) (R_call2 H8 rfl rfl rfl (fun w => by simp [go_sem])) rfl ?_
    refine (in_any _ _).mono ?_
    rintro e wx ⟨rfl, rfl⟩
    refine ⟨_, rfl, fun a9 HH => ?_⟩
    have H9 := HH [(16, _), (0, _), (1, _), (5, _)] (.cons rfl (.cons rfl (.cons rfl (.cons rfl .nil))))
    clear HH H8
    refine h_op (m' := [(17, _), (0, _), (1, _), (5, _)]) H9 rfl (wn rfl) (R_not H9 rfl rfl) rfl (.cons rfl (.cons rfl (.cons rfl (.cons rfl .nil)))) fun a10 H10 => ?_
    clear H9
    refine h_end ?_
    repeat (go_not_at_region 5; go_step)
    cases hb : inB (l.getD j 0)
    · refine wp_cond (t := true) ((H10.ev (x := .tmp 17) rfl).trans (congrArg (fun b => Value.bool (!b)) hb)) ?_
      simp only [if_true]
      repeat (go_not_at_region 5; go_step)
      refine wp_region_lit ?_
      refine h_op (m' := [(4, _)]) H10 rfl (wn rfl) (R_as H10 rfl rfl) rfl (.cons rfl .nil) fun a11 H11 => ?_
      clear H10
      refine h_end ?_
      repeat (go_not_at_region 999; go_step)
      refine H11.ret1 rfl rfl ⟨?_, rfl⟩
      have hf : l.all inB = false := all_false hjl hb
      rw [hf]
      rfl
    · refine wp_cond (t := false) ((H10.ev (x := .tmp 17) rfl).trans (congrArg (fun b => Value.bool (!b)) hb)) ?_
      simp only [Bool.false_eq_true, if_false]
      repeat (go_not_at_region 3; go_step)
      refine wp_region_lit ?_
      refine h_op (m' := [(10, _), (0, _), (1, _), (5, _)]) H10 rfl (wn rfl) (R_mv H10 rfl rfl) rfl (.cons rfl (.cons rfl (.cons rfl (.cons rfl .nil)))) fun a11 H11 => ?_
      clear H10
      refine h_op (m' := [(11, _), (0, _), (1, _), (5, _)]) H11 rfl (wn rfl) (R_bin H11 rfl rfl rfl (B_add Try.underlying3 _ _ (by omega) (by omega))) rfl (.cons rfl (.cons rfl (.cons rfl (.cons rfl .nil)))) fun a12 H12 => ?_
      clear H11
      refine h_op (m' := [(5, _), (0, _), (1, _)]) H12 rfl (wn rfl) (R_as H12 rfl rfl) rfl (.cons rfl (.cons rfl (.cons rfl .nil))) fun a13 H13 => ?_
      clear H12
      refine h_end ?_
      repeat (go_not_at_region 999; go_step)
      refine ⟨l.length - (j + 1), by omega, (HI.out _ _ _).2 ⟨j + 1, rfl, hjl, all_more hall hjl hb, H13.pick _ (.cons rfl (.cons rfl (.cons rfl .nil))), rfl⟩⟩
  · repeat (go_not_at_region 2; go_step)
    refine wp_region_lit ?_
    refine h_op (m' := [(6, _), (0, _), (1, _), (5, _)]) H0 rfl (wn rfl) (R_mv H0 rfl rfl) rfl (.cons rfl (.cons rfl (.cons rfl (.cons rfl .nil)))) fun a1 H1 => ?_
    clear H0
    refine h_op (m' := [(7, _), (6, _), (0, _), (1, _), (5, _)]) H1 rfl (wn rfl) (R_mv H1 rfl rfl) rfl (.cons rfl (.cons rfl (.cons rfl (.cons rfl (.cons rfl .nil))))) fun a2 H2 => ?_
    clear H1
    refine h_op (m' := [(8, _), (6, _), (0, _), (1, _), (5, _)]) H2 rfl (wn rfl) (R_lenS H2 rfl rfl Try.underlying25) rfl (.cons rfl (.cons rfl (.cons rfl (.cons rfl (.cons rfl .nil))))) fun a3 H3 => ?_
    clear H2
    refine h_op (m' := [(9, _), (0, _), (1, _), (5, _)]) H3 rfl (wn rfl) (R_bin H3 rfl rfl rfl (B_to (y := false) (B_lt Try.underlying3 _ _) (decide_eq_false (by omega)))) rfl (.cons rfl (.cons rfl (.cons rfl (.cons rfl .nil)))) fun a4 H4 => ?_
    clear H3
    refine h_end ?_
    repeat (go_not_at_region 4; go_step)
    refine wp_cond_false (H4.ev (x := .tmp 9) rfl) ?_
    repeat (go_not_at_region 6; go_step)
    refine wp_region_lit ?_
    refine h_op (m' := [(18, _), (1, _)]) H4 rfl (wn rfl) (R_mv H4 rfl rfl) rfl (.cons rfl (.cons rfl .nil)) fun a5 H5 => ?_
    clear H4
    refine h_op (m' := [(19, _), (1, _)]) H5 rfl (wn rfl) (R_lenS H5 rfl rfl Try.underlying25) rfl (.cons rfl (.cons rfl .nil)) fun a6 H6 => ?_
    clear H5
    refine h_op (m' := [(20, _), (19, _)]) H6 rfl (wn rfl) (R_mv H6 rfl rfl) rfl (.cons rfl (.cons rfl .nil)) fun a7 H7 => ?_
    clear H6
    refine h_op (m' := [(21, _)]) H7 rfl (wn rfl) (R_bin H7 rfl rfl rfl (B_le Try.underlying3 _ _)) rfl (.cons rfl .nil) fun a8 H8 => ?_
    clear H7
    refine h_op (m' := [(4, _)]) H8 rfl (wn rfl) (R_as H8 rfl rfl) rfl (.cons rfl .nil) fun a9 H9 => ?_
    clear H8
    refine h_end ?_
    repeat (go_not_at_region 999; go_step)
    refine H9.ret1 rfl rfl ⟨?_, rfl⟩
    have ht : l.all inB = true := by
      rw [← hall, List.take_of_length_le (by omega)]
    rw [ht]
    rfl
/-- Right, by the document. -/
def okR (m : PMsg) : Bool := sameB m (onlyM m) && inB m.move && inB m.part && inB m.to && inB m.n && inB m.count && inB m.code && itemB m && inB m.epoch && inB m.nodes && (m.owner.all inB && decide ((m.owner.length : Int) ≤ 64)) && (m.set.all inB && decide ((m.set.length : Int) ≤ 1024)) && decide ((m.data.size : Int) ≤ 1024)
def rightR (m : PMsg) : Int := if 1 ≤ m.kind ∧ m.kind ≤ 14 then (if okR m = true then 0 else 1) else 10
theorem only_len (m : PMsg) : (onlyM m).owner.length ≤ m.owner.length ∧ (onlyM m).set.length ≤ m.set.length := by
  unfold onlyM
  generalize m.kind = k
  unfold prs
  split <;> simp [updL, pr_kind, pr_move, pr_part, pr_to, pr_n, pr_count, pr_code, pr_digest, pr_at_, pr_isrc, pr_iseq, pr_ilow, pr_ikind, pr_ikey, pr_ipart, pr_iat, pr_iN, pr_epoch, pr_nodes, pr_data, pr_owner, pr_set, PMsg.zero]
set_option maxRecDepth 100000 in
set_option maxHeartbeats 4000000 in
theorem refRight_any (h1 : Rd W vo m.owner) (h2 : Rd W vs m.set) (l1 : m.owner.length ≤ 1000000000000) (l2 : m.set.length ≤ 1000000000000) : Calls Try.prog 19 #[.agg (mcells m vo vs)] W fun e W' => e = .returned (.int .i64 (rightR m)) ∧ Below W.heap.size W W' := by
  have hL := Live.init W
  obtain ⟨A1, c1, rfl⟩ := h1.slc
  obtain ⟨A2, c2, rfl⟩ := h2.slc
  have K1 : ∀ {w}, Below W.heap.size W w → Rd w (.slice A1 m.owner.length c1) m.owner := fun hb => h1.kept fun k hk => hb.block k hk
  have K2 : ∀ {w}, Below W.heap.size W w → Rd w (.slice A2 m.set.length c2) m.set := fun hb => h2.kept fun k hk => hb.block k hk
  have hon := only_len m
  obtain ⟨r, hr⟩ : ∃ r, r = rightR m := ⟨_, rfl⟩
  rw [← hr]
  have Hr := Lib.hid hr
  clear hr
  go_enter Try.func19, Try.ntmps19
  refine wp_fr (n := 82) (m := [(0, _)]) ⟨rfl, rfl, by intro p hp; simp only [List.mem_cons, List.not_mem_nil, or_false] at hp; rcases hp with rfl <;> rfl⟩ fun a0 H0 => ?_
  repeat (go_not_at_region 0; go_step)
  refine wp_region_lit ?_
  refine h_opL [(W.heap.size, mcells m (.slice A1 m.owner.length c1) (.slice A2 m.set.length c2), 29)] (m' := [(1, _)]) H0 rfl (wn rfl) (R_box H0 rfl rfl bx_row) (hL.alloc _ _) rfl (.cons rfl .nil) fun a1 w1 H1 hL' => ?_
  replace hL := hL'
  clear H0 hL'
  refine h_op (m' := [(1, _)]) H1 rfl (wn rfl) (R_as H1 rfl rfl) rfl (.cons rfl .nil) fun a2 H2 => ?_
  clear H1
  refine h_end ?_
  by_cases k1 : m.kind < 1
  · repeat (go_not_at_region 1; go_step)
    refine wp_region_lit ?_
    refine h_op (m' := [(4, _), (1, _)]) H2 rfl (wn rfl) (R_fa H2 rfl rfl (fa29_0 _ _)) rfl (.cons rfl (.cons rfl .nil)) fun a3 H3 => ?_
    clear H2
    refine h_op (m' := [(5, _), (1, _)]) H3 rfl (wn rfl) (R_ld H3 rfl rfl (ld_u8 (hL.cell 0))) rfl (.cons rfl (.cons rfl .nil)) fun a4 H4 => ?_
    clear H3
    refine h_op (m' := [(6, _), (1, _)]) H4 rfl (wn rfl) (R_bin H4 rfl rfl rfl (B_to (y := true) (B8_lt _ _) (decide_eq_true (by omega)))) rfl (.cons rfl (.cons rfl .nil)) fun a5 H5 => ?_
    clear H4
    refine h_op (m' := [(7, _), (1, _)]) H5 rfl (wn rfl) (R_mv H5 rfl rfl) rfl (.cons rfl (.cons rfl .nil)) fun a6 H6 => ?_
    clear H5
    refine h_skip (m' := [(7, _), (1, _)]) H6 rfl (H6.wf rfl rfl rfl) rfl (.cons rfl (.cons rfl .nil)) fun a7 H7 => ?_
    clear H6
    refine h_skip (m' := [(7, _), (1, _)]) H7 rfl (H7.wf rfl rfl rfl) rfl (.cons rfl (.cons rfl .nil)) fun a8 H8 => ?_
    clear H7
    refine h_skip (m' := [(7, _), (1, _)]) H8 rfl (H8.wf rfl rfl rfl) rfl (.cons rfl (.cons rfl .nil)) fun a9 H9 => ?_
    clear H8
    refine h_op (m' := [(11, _), (1, _)]) H9 rfl (wn rfl) (R_pick H9 rfl rfl rfl) rfl (.cons rfl (.cons rfl .nil)) fun a10 H10 => ?_
    clear H9
    refine h_end ?_
    repeat (go_not_at_region 2; go_step)
    refine wp_cond_true (H10.ev (x := .tmp 11) rfl) ?_
    repeat (go_not_at_region 2; go_step)
    refine wp_region_lit ?_
    refine h_op (m' := [(2, _)]) H10 rfl (wn rfl) (R_as H10 rfl rfl) rfl (.cons rfl .nil) fun a11 H11 => ?_
    clear H10
    refine h_end ?_
    repeat (go_not_at_region 999; go_step)
    refine H11.ret1 (v := .int .i64 10) rfl rfl ⟨?_, hL.1⟩
    rw [Hr.out]
    unfold rightR
    rw [if_neg (by omega)]
  by_cases k2 : 14 < m.kind
  · repeat (go_not_at_region 1; go_step)
    refine wp_region_lit ?_
    refine h_op (m' := [(4, _), (1, _)]) H2 rfl (wn rfl) (R_fa H2 rfl rfl (fa29_0 _ _)) rfl (.cons rfl (.cons rfl .nil)) fun a3 H3 => ?_
    clear H2
    refine h_op (m' := [(5, _), (1, _)]) H3 rfl (wn rfl) (R_ld H3 rfl rfl (ld_u8 (hL.cell 0))) rfl (.cons rfl (.cons rfl .nil)) fun a4 H4 => ?_
    clear H3
    refine h_op (m' := [(6, _), (1, _)]) H4 rfl (wn rfl) (R_bin H4 rfl rfl rfl (B_to (y := false) (B8_lt _ _) (decide_eq_false (by omega)))) rfl (.cons rfl (.cons rfl .nil)) fun a5 H5 => ?_
    clear H4
    refine h_op (m' := [(7, _), (1, _)]) H5 rfl (wn rfl) (R_mv H5 rfl rfl) rfl (.cons rfl (.cons rfl .nil)) fun a6 H6 => ?_
    clear H5
    refine h_op (m' := [(8, _), (7, _), (1, _)]) H6 rfl (H6.wt rfl rfl rfl) (R_fa H6 rfl rfl (fa29_0 _ _)) rfl (.cons rfl (.cons rfl (.cons rfl .nil))) fun a7 H7 => ?_
    clear H6
    refine h_op (m' := [(9, _), (7, _), (1, _)]) H7 rfl (H7.wt rfl rfl rfl) (R_ld H7 rfl rfl (ld_u8 (hL.cell 0))) rfl (.cons rfl (.cons rfl (.cons rfl .nil))) fun a8 H8 => ?_
    clear H7
    refine h_op (m' := [(10, _), (7, _), (1, _)]) H8 rfl (H8.wt rfl rfl rfl) (R_bin H8 rfl rfl rfl (B_to (y := true) (B8_gt _ _) (decide_eq_true (by omega)))) rfl (.cons rfl (.cons rfl (.cons rfl .nil))) fun a9 H9 => ?_
    clear H8
    refine h_op (m' := [(11, _), (1, _)]) H9 rfl (wn rfl) (R_pick H9 rfl rfl rfl) rfl (.cons rfl (.cons rfl .nil)) fun a10 H10 => ?_
    clear H9
    refine h_end ?_
    repeat (go_not_at_region 2; go_step)
    refine wp_cond_true (H10.ev (x := .tmp 11) rfl) ?_
    repeat (go_not_at_region 2; go_step)
    refine wp_region_lit ?_
    refine h_op (m' := [(2, _)]) H10 rfl (wn rfl) (R_as H10 rfl rfl) rfl (.cons rfl .nil) fun a11 H11 => ?_
    clear H10
    refine h_end ?_
    repeat (go_not_at_region 999; go_step)
    refine H11.ret1 (v := .int .i64 10) rfl rfl ⟨?_, hL.1⟩
    rw [Hr.out]
    unfold rightR
    rw [if_neg (by omega)]
  repeat (go_not_at_region 1; go_step)
  refine wp_region_lit ?_
  refine h_op (m' := [(4, _), (1, _)]) H2 rfl (wn rfl) (R_fa H2 rfl rfl (fa29_0 _ _)) rfl (.cons rfl (.cons rfl .nil)) fun a3 H3 => ?_
  clear H2
  refine h_op (m' := [(5, _), (1, _)]) H3 rfl (wn rfl) (R_ld H3 rfl rfl (ld_u8 (hL.cell 0))) rfl (.cons rfl (.cons rfl .nil)) fun a4 H4 => ?_
  clear H3
  refine h_op (m' := [(6, _), (1, _)]) H4 rfl (wn rfl) (R_bin H4 rfl rfl rfl (B_to (y := false) (B8_lt _ _) (decide_eq_false (by omega)))) rfl (.cons rfl (.cons rfl .nil)) fun a5 H5 => ?_
  clear H4
  refine h_op (m' := [(7, _), (1, _)]) H5 rfl (wn rfl) (R_mv H5 rfl rfl) rfl (.cons rfl (.cons rfl .nil)) fun a6 H6 => ?_
  clear H5
  refine h_op (m' := [(8, _), (7, _), (1, _)]) H6 rfl (H6.wt rfl rfl rfl) (R_fa H6 rfl rfl (fa29_0 _ _)) rfl (.cons rfl (.cons rfl (.cons rfl .nil))) fun a7 H7 => ?_
  clear H6
  refine h_op (m' := [(9, _), (7, _), (1, _)]) H7 rfl (H7.wt rfl rfl rfl) (R_ld H7 rfl rfl (ld_u8 (hL.cell 0))) rfl (.cons rfl (.cons rfl (.cons rfl .nil))) fun a8 H8 => ?_
  clear H7
  refine h_op (m' := [(10, _), (7, _), (1, _)]) H8 rfl (H8.wt rfl rfl rfl) (R_bin H8 rfl rfl rfl (B_to (y := false) (B8_gt _ _) (decide_eq_false (by omega)))) rfl (.cons rfl (.cons rfl (.cons rfl .nil))) fun a9 H9 => ?_
  clear H8
  refine h_op (m' := [(11, _), (1, _)]) H9 rfl (wn rfl) (R_pick H9 rfl rfl rfl) rfl (.cons rfl (.cons rfl .nil)) fun a10 H10 => ?_
  clear H9
  refine h_end ?_
  repeat (go_not_at_region 3; go_step)
  refine wp_cond_false (H10.ev (x := .tmp 11) rfl) ?_
  repeat (go_not_at_region 3; go_step)
  refine wp_region_held_drew (S := fun w' => Live W [(W.heap.size, mcells m (.slice A1 m.owner.length c1) (.slice A2 m.set.length c2), 29)] w') (by kernel_rfl) hL.drew (fun hL' => ?_)
  replace hL := hL'
  clear hL'
  refine a_op (m' := [(12, _), (1, _)]) 0 H10 rfl rfl (by kernel_rfl) (by kernel_rfl) (by kernel_rfl) (fun _ _ _ h => h) (wn rfl) (fun w hL => R_ld H10 rfl rfl (ld_row hL.at_)) hL rfl (.cons rfl (.cons rfl .nil)) fun a11 H11 => ?_
  clear H10
  refine a_op (m' := [(13, _), (12, _), (1, _)]) 1 H11 rfl rfl (by kernel_rfl) (by kernel_rfl) (by kernel_rfl) (fun _ _ _ h => h) (wn rfl) (fun w hL => R_ld H11 rfl rfl (ld_row hL.at_)) hL rfl (.cons rfl (.cons rfl (.cons rfl .nil))) fun a12 H12 => ?_
  clear H11
  refine a_call 2 H12 (by kernel_rfl) rfl rfl (wn rfl) (R_call1 H12 rfl rfl (fun w => by simp [go_sem])) rfl ?_
  refine (Only_any (K1 hL.1) (K2 hL.1)).mono ?_
  rintro e w13 ⟨vo', vs', rfl, ho', hs', hb⟩
  replace hL := hL.call hb
  clear hb
  refine ⟨_, rfl, hL, fun a13 HH => ?_⟩
  have H13 := HH [(14, _), (12, _), (1, _)] (.cons rfl (.cons rfl (.cons rfl .nil)))
  clear HH H12
  refine a_call 3 H13 (by kernel_rfl) rfl rfl (wn rfl) (R_call2 H13 rfl rfl rfl (fun w => by simp [go_sem])) rfl ?_
  refine (refSame_any (K1 hL.1) (K2 hL.1) (ho' _ (K1 hL.1)) (hs' _ (K2 hL.1)) l1 l2 (by omega) (by omega)).mono ?_
  rintro e w14 ⟨rfl, hb⟩
  replace hL := hL.call hb
  clear hb ho' hs'
  refine ⟨_, rfl, hL, fun a14 HH => ?_⟩
  have H14 := HH [(15, _), (1, _)] (.cons rfl (.cons rfl .nil))
  clear HH H13
  refine a_op (m' := [(16, _), (1, _)]) 4 H14 rfl rfl (by kernel_rfl) (by kernel_rfl) (by kernel_rfl) (fun _ _ _ h => h) (wn rfl) (fun w hL => R_mv H14 rfl rfl) hL rfl (.cons rfl (.cons rfl .nil)) fun a15 H15 => ?_
  clear H14
  replace H15 := H15.pick [(16, .bool (sameB m (onlyM m))), (1, .pointer (some ⟨W.heap.size, 0, none⟩))] (.cons rfl (.cons rfl .nil))
  generalize ht0 : (sameB m (onlyM m)) = t0 at H15
  refine a_opB (m' := [(17, _), (16, _), (1, _)]) 5 H15 rfl rfl (by kernel_rfl) (by kernel_rfl) (by kernel_rfl) (fun _ _ _ h => h) rfl rfl rfl (fun hb w hL => by subst hb; exact R_fa H15 rfl rfl (fa29_1 _ _)) hL rfl (.cons rfl (.cons rfl (.cons rfl .nil))) fun a16 H16 => ?_
  clear H15
  refine a_opB (m' := [(18, _), (16, _), (1, _)]) 6 H16 rfl rfl (by kernel_rfl) (by kernel_rfl) (by kernel_rfl) (fun _ _ _ h => h) rfl rfl rfl (fun hb w hL => by subst hb; exact R_ld H16 rfl rfl (ld_int (hL.cell 1))) hL rfl (.cons rfl (.cons rfl (.cons rfl .nil))) fun a17 H17 => ?_
  clear H16
  refine a_quietB (m' := [(19, _), (16, _), (1, _)]) 7 H17 rfl rfl (by kernel_rfl) (by kernel_rfl) (by kernel_rfl) (fun _ _ _ h => h) rfl rfl rfl (fun hb w => by subst hb; exact R_call2 H17 rfl rfl rfl (fun w => by simp [go_sem])) (fun w hL => in_any m.move 2147483647) hL rfl (.cons rfl (.cons rfl (.cons rfl .nil))) fun a18 H18 => ?_
  clear H17
  refine a_op (m' := [(20, _), (1, _)]) 8 H18 rfl rfl (by kernel_rfl) (by kernel_rfl) (by kernel_rfl) (fun _ _ _ h => h) (wn rfl) (fun w hL => R_pickAnd H18 rfl rfl rfl) hL rfl (.cons rfl (.cons rfl .nil)) fun a19 H19 => ?_
  clear H18
  refine a_op (m' := [(21, _), (1, _)]) 9 H19 rfl rfl (by kernel_rfl) (by kernel_rfl) (by kernel_rfl) (fun _ _ _ h => h) (wn rfl) (fun w hL => R_mv H19 rfl rfl) hL rfl (.cons rfl (.cons rfl .nil)) fun a20 H20 => ?_
  clear H19
  replace H20 := H20.pick [(21, .bool (t0 && (inB m.move))), (1, .pointer (some ⟨W.heap.size, 0, none⟩))] (.cons rfl (.cons rfl .nil))
  generalize ht1 : (t0 && (inB m.move)) = t1 at H20
  refine a_opB (m' := [(22, _), (21, _), (1, _)]) 10 H20 rfl rfl (by kernel_rfl) (by kernel_rfl) (by kernel_rfl) (fun _ _ _ h => h) rfl rfl rfl (fun hb w hL => by subst hb; exact R_fa H20 rfl rfl (fa29_2 _ _)) hL rfl (.cons rfl (.cons rfl (.cons rfl .nil))) fun a21 H21 => ?_
  clear H20
  refine a_opB (m' := [(23, _), (21, _), (1, _)]) 11 H21 rfl rfl (by kernel_rfl) (by kernel_rfl) (by kernel_rfl) (fun _ _ _ h => h) rfl rfl rfl (fun hb w hL => by subst hb; exact R_ld H21 rfl rfl (ld_int (hL.cell 2))) hL rfl (.cons rfl (.cons rfl (.cons rfl .nil))) fun a22 H22 => ?_
  clear H21
  refine a_quietB (m' := [(24, _), (21, _), (1, _)]) 12 H22 rfl rfl (by kernel_rfl) (by kernel_rfl) (by kernel_rfl) (fun _ _ _ h => h) rfl rfl rfl (fun hb w => by subst hb; exact R_call2 H22 rfl rfl rfl (fun w => by simp [go_sem])) (fun w hL => in_any m.part 2147483647) hL rfl (.cons rfl (.cons rfl (.cons rfl .nil))) fun a23 H23 => ?_
  clear H22
  refine a_op (m' := [(25, _), (1, _)]) 13 H23 rfl rfl (by kernel_rfl) (by kernel_rfl) (by kernel_rfl) (fun _ _ _ h => h) (wn rfl) (fun w hL => R_pickAnd H23 rfl rfl rfl) hL rfl (.cons rfl (.cons rfl .nil)) fun a24 H24 => ?_
  clear H23
  refine a_op (m' := [(26, _), (1, _)]) 14 H24 rfl rfl (by kernel_rfl) (by kernel_rfl) (by kernel_rfl) (fun _ _ _ h => h) (wn rfl) (fun w hL => R_mv H24 rfl rfl) hL rfl (.cons rfl (.cons rfl .nil)) fun a25 H25 => ?_
  clear H24
  replace H25 := H25.pick [(26, .bool (t1 && (inB m.part))), (1, .pointer (some ⟨W.heap.size, 0, none⟩))] (.cons rfl (.cons rfl .nil))
  generalize ht2 : (t1 && (inB m.part)) = t2 at H25
  refine a_opB (m' := [(27, _), (26, _), (1, _)]) 15 H25 rfl rfl (by kernel_rfl) (by kernel_rfl) (by kernel_rfl) (fun _ _ _ h => h) rfl rfl rfl (fun hb w hL => by subst hb; exact R_fa H25 rfl rfl (fa29_3 _ _)) hL rfl (.cons rfl (.cons rfl (.cons rfl .nil))) fun a26 H26 => ?_
  clear H25
  refine a_opB (m' := [(28, _), (26, _), (1, _)]) 16 H26 rfl rfl (by kernel_rfl) (by kernel_rfl) (by kernel_rfl) (fun _ _ _ h => h) rfl rfl rfl (fun hb w hL => by subst hb; exact R_ld H26 rfl rfl (ld_int (hL.cell 3))) hL rfl (.cons rfl (.cons rfl (.cons rfl .nil))) fun a27 H27 => ?_
  clear H26
  refine a_quietB (m' := [(29, _), (26, _), (1, _)]) 17 H27 rfl rfl (by kernel_rfl) (by kernel_rfl) (by kernel_rfl) (fun _ _ _ h => h) rfl rfl rfl (fun hb w => by subst hb; exact R_call2 H27 rfl rfl rfl (fun w => by simp [go_sem])) (fun w hL => in_any m.to 2147483647) hL rfl (.cons rfl (.cons rfl (.cons rfl .nil))) fun a28 H28 => ?_
  clear H27
  refine a_op (m' := [(30, _), (1, _)]) 18 H28 rfl rfl (by kernel_rfl) (by kernel_rfl) (by kernel_rfl) (fun _ _ _ h => h) (wn rfl) (fun w hL => R_pickAnd H28 rfl rfl rfl) hL rfl (.cons rfl (.cons rfl .nil)) fun a29 H29 => ?_
  clear H28
  refine a_op (m' := [(31, _), (1, _)]) 19 H29 rfl rfl (by kernel_rfl) (by kernel_rfl) (by kernel_rfl) (fun _ _ _ h => h) (wn rfl) (fun w hL => R_mv H29 rfl rfl) hL rfl (.cons rfl (.cons rfl .nil)) fun a30 H30 => ?_
  clear H29
  replace H30 := H30.pick [(31, .bool (t2 && (inB m.to))), (1, .pointer (some ⟨W.heap.size, 0, none⟩))] (.cons rfl (.cons rfl .nil))
  generalize ht3 : (t2 && (inB m.to)) = t3 at H30
  refine a_opB (m' := [(32, _), (31, _), (1, _)]) 20 H30 rfl rfl (by kernel_rfl) (by kernel_rfl) (by kernel_rfl) (fun _ _ _ h => h) rfl rfl rfl (fun hb w hL => by subst hb; exact R_fa H30 rfl rfl (fa29_4 _ _)) hL rfl (.cons rfl (.cons rfl (.cons rfl .nil))) fun a31 H31 => ?_
  clear H30
  refine a_opB (m' := [(33, _), (31, _), (1, _)]) 21 H31 rfl rfl (by kernel_rfl) (by kernel_rfl) (by kernel_rfl) (fun _ _ _ h => h) rfl rfl rfl (fun hb w hL => by subst hb; exact R_ld H31 rfl rfl (ld_int (hL.cell 4))) hL rfl (.cons rfl (.cons rfl (.cons rfl .nil))) fun a32 H32 => ?_
  clear H31
  refine a_quietB (m' := [(34, _), (31, _), (1, _)]) 22 H32 rfl rfl (by kernel_rfl) (by kernel_rfl) (by kernel_rfl) (fun _ _ _ h => h) rfl rfl rfl (fun hb w => by subst hb; exact R_call2 H32 rfl rfl rfl (fun w => by simp [go_sem])) (fun w hL => in_any m.n 2147483647) hL rfl (.cons rfl (.cons rfl (.cons rfl .nil))) fun a33 H33 => ?_
  clear H32
  refine a_op (m' := [(35, _), (1, _)]) 23 H33 rfl rfl (by kernel_rfl) (by kernel_rfl) (by kernel_rfl) (fun _ _ _ h => h) (wn rfl) (fun w hL => R_pickAnd H33 rfl rfl rfl) hL rfl (.cons rfl (.cons rfl .nil)) fun a34 H34 => ?_
  clear H33
  refine a_op (m' := [(36, _), (1, _)]) 24 H34 rfl rfl (by kernel_rfl) (by kernel_rfl) (by kernel_rfl) (fun _ _ _ h => h) (wn rfl) (fun w hL => R_mv H34 rfl rfl) hL rfl (.cons rfl (.cons rfl .nil)) fun a35 H35 => ?_
  clear H34
  replace H35 := H35.pick [(36, .bool (t3 && (inB m.n))), (1, .pointer (some ⟨W.heap.size, 0, none⟩))] (.cons rfl (.cons rfl .nil))
  generalize ht4 : (t3 && (inB m.n)) = t4 at H35
  refine a_opB (m' := [(37, _), (36, _), (1, _)]) 25 H35 rfl rfl (by kernel_rfl) (by kernel_rfl) (by kernel_rfl) (fun _ _ _ h => h) rfl rfl rfl (fun hb w hL => by subst hb; exact R_fa H35 rfl rfl (fa29_5 _ _)) hL rfl (.cons rfl (.cons rfl (.cons rfl .nil))) fun a36 H36 => ?_
  clear H35
  refine a_opB (m' := [(38, _), (36, _), (1, _)]) 26 H36 rfl rfl (by kernel_rfl) (by kernel_rfl) (by kernel_rfl) (fun _ _ _ h => h) rfl rfl rfl (fun hb w hL => by subst hb; exact R_ld H36 rfl rfl (ld_int (hL.cell 5))) hL rfl (.cons rfl (.cons rfl (.cons rfl .nil))) fun a37 H37 => ?_
  clear H36
  refine a_quietB (m' := [(39, _), (36, _), (1, _)]) 27 H37 rfl rfl (by kernel_rfl) (by kernel_rfl) (by kernel_rfl) (fun _ _ _ h => h) rfl rfl rfl (fun hb w => by subst hb; exact R_call2 H37 rfl rfl rfl (fun w => by simp [go_sem])) (fun w hL => in_any m.count 2147483647) hL rfl (.cons rfl (.cons rfl (.cons rfl .nil))) fun a38 H38 => ?_
  clear H37
  refine a_op (m' := [(40, _), (1, _)]) 28 H38 rfl rfl (by kernel_rfl) (by kernel_rfl) (by kernel_rfl) (fun _ _ _ h => h) (wn rfl) (fun w hL => R_pickAnd H38 rfl rfl rfl) hL rfl (.cons rfl (.cons rfl .nil)) fun a39 H39 => ?_
  clear H38
  refine a_op (m' := [(41, _), (1, _)]) 29 H39 rfl rfl (by kernel_rfl) (by kernel_rfl) (by kernel_rfl) (fun _ _ _ h => h) (wn rfl) (fun w hL => R_mv H39 rfl rfl) hL rfl (.cons rfl (.cons rfl .nil)) fun a40 H40 => ?_
  clear H39
  replace H40 := H40.pick [(41, .bool (t4 && (inB m.count))), (1, .pointer (some ⟨W.heap.size, 0, none⟩))] (.cons rfl (.cons rfl .nil))
  generalize ht5 : (t4 && (inB m.count)) = t5 at H40
  refine a_opB (m' := [(42, _), (41, _), (1, _)]) 30 H40 rfl rfl (by kernel_rfl) (by kernel_rfl) (by kernel_rfl) (fun _ _ _ h => h) rfl rfl rfl (fun hb w hL => by subst hb; exact R_fa H40 rfl rfl (fa29_6 _ _)) hL rfl (.cons rfl (.cons rfl (.cons rfl .nil))) fun a41 H41 => ?_
  clear H40
  refine a_opB (m' := [(43, _), (41, _), (1, _)]) 31 H41 rfl rfl (by kernel_rfl) (by kernel_rfl) (by kernel_rfl) (fun _ _ _ h => h) rfl rfl rfl (fun hb w hL => by subst hb; exact R_ld H41 rfl rfl (ld_int (hL.cell 6))) hL rfl (.cons rfl (.cons rfl (.cons rfl .nil))) fun a42 H42 => ?_
  clear H41
  refine a_quietB (m' := [(44, _), (41, _), (1, _)]) 32 H42 rfl rfl (by kernel_rfl) (by kernel_rfl) (by kernel_rfl) (fun _ _ _ h => h) rfl rfl rfl (fun hb w => by subst hb; exact R_call2 H42 rfl rfl rfl (fun w => by simp [go_sem])) (fun w hL => in_any m.code 2147483647) hL rfl (.cons rfl (.cons rfl (.cons rfl .nil))) fun a43 H43 => ?_
  clear H42
  refine a_op (m' := [(45, _), (1, _)]) 33 H43 rfl rfl (by kernel_rfl) (by kernel_rfl) (by kernel_rfl) (fun _ _ _ h => h) (wn rfl) (fun w hL => R_pickAnd H43 rfl rfl rfl) hL rfl (.cons rfl (.cons rfl .nil)) fun a44 H44 => ?_
  clear H43
  refine a_op (m' := [(46, _), (1, _)]) 34 H44 rfl rfl (by kernel_rfl) (by kernel_rfl) (by kernel_rfl) (fun _ _ _ h => h) (wn rfl) (fun w hL => R_mv H44 rfl rfl) hL rfl (.cons rfl (.cons rfl .nil)) fun a45 H45 => ?_
  clear H44
  replace H45 := H45.pick [(46, .bool (t5 && (inB m.code))), (1, .pointer (some ⟨W.heap.size, 0, none⟩))] (.cons rfl (.cons rfl .nil))
  generalize ht6 : (t5 && (inB m.code)) = t6 at H45
  refine a_opB (m' := [(47, _), (46, _), (1, _)]) 35 H45 rfl rfl (by kernel_rfl) (by kernel_rfl) (by kernel_rfl) (fun _ _ _ h => h) rfl rfl rfl (fun hb w hL => by subst hb; exact R_fa H45 rfl rfl (fa29_9 _ _)) hL rfl (.cons rfl (.cons rfl (.cons rfl .nil))) fun a46 H46 => ?_
  clear H45
  refine a_opB (m' := [(48, _), (46, _), (1, _)]) 36 H46 rfl rfl (by kernel_rfl) (by kernel_rfl) (by kernel_rfl) (fun _ _ _ h => h) rfl rfl rfl (fun hb w hL => by subst hb; exact R_ld H46 rfl rfl (ld_item (hL.cell 9) (hL.cell 10) (hL.cell 11) (hL.cell 12) (hL.cell 13) (hL.cell 14) (hL.cell 15) (hL.cell 16))) hL rfl (.cons rfl (.cons rfl (.cons rfl .nil))) fun a47 H47 => ?_
  clear H46
  refine a_callB (m' := [(49, _), (46, _), (1, _)]) 37 H47 (by kernel_rfl) rfl rfl (by kernel_rfl) (by kernel_rfl) (fun _ _ _ h => h) rfl rfl rfl (fun hb => by subst hb; exact R_call1 H47 rfl rfl (fun w => by simp [go_sem])) ((items_any (m := m)).mono fun e w2 h => ⟨h.1, hL.call h.2⟩) hL rfl (.cons rfl (.cons rfl (.cons rfl .nil))) fun a48 w48 hL' H48 => ?_
  replace hL := hL'
  clear H47 hL'
  refine a_op (m' := [(50, _), (1, _)]) 38 H48 rfl rfl (by kernel_rfl) (by kernel_rfl) (by kernel_rfl) (fun _ _ _ h => h) (wn rfl) (fun w hL => R_pickAnd H48 rfl rfl rfl) hL rfl (.cons rfl (.cons rfl .nil)) fun a49 H49 => ?_
  clear H48
  refine a_op (m' := [(51, _), (1, _)]) 39 H49 rfl rfl (by kernel_rfl) (by kernel_rfl) (by kernel_rfl) (fun _ _ _ h => h) (wn rfl) (fun w hL => R_mv H49 rfl rfl) hL rfl (.cons rfl (.cons rfl .nil)) fun a50 H50 => ?_
  clear H49
  replace H50 := H50.pick [(51, .bool (t6 && (itemB m))), (1, .pointer (some ⟨W.heap.size, 0, none⟩))] (.cons rfl (.cons rfl .nil))
  generalize ht7 : (t6 && (itemB m)) = t7 at H50
  refine a_opB (m' := [(52, _), (51, _), (1, _)]) 40 H50 rfl rfl (by kernel_rfl) (by kernel_rfl) (by kernel_rfl) (fun _ _ _ h => h) rfl rfl rfl (fun hb w hL => by subst hb; exact R_fa H50 rfl rfl (fa29_10 _ _)) hL rfl (.cons rfl (.cons rfl (.cons rfl .nil))) fun a51 H51 => ?_
  clear H50
  refine a_opB (m' := [(53, _), (51, _), (1, _)]) 41 H51 rfl rfl (by kernel_rfl) (by kernel_rfl) (by kernel_rfl) (fun _ _ _ h => h) rfl rfl rfl (fun hb w hL => by subst hb; exact R_fa H51 rfl rfl (fa27_0 _ _)) hL rfl (.cons rfl (.cons rfl (.cons rfl .nil))) fun a52 H52 => ?_
  clear H51
  refine a_opB (m' := [(54, _), (51, _), (1, _)]) 42 H52 rfl rfl (by kernel_rfl) (by kernel_rfl) (by kernel_rfl) (fun _ _ _ h => h) rfl rfl rfl (fun hb w hL => by subst hb; exact R_ld H52 rfl rfl (ld_int (hL.cell 17))) hL rfl (.cons rfl (.cons rfl (.cons rfl .nil))) fun a53 H53 => ?_
  clear H52
  refine a_quietB (m' := [(55, _), (51, _), (1, _)]) 43 H53 rfl rfl (by kernel_rfl) (by kernel_rfl) (by kernel_rfl) (fun _ _ _ h => h) rfl rfl rfl (fun hb w => by subst hb; exact R_call2 H53 rfl rfl rfl (fun w => by simp [go_sem])) (fun w hL => in_any m.epoch 2147483647) hL rfl (.cons rfl (.cons rfl (.cons rfl .nil))) fun a54 H54 => ?_
  clear H53
  refine a_op (m' := [(56, _), (1, _)]) 44 H54 rfl rfl (by kernel_rfl) (by kernel_rfl) (by kernel_rfl) (fun _ _ _ h => h) (wn rfl) (fun w hL => R_pickAnd H54 rfl rfl rfl) hL rfl (.cons rfl (.cons rfl .nil)) fun a55 H55 => ?_
  clear H54
  refine a_op (m' := [(57, _), (1, _)]) 45 H55 rfl rfl (by kernel_rfl) (by kernel_rfl) (by kernel_rfl) (fun _ _ _ h => h) (wn rfl) (fun w hL => R_mv H55 rfl rfl) hL rfl (.cons rfl (.cons rfl .nil)) fun a56 H56 => ?_
  clear H55
  replace H56 := H56.pick [(57, .bool (t7 && (inB m.epoch))), (1, .pointer (some ⟨W.heap.size, 0, none⟩))] (.cons rfl (.cons rfl .nil))
  generalize ht8 : (t7 && (inB m.epoch)) = t8 at H56
  refine a_opB (m' := [(58, _), (57, _), (1, _)]) 46 H56 rfl rfl (by kernel_rfl) (by kernel_rfl) (by kernel_rfl) (fun _ _ _ h => h) rfl rfl rfl (fun hb w hL => by subst hb; exact R_fa H56 rfl rfl (fa29_10 _ _)) hL rfl (.cons rfl (.cons rfl (.cons rfl .nil))) fun a57 H57 => ?_
  clear H56
  refine a_opB (m' := [(59, _), (57, _), (1, _)]) 47 H57 rfl rfl (by kernel_rfl) (by kernel_rfl) (by kernel_rfl) (fun _ _ _ h => h) rfl rfl rfl (fun hb w hL => by subst hb; exact R_fa H57 rfl rfl (fa27_1 _ _)) hL rfl (.cons rfl (.cons rfl (.cons rfl .nil))) fun a58 H58 => ?_
  clear H57
  refine a_opB (m' := [(60, _), (57, _), (1, _)]) 48 H58 rfl rfl (by kernel_rfl) (by kernel_rfl) (by kernel_rfl) (fun _ _ _ h => h) rfl rfl rfl (fun hb w hL => by subst hb; exact R_ld H58 rfl rfl (ld_int (hL.cell 18))) hL rfl (.cons rfl (.cons rfl (.cons rfl .nil))) fun a59 H59 => ?_
  clear H58
  refine a_quietB (m' := [(61, _), (57, _), (1, _)]) 49 H59 rfl rfl (by kernel_rfl) (by kernel_rfl) (by kernel_rfl) (fun _ _ _ h => h) rfl rfl rfl (fun hb w => by subst hb; exact R_call2 H59 rfl rfl rfl (fun w => by simp [go_sem])) (fun w hL => in_any m.nodes 2147483647) hL rfl (.cons rfl (.cons rfl (.cons rfl .nil))) fun a60 H60 => ?_
  clear H59
  refine a_op (m' := [(62, _), (1, _)]) 50 H60 rfl rfl (by kernel_rfl) (by kernel_rfl) (by kernel_rfl) (fun _ _ _ h => h) (wn rfl) (fun w hL => R_pickAnd H60 rfl rfl rfl) hL rfl (.cons rfl (.cons rfl .nil)) fun a61 H61 => ?_
  clear H60
  refine a_op (m' := [(63, _), (1, _)]) 51 H61 rfl rfl (by kernel_rfl) (by kernel_rfl) (by kernel_rfl) (fun _ _ _ h => h) (wn rfl) (fun w hL => R_mv H61 rfl rfl) hL rfl (.cons rfl (.cons rfl .nil)) fun a62 H62 => ?_
  clear H61
  replace H62 := H62.pick [(63, .bool (t8 && (inB m.nodes))), (1, .pointer (some ⟨W.heap.size, 0, none⟩))] (.cons rfl (.cons rfl .nil))
  generalize ht9 : (t8 && (inB m.nodes)) = t9 at H62
  refine a_opB (m' := [(64, _), (63, _), (1, _)]) 52 H62 rfl rfl (by kernel_rfl) (by kernel_rfl) (by kernel_rfl) (fun _ _ _ h => h) rfl rfl rfl (fun hb w hL => by subst hb; exact R_fa H62 rfl rfl (fa29_10 _ _)) hL rfl (.cons rfl (.cons rfl (.cons rfl .nil))) fun a63 H63 => ?_
  clear H62
  refine a_opB (m' := [(65, _), (63, _), (1, _)]) 53 H63 rfl rfl (by kernel_rfl) (by kernel_rfl) (by kernel_rfl) (fun _ _ _ h => h) rfl rfl rfl (fun hb w hL => by subst hb; exact R_fa H63 rfl rfl (fa27_2 _ _)) hL rfl (.cons rfl (.cons rfl (.cons rfl .nil))) fun a64 H64 => ?_
  clear H63
  refine a_opB (m' := [(66, _), (63, _), (1, _)]) 54 H64 rfl rfl (by kernel_rfl) (by kernel_rfl) (by kernel_rfl) (fun _ _ _ h => h) rfl rfl rfl (fun hb w hL => by subst hb; exact R_ld H64 rfl rfl (ld_sl (hL.cell 19))) hL rfl (.cons rfl (.cons rfl (.cons rfl .nil))) fun a65 H65 => ?_
  clear H64
  refine a_quietB (m' := [(67, _), (63, _), (1, _)]) 55 H65 rfl rfl (by kernel_rfl) (by kernel_rfl) (by kernel_rfl) (fun _ _ _ h => h) rfl rfl rfl (fun hb w => by subst hb; exact R_call2 H65 rfl rfl rfl (fun w => by simp [go_sem])) (fun w hL => lists_any (K1 hL.1) 64 l1) hL rfl (.cons rfl (.cons rfl (.cons rfl .nil))) fun a66 H66 => ?_
  clear H65
  refine a_op (m' := [(68, _), (1, _)]) 56 H66 rfl rfl (by kernel_rfl) (by kernel_rfl) (by kernel_rfl) (fun _ _ _ h => h) (wn rfl) (fun w hL => R_pickAnd H66 rfl rfl rfl) hL rfl (.cons rfl (.cons rfl .nil)) fun a67 H67 => ?_
  clear H66
  refine a_op (m' := [(69, _), (1, _)]) 57 H67 rfl rfl (by kernel_rfl) (by kernel_rfl) (by kernel_rfl) (fun _ _ _ h => h) (wn rfl) (fun w hL => R_mv H67 rfl rfl) hL rfl (.cons rfl (.cons rfl .nil)) fun a68 H68 => ?_
  clear H67
  replace H68 := H68.pick [(69, .bool (t9 && (m.owner.all inB && decide ((m.owner.length : Int) ≤ 64)))), (1, .pointer (some ⟨W.heap.size, 0, none⟩))] (.cons rfl (.cons rfl .nil))
  generalize ht10 : (t9 && (m.owner.all inB && decide ((m.owner.length : Int) ≤ 64))) = t10 at H68
  refine a_opB (m' := [(70, _), (69, _), (1, _)]) 58 H68 rfl rfl (by kernel_rfl) (by kernel_rfl) (by kernel_rfl) (fun _ _ _ h => h) rfl rfl rfl (fun hb w hL => by subst hb; exact R_fa H68 rfl rfl (fa29_11 _ _)) hL rfl (.cons rfl (.cons rfl (.cons rfl .nil))) fun a69 H69 => ?_
  clear H68
  refine a_opB (m' := [(71, _), (69, _), (1, _)]) 59 H69 rfl rfl (by kernel_rfl) (by kernel_rfl) (by kernel_rfl) (fun _ _ _ h => h) rfl rfl rfl (fun hb w hL => by subst hb; exact R_ld H69 rfl rfl (ld_sl (hL.cell 20))) hL rfl (.cons rfl (.cons rfl (.cons rfl .nil))) fun a70 H70 => ?_
  clear H69
  refine a_quietB (m' := [(72, _), (69, _), (1, _)]) 60 H70 rfl rfl (by kernel_rfl) (by kernel_rfl) (by kernel_rfl) (fun _ _ _ h => h) rfl rfl rfl (fun hb w => by subst hb; exact R_call2 H70 rfl rfl rfl (fun w => by simp [go_sem])) (fun w hL => lists_any (K2 hL.1) 1024 l2) hL rfl (.cons rfl (.cons rfl (.cons rfl .nil))) fun a71 H71 => ?_
  clear H70
  refine a_op (m' := [(73, _), (1, _)]) 61 H71 rfl rfl (by kernel_rfl) (by kernel_rfl) (by kernel_rfl) (fun _ _ _ h => h) (wn rfl) (fun w hL => R_pickAnd H71 rfl rfl rfl) hL rfl (.cons rfl (.cons rfl .nil)) fun a72 H72 => ?_
  clear H71
  refine a_op (m' := [(74, _), (1, _)]) 62 H72 rfl rfl (by kernel_rfl) (by kernel_rfl) (by kernel_rfl) (fun _ _ _ h => h) (wn rfl) (fun w hL => R_mv H72 rfl rfl) hL rfl (.cons rfl (.cons rfl .nil)) fun a73 H73 => ?_
  clear H72
  replace H73 := H73.pick [(74, .bool (t10 && (m.set.all inB && decide ((m.set.length : Int) ≤ 1024)))), (1, .pointer (some ⟨W.heap.size, 0, none⟩))] (.cons rfl (.cons rfl .nil))
  generalize ht11 : (t10 && (m.set.all inB && decide ((m.set.length : Int) ≤ 1024))) = t11 at H73
  refine a_opB (m' := [(75, _), (74, _), (1, _)]) 63 H73 rfl rfl (by kernel_rfl) (by kernel_rfl) (by kernel_rfl) (fun _ _ _ h => h) rfl rfl rfl (fun hb w hL => by subst hb; exact R_fa H73 rfl rfl (fa29_12 _ _)) hL rfl (.cons rfl (.cons rfl (.cons rfl .nil))) fun a74 H74 => ?_
  clear H73
  refine a_opB (m' := [(76, _), (74, _), (1, _)]) 64 H74 rfl rfl (by kernel_rfl) (by kernel_rfl) (by kernel_rfl) (fun _ _ _ h => h) rfl rfl rfl (fun hb w hL => by subst hb; exact R_ld H74 rfl rfl (ld_str (hL.cell 21))) hL rfl (.cons rfl (.cons rfl (.cons rfl .nil))) fun a75 H75 => ?_
  clear H74
  refine a_opB (m' := [(77, _), (74, _), (1, _)]) 65 H75 rfl rfl (by kernel_rfl) (by kernel_rfl) (by kernel_rfl) (fun _ _ _ h => h) rfl rfl rfl (fun hb w hL => by subst hb; exact R_len H75 rfl rfl Try.underlying9) hL rfl (.cons rfl (.cons rfl (.cons rfl .nil))) fun a76 H76 => ?_
  clear H75
  refine a_opB (m' := [(78, _), (74, _), (1, _)]) 66 H76 rfl rfl (by kernel_rfl) (by kernel_rfl) (by kernel_rfl) (fun _ _ _ h => h) rfl rfl rfl (fun hb w hL => by subst hb; exact R_bin H76 rfl rfl rfl (B_le Try.underlying3 _ _)) hL rfl (.cons rfl (.cons rfl (.cons rfl .nil))) fun a77 H77 => ?_
  clear H76
  refine a_op (m' := [(79, _), (1, _)]) 67 H77 rfl rfl (by kernel_rfl) (by kernel_rfl) (by kernel_rfl) (fun _ _ _ h => h) (wn rfl) (fun w hL => R_pickAnd H77 rfl rfl rfl) hL rfl (.cons rfl (.cons rfl .nil)) fun a78 H78 => ?_
  clear H77
  refine a_op (m' := [(3, _), (1, _)]) 68 H78 rfl rfl (by kernel_rfl) (by kernel_rfl) (by kernel_rfl) (fun _ _ _ h => h) (wn rfl) (fun w hL => R_as H78 rfl rfl) hL rfl (.cons rfl (.cons rfl .nil)) fun a79 H79 => ?_
  clear H78
  replace H79 := H79.pick [(3, .bool (t11 && (decide ((m.data.size : Int) ≤ 1024)))), (1, .pointer (some ⟨W.heap.size, 0, none⟩))] (.cons rfl (.cons rfl .nil))
  generalize ht12 : (t11 && (decide ((m.data.size : Int) ≤ 1024))) = t12 at H79
  refine wpAnyH_done (by kernel_rfl) ?_ _
  have hok : okR m = t12 := by subst ht0 ht1 ht2 ht3 ht4 ht5 ht6 ht7 ht8 ht9 ht10 ht11 ht12; rfl
  clear ht0 ht1 ht2 ht3 ht4 ht5 ht6 ht7 ht8 ht9 ht10 ht11 ht12
  repeat (go_not_at_region 4; go_step)
  refine wp_region_lit ?_
  refine h_op (m' := [(80, _)]) H79 rfl (wn rfl) (R_mv H79 rfl rfl) rfl (.cons rfl .nil) fun a80 H80 => ?_
  clear H79
  refine h_op (m' := [(81, _)]) H80 rfl (wn rfl) (R_not H80 rfl rfl) rfl (.cons rfl .nil) fun a81 H81 => ?_
  clear H80
  refine h_end ?_
  repeat (go_not_at_region 999; go_step)
  cases t12
  · refine wp_cond_true (H81.ev (x := .tmp 81) rfl) ?_
    repeat (go_not_at_region 5; go_step)
    refine wp_region_lit ?_
    refine h_op (m' := [(2, _)]) H81 rfl (wn rfl) (R_as H81 rfl rfl) rfl (.cons rfl .nil) fun a82 H82 => ?_
    clear H81
    refine h_end ?_
    repeat (go_not_at_region 999; go_step)
    refine H82.ret1 (v := .int .i64 1) rfl rfl ⟨?_, hL.1⟩
    rw [Hr.out]
    unfold rightR
    rw [if_pos ⟨by omega, by omega⟩, hok]
    rfl
  · refine wp_cond_false (H81.ev (x := .tmp 81) rfl) ?_
    repeat (go_not_at_region 6; go_step)
    refine wp_region_lit ?_
    refine h_op (m' := [(2, _)]) H81 rfl (wn rfl) (R_as H81 rfl rfl) rfl (.cons rfl .nil) fun a82 H82 => ?_
    clear H81
    refine h_end ?_
    repeat (go_not_at_region 999; go_step)
    refine H82.ret1 (v := .int .i64 0) rfl rfl ⟨?_, hL.1⟩
    rw [Hr.out]
    unfold rightR
    rw [if_pos ⟨by omega, by omega⟩, hok]
    rfl
end
end Go.Proofs.Ytmmhchpilcjflaa
