/-
  meterref04.Only: the fields of a message's kind alone.
-/
import Derived.Test.YtmmhchpilcjflaaMsgBk
import Derived.Test.YtmmhchpilcjflaaFr
import Derived.Deep.Cut
set_option linter.unusedSimpArgs false
set_option linter.unusedVariables false
namespace Go.Proofs.Ytmmhchpilcjflaa
open Go.RowKit

theorem Live.cl {w0 W : World} {L : List Blk} (h : Live w0 L W) {g : Nat} {A : Array Value} {t : TypeId} (hm : (g, A, t) ∈ L) (i : Nat) : W.cell? ⟨g, i, none⟩ = A[i]? := cells_at (h.mem_at hm) i
theorem fa24_0 (g : Nat) (w : World) : (Instr.fieldAt 24 (.pointer (some ⟨g, 9, none⟩)) 0).run Try.prog w = .ok (.pointer (some ⟨g, 9, none⟩)) w := by simp [go_sem]
theorem fa24_1 (g : Nat) (w : World) : (Instr.fieldAt 24 (.pointer (some ⟨g, 9, none⟩)) 1).run Try.prog w = .ok (.pointer (some ⟨g, 10, none⟩)) w := by simp [go_sem]
theorem ld_sl {w : World} {a : Addr} {p : Option Addr} {l c : Nat} (h : w.cell? a = some (.slice p l c)) : (Instr.loadAt 25 (.pointer (some a))).run Try.prog w = .ok (.slice p l c) w := by simp [go_sem, h]
theorem ld_tab {w : World} {g : Nat} {x0 x1 : Int} {p : Option Addr} {l c : Nat} (h0 : w.cell? ⟨g, 17, none⟩ = some (.int .i64 x0)) (h1 : w.cell? ⟨g, 18, none⟩ = some (.int .i64 x1)) (h2 : w.cell? ⟨g, 19, none⟩ = some (.slice p l c)) :
    (Instr.loadAt 27 (.pointer (some ⟨g, 17, none⟩))).run Try.prog w = .ok (.agg #[.int .i64 x0, .int .i64 x1, .slice p l c]) w := by
  simp [go_sem, h0, h1, h2]
theorem ld_short {w : World} {g : Nat} {x0 x1 x2 x3 x5 x6 x7 : Int} {x4 : ByteArray} (h0 : w.cell? ⟨g, 0, none⟩ = some (.int .i64 x0)) (h1 : w.cell? ⟨g, 1, none⟩ = some (.int .i64 x1)) (h2 : w.cell? ⟨g, 2, none⟩ = some (.int .i64 x2)) (h3 : w.cell? ⟨g, 3, none⟩ = some (.int .u8 x3)) (h4 : w.cell? ⟨g, 4, none⟩ = some (.string x4)) (h5 : w.cell? ⟨g, 5, none⟩ = some (.int .i64 x5)) (h6 : w.cell? ⟨g, 6, none⟩ = some (.int .i64 x6)) (h7 : w.cell? ⟨g, 7, none⟩ = some (.int .i64 x7)) :
    (Instr.loadAt 24 (.pointer (some ⟨g, 0, none⟩))).run Try.prog w = .ok (.agg #[.int .i64 x0, .int .i64 x1, .int .i64 x2, .int .u8 x3, .string x4, .int .i64 x5, .int .i64 x6, .int .i64 x7]) w := by
  simp [go_sem, h0, h1, h2, h3, h4, h5, h6, h7]
section
variable {w0 w : World} {L : List Blk} {g i : Nat} {A : Array Value} {T : TypeId} {v : Value}
theorem st_int {x old : Int} (h : Live w0 ((g, A, T) :: L) w) (hc : A[i]? = some (.int .i64 old)) : (Instr.storeAt 3 (.pointer (some ⟨g, i, none⟩)) (.int .i64 x)).run Try.prog w = .ok () (w.setCell ⟨g, i, none⟩ (.int .i64 x)) := by
  have hc2 := (h.cell i).trans hc
  have hz := h.thaw i
  simp [go_sem, hc2, hz]
theorem st_i64c {x old : Int} (h : Live w0 ((g, A, T) :: L) w) (hc : A[i]? = some (.int .i64 old)) : (Instr.storeAt 2 (.pointer (some ⟨g, i, none⟩)) (.int .i64 x)).run Try.prog w = .ok () (w.setCell ⟨g, i, none⟩ (.int .i64 x)) := by
  have hc2 := (h.cell i).trans hc
  have hz := h.thaw i
  simp [go_sem, hc2, hz]
theorem st_u64c {x old : Int} (h : Live w0 ((g, A, T) :: L) w) (hc : A[i]? = some (.int .u64 old)) : (Instr.storeAt 22 (.pointer (some ⟨g, i, none⟩)) (.int .u64 x)).run Try.prog w = .ok () (w.setCell ⟨g, i, none⟩ (.int .u64 x)) := by
  have hc2 := (h.cell i).trans hc
  have hz := h.thaw i
  simp [go_sem, hc2, hz]
theorem st_strc {x old : ByteArray} (h : Live w0 ((g, A, T) :: L) w) (hc : A[i]? = some (.string old)) : (Instr.storeAt 9 (.pointer (some ⟨g, i, none⟩)) (.string x)).run Try.prog w = .ok () (w.setCell ⟨g, i, none⟩ (.string x)) := by
  have hc2 := (h.cell i).trans hc
  have hz := h.thaw i
  simp [go_sem, hc2, hz]
theorem st_sl {p q : Option Addr} {l c l2 c2 : Nat} (h : Live w0 ((g, A, T) :: L) w) (hc : A[i]? = some (.slice q l2 c2)) : (Instr.storeAt 25 (.pointer (some ⟨g, i, none⟩)) (.slice p l c)).run Try.prog w = .ok () (w.setCell ⟨g, i, none⟩ (.slice p l c)) := by
  have hc2 := (h.cell i).trans hc
  have hz := h.thaw i
  simp [go_sem, hc2, hz]
theorem st_item {x0 x1 x2 x3 x5 x6 x7 : Int} {x4 : ByteArray} {y0 y1 y2 y3 y5 y6 y7 : Int} {y4 : ByteArray} (h : Live w0 ((g, A, T) :: L) w) (h0 : A[9]? = some (.int .i64 y0)) (h1 : A[10]? = some (.int .i64 y1)) (h2 : A[11]? = some (.int .i64 y2)) (h3 : A[12]? = some (.int .u8 y3)) (h4 : A[13]? = some (.string y4)) (h5 : A[14]? = some (.int .i64 y5)) (h6 : A[15]? = some (.int .i64 y6)) (h7 : A[16]? = some (.int .i64 y7)) :
    (Instr.storeAt 24 (.pointer (some ⟨g, 9, none⟩)) (.agg #[.int .i64 x0, .int .i64 x1, .int .i64 x2, .int .u8 x3, .string x4, .int .i64 x5, .int .i64 x6, .int .i64 x7])).run Try.prog w = .ok () ((((((((w.setCell ⟨g, 9, none⟩ (.int .i64 x0)).setCell ⟨g, 10, none⟩ (.int .i64 x1)).setCell ⟨g, 11, none⟩ (.int .i64 x2)).setCell ⟨g, 12, none⟩ (.int .u8 x3)).setCell ⟨g, 13, none⟩ (.string x4)).setCell ⟨g, 14, none⟩ (.int .i64 x5)).setCell ⟨g, 15, none⟩ (.int .i64 x6)).setCell ⟨g, 16, none⟩ (.int .i64 x7)) := by
  have c0 := (h.cell 9).trans h0
  have c1 := (h.cell 10).trans h1
  have c2 := (h.cell 11).trans h2
  have c3 := (h.cell 12).trans h3
  have c4 := (h.cell 13).trans h4
  have c5 := (h.cell 14).trans h5
  have c6 := (h.cell 15).trans h6
  have c7 := (h.cell 16).trans h7
  have z0 := h.thaw 9
  have z1 := h.thaw 10
  have z2 := h.thaw 11
  have z3 := h.thaw 12
  have z4 := h.thaw 13
  have z5 := h.thaw 14
  have z6 := h.thaw 15
  have z7 := h.thaw 16
  simp [go_sem, c0, c1, c2, c3, c4, c5, c6, c7, z0, z1, z2, z3, z4, z5, z6, z7]
theorem Live.put8 (h : Live w0 ((g, A, T) :: L) w) (x0 x1 x2 x3 x4 x5 x6 x7 : Value) : Live w0 ((g, (((((((A.setIfInBounds 9 x0).setIfInBounds 10 x1).setIfInBounds 11 x2).setIfInBounds 12 x3).setIfInBounds 13 x4).setIfInBounds 14 x5).setIfInBounds 15 x6).setIfInBounds 16 x7, T) :: L)
    ((((((((w.setCell ⟨g, 9, none⟩ x0).setCell ⟨g, 10, none⟩ x1).setCell ⟨g, 11, none⟩ x2).setCell ⟨g, 12, none⟩ x3).setCell ⟨g, 13, none⟩ x4).setCell ⟨g, 14, none⟩ x5).setCell ⟨g, 15, none⟩ x6).setCell ⟨g, 16, none⟩ x7) :=
  (((((((h.put 9 x0).put 10 x1).put 11 x2).put 12 x3).put 13 x4).put 14 x5).put 15 x6).put 16 x7
theorem st_tab {x0 x1 y0 y1 : Int} {p q : Option Addr} {l c l2 c2 : Nat} (h : Live w0 ((g, A, T) :: L) w) (h0 : A[17]? = some (.int .i64 y0)) (h1 : A[18]? = some (.int .i64 y1)) (h2 : A[19]? = some (.slice q l2 c2)) :
    (Instr.storeAt 27 (.pointer (some ⟨g, 17, none⟩)) (.agg #[.int .i64 x0, .int .i64 x1, .slice p l c])).run Try.prog w = .ok () (((w.setCell ⟨g, 17, none⟩ (.int .i64 x0)).setCell ⟨g, 18, none⟩ (.int .i64 x1)).setCell ⟨g, 19, none⟩ (.slice p l c)) := by
  have e0 := (h.cell 17).trans h0
  have e1 := (h.cell 18).trans h1
  have e2 := (h.cell 19).trans h2
  have z0 := h.thaw 17
  have z1 := h.thaw 18
  have z2 := h.thaw 19
  simp [go_sem, e0, e1, e2, z0, z1, z2]
variable {M : PMsg} {vo vs : Value}
theorem st_itemM {x0 x1 x2 x5 x6 x7 : Int} {x3 : Nat} {x4 : ByteArray} (h : Live w0 ((g, mcells M vo vs, T) :: L) w) :
    (Instr.storeAt 24 (.pointer (some ⟨g, 9, none⟩)) (.agg #[.int .i64 x0, .int .i64 x1, .int .i64 x2, .int .u8 (x3 : Nat), .string x4, .int .i64 x5, .int .i64 x6, .int .i64 x7])).run Try.prog w = .ok () ((((((((w.setCell ⟨g, 9, none⟩ (.int .i64 x0)).setCell ⟨g, 10, none⟩ (.int .i64 x1)).setCell ⟨g, 11, none⟩ (.int .i64 x2)).setCell ⟨g, 12, none⟩ (.int .u8 (x3 : Nat))).setCell ⟨g, 13, none⟩ (.string x4)).setCell ⟨g, 14, none⟩ (.int .i64 x5)).setCell ⟨g, 15, none⟩ (.int .i64 x6)).setCell ⟨g, 16, none⟩ (.int .i64 x7)) :=
  st_item h rfl rfl rfl rfl rfl rfl rfl rfl
theorem Live.itemM (h : Live w0 ((g, mcells M vo vs, T) :: L) w) (x0 x1 x2 : Int) (x3 : Nat) (x4 : ByteArray) (x5 x6 x7 : Int) : Live w0 ((g, mcells { M with isrc := x0, iseq := x1, ilow := x2, ikind := x3, ikey := x4, ipart := x5, iat := x6, iN := x7 } vo vs, T) :: L)
    ((((((((w.setCell ⟨g, 9, none⟩ (.int .i64 x0)).setCell ⟨g, 10, none⟩ (.int .i64 x1)).setCell ⟨g, 11, none⟩ (.int .i64 x2)).setCell ⟨g, 12, none⟩ (.int .u8 (x3 : Nat))).setCell ⟨g, 13, none⟩ (.string x4)).setCell ⟨g, 14, none⟩ (.int .i64 x5)).setCell ⟨g, 15, none⟩ (.int .i64 x6)).setCell ⟨g, 16, none⟩ (.int .i64 x7)) := by
  have h8 := h.put8 (.int .i64 x0) (.int .i64 x1) (.int .i64 x2) (.int .u8 (x3 : Nat)) (.string x4) (.int .i64 x5) (.int .i64 x6) (.int .i64 x7)
  simp only [mcells, List.setIfInBounds_toArray, List.set_cons_zero, List.set_cons_succ] at h8 ⊢
  exact h8
theorem st_tabM {x0 x1 : Int} {p q : Option Addr} {l c l2 c2 : Nat} (h : Live w0 ((g, mcells M (.slice q l2 c2) vs, T) :: L) w) :
    (Instr.storeAt 27 (.pointer (some ⟨g, 17, none⟩)) (.agg #[.int .i64 x0, .int .i64 x1, .slice p l c])).run Try.prog w = .ok () (((w.setCell ⟨g, 17, none⟩ (.int .i64 x0)).setCell ⟨g, 18, none⟩ (.int .i64 x1)).setCell ⟨g, 19, none⟩ (.slice p l c)) :=
  st_tab h rfl rfl rfl
theorem Live.tabM (h : Live w0 ((g, mcells M vo vs, T) :: L) w) (x0 x1 : Int) (v : Value) (o : List Int) : Live w0 ((g, mcells { M with epoch := x0, nodes := x1, owner := o } v vs, T) :: L) (((w.setCell ⟨g, 17, none⟩ (.int .i64 x0)).setCell ⟨g, 18, none⟩ (.int .i64 x1)).setCell ⟨g, 19, none⟩ v) := by
  have h8 := ((h.put 17 (.int .i64 x0)).put 18 (.int .i64 x1)).put 19 v
  simp only [mcells, List.setIfInBounds_toArray, List.set_cons_zero, List.set_cons_succ] at h8 ⊢
  exact h8
end
theorem bd_kind {w : World} {k : Nat} : (Instr.build 29 #[(0, .int .u8 (k : Nat))]).run Try.prog w = .ok (.agg (mcells { PMsg.zero with kind := k } (.slice none 0 0) (.slice none 0 0))) w := by
  simp [go_sem]
  rfl
theorem ld_u8k {w : World} {a : Addr} {k c : Nat} (h : w.cell? a = some (.int .u8 (k : Nat))) (e : k = c) : (Instr.loadAt 5 (.pointer (some a))).run Try.prog w = .ok (.int .u8 (c : Nat)) w := by subst e; exact ld_u8 h
theorem B8_eq {X Y : Operand} {w : World} (x y : Int) : ((do eqGuard .eql 5 X Y (.int .u8 x) (.int .u8 y); binOp .eql 5 (.int .u8 x) (.int .u8 y)) : Sem Value).run Try.prog w = .ok (.bool (x == y)) w := by simp [go_sem]
theorem B8_ge {X Y : Operand} {w : World} (x y : Int) : ((do eqGuard .geq 5 X Y (.int .u8 x) (.int .u8 y); binOp .geq 5 (.int .u8 x) (.int .u8 y)) : Sem Value).run Try.prog w = .ok (.bool (decide (x ≥ y))) w := by simp [go_sem]
theorem B8_le {X Y : Operand} {w : World} (x y : Int) : ((do eqGuard .leq 5 X Y (.int .u8 x) (.int .u8 y); binOp .leq 5 (.int .u8 x) (.int .u8 y)) : Sem Value).run Try.prog w = .ok (.bool (decide (x ≤ y))) w := by simp [go_sem]
theorem B8_lt {X Y : Operand} {w : World} (x y : Int) : ((do eqGuard .lss 5 X Y (.int .u8 x) (.int .u8 y); binOp .lss 5 (.int .u8 x) (.int .u8 y)) : Sem Value).run Try.prog w = .ok (.bool (decide (x < y))) w := by simp [go_sem]
theorem B8_gt {X Y : Operand} {w : World} (x y : Int) : ((do eqGuard .gtr 5 X Y (.int .u8 x) (.int .u8 y); binOp .gtr 5 (.int .u8 x) (.int .u8 y)) : Sem Value).run Try.prog w = .ok (.bool (decide (x > y))) w := by simp [go_sem]
theorem bd_short {w : World} {x y : Int} : (Instr.build 24 #[(0, .int .i64 x), (1, .int .i64 y)]).run Try.prog w = .ok (.agg #[.int .i64 x, .int .i64 y, .int .i64 0, .int .u8 0, .string .empty, .int .i64 0, .int .i64 0, .int .i64 0]) w := by
  simp [go_sem]
  rfl
theorem al_item {w : World} : (Instr.alloc 24 true (.tuple #[])).run Try.prog w = .ok (.pointer (some ⟨w.heap.size, 0, none⟩)) (w.alloc (.cells #[.int .i64 0, .int .i64 0, .int .i64 0, .int .u8 0, .string .empty, .int .i64 0, .int .i64 0, .int .i64 0] 24)) := by
  simp [go_sem]
  rfl
theorem only_results {tmps : Array Value} {w : World} {g : Nat} {m : PMsg} {vo vs : Value} (hp : tmps.getD 2 undef = .pointer (some ⟨g, 0, none⟩)) (hg : w.heap[g]? = some (.cells (mcells m vo vs) 29 (0, 0))) :
    (results Try.f18 tmps).run Try.prog w = .ok (.agg (mcells m vo vs)) w :=
  results_cell_row rfl _ _ g 29 _ (0, 0) _ hp hg Try.underlying29 rfl (mcells_info _ _ _)
section
variable {W : World} {m : PMsg} {vo vs : Value}
theorem info24 : (Try.prog.info? 24).map (·.size) = some 8 := by kernel_rfl
theorem st_short {w0 w : World} {L : List Blk} {g : Nat} {x0 x1 x2 x3 x5 x6 x7 : Int} {x4 : ByteArray} (h : Live w0 ((g, #[.int .i64 0, .int .i64 0, .int .i64 0, .int .u8 0, .string .empty, .int .i64 0, .int .i64 0, .int .i64 0], 24) :: L) w) :
    (Instr.storeAt 24 (.pointer (some ⟨g, 0, none⟩)) (.agg #[.int .i64 x0, .int .i64 x1, .int .i64 x2, .int .u8 x3, .string x4, .int .i64 x5, .int .i64 x6, .int .i64 x7])).run Try.prog w = .ok () (w.setRow g #[.int .i64 x0, .int .i64 x1, .int .i64 x2, .int .u8 x3, .string x4, .int .i64 x5, .int .i64 x6, .int .i64 x7]) := by
  simp only [Instr.storeAt, Instr.sureAddr, Sem.run_bind, Sem.run_pure, Result.andThen_ok, run_storeVar_row w g 24 24 _ #[.int .i64 x0, .int .i64 x1, .int .i64 x2, .int .u8 x3, .string x4, .int .i64 x5, .int .i64 x6, .int .i64 x7] h.at_ info24 rfl (by simp only [List.all_toArray, List.all_cons, List.all_nil, Bool.and_true]; rfl)]
theorem prs_big {c : Nat} (h : 14 < c) : prs c = [] := by
  obtain ⟨k, rfl⟩ : ∃ k, c = k + 15 := ⟨c - 15, by omega⟩
  rfl
set_option maxRecDepth 100000 in
set_option maxHeartbeats 4000000 in
theorem only_0 (hc : m.kind = 0) (ho : Rd W vo m.owner) (hs : Rd W vs m.set) : Calls Try.prog 18 #[.agg (mcells m vo vs)] W fun e W' => ∃ vo' vs', e = .returned (.agg (mcells (onlyM m) vo' vs')) ∧ (∀ w, Rd w vo m.owner → Rd w vo' (onlyM m).owner) ∧ (∀ w, Rd w vs m.set → Rd w vs' (onlyM m).set) ∧ Below W.heap.size W W' := by
  have hL := Live.init W
  obtain ⟨A1, c1, rfl⟩ := ho.slc
  obtain ⟨A2, c2, rfl⟩ := hs.slc
  go_enter Try.func18, Try.ntmps18
  refine wp_fr (n := 110) (m := [(0, _)]) ⟨rfl, rfl, by intro p hp; simp only [List.mem_cons, List.not_mem_nil, or_false] at hp; rcases hp with rfl <;> rfl⟩ fun a0 H0 => ?_
  repeat (go_not_at_region 0; go_step)
  refine wp_region_lit ?_
  refine h_opL [(W.heap.size, mcells m (.slice A1 m.owner.length c1) (.slice A2 m.set.length c2), 29)] (m' := [(1, _)]) H0 rfl (wn rfl) (R_box H0 rfl rfl bx_row) (hL.alloc _ _) rfl (.cons rfl .nil) fun a1 w1 H1 hL' => ?_
  replace hL := hL'
  clear H0 hL'
  refine h_opL [(w1.heap.size, zcells, 29), (W.heap.size, mcells m (.slice A1 m.owner.length c1) (.slice A2 m.set.length c2), 29)] (m' := [(2, _), (1, _)]) H1 rfl (wn rfl) (R_alloc rfl al_row) (hL.alloc _ _) rfl (.cons rfl (.cons rfl .nil)) fun a2 w2 H2 hL' => ?_
  replace hL := hL'
  clear H1 hL'
  refine h_end ?_
  repeat (go_not_at_region 1; go_step)
  refine wp_region_lit ?_
  refine h_op (m' := [(5, _), (2, _), (1, _)]) H2 rfl (wn rfl) (R_fa H2 rfl rfl (fa29_0 _ _)) rfl (.cons rfl (.cons rfl (.cons rfl .nil))) fun a3 H3 => ?_
  clear H2
  refine h_op (m' := [(6, _), (2, _), (1, _)]) H3 rfl (wn rfl) (R_ld H3 rfl rfl (ld_u8k (hL.cl (g := W.heap.size) (A := mcells m (.slice A1 m.owner.length c1) (.slice A2 m.set.length c2)) (t := 29) (by simp) 0) hc)) rfl (.cons rfl (.cons rfl (.cons rfl .nil))) fun a4 H4 => ?_
  clear H3
  refine h_op (m' := [(7, _), (2, _), (1, _)]) H4 rfl (wn rfl) (R_bd1 H4 rfl rfl bd_kind) rfl (.cons rfl (.cons rfl (.cons rfl .nil))) fun a5 H5 => ?_
  clear H4
  refine h_opL [(w2.heap.size, zcells, 29), (w1.heap.size, zcells, 29), (W.heap.size, mcells m (.slice A1 m.owner.length c1) (.slice A2 m.set.length c2), 29)] (m' := [(3, _), (7, _), (2, _), (1, _)]) H5 rfl (wn rfl) (R_alloc rfl al_row) (hL.alloc _ _) rfl (.cons rfl (.cons rfl (.cons rfl (.cons rfl .nil)))) fun a6 w6 H6 hL' => ?_
  replace hL := hL'
  clear H5 hL'
  refine h_stL [(w2.heap.size, mcells { PMsg.zero with kind := 0 } (.slice none 0 0) (.slice none 0 0), 29), (w1.heap.size, zcells, 29), (W.heap.size, mcells m (.slice A1 m.owner.length c1) (.slice A2 m.set.length c2), 29)] H6 rfl (wn rfl) (R_st H6 rfl rfl rfl (st_row (m2 := .zero) (vo2 := .slice none 0 0) (vs2 := .slice none 0 0) hL.at_ (mcells_one rfl rfl))) (hL.row _) fun a7 w7 H7 hL' => ?_
  replace hL := hL'
  clear H6 hL'
  refine h_end ?_
  repeat (go_not_at_region 2; go_step)
  refine wp_region_lit ?_
  refine h_op (m' := [(8, _), (3, _), (2, _), (1, _)]) H7 rfl (wn rfl) (R_fa H7 rfl rfl (fa29_0 _ _)) rfl (.cons rfl (.cons rfl (.cons rfl (.cons rfl .nil)))) fun a8 H8 => ?_
  clear H7
  refine h_op (m' := [(9, _), (3, _), (2, _), (1, _)]) H8 rfl (wn rfl) (R_ld H8 rfl rfl (ld_u8k (hL.cl (g := W.heap.size) (A := mcells m (.slice A1 m.owner.length c1) (.slice A2 m.set.length c2)) (t := 29) (by simp) 0) hc)) rfl (.cons rfl (.cons rfl (.cons rfl (.cons rfl .nil)))) fun a9 H9 => ?_
  clear H8
  refine h_op (m' := [(10, _), (3, _), (2, _), (1, _)]) H9 rfl (wn rfl) (R_bin H9 rfl rfl rfl (B_to (y := false) (B8_ge _ _) (by decide))) rfl (.cons rfl (.cons rfl (.cons rfl (.cons rfl .nil)))) fun a10 H10 => ?_
  clear H9
  refine h_op (m' := [(11, _), (3, _), (2, _), (1, _)]) H10 rfl (wn rfl) (R_mv H10 rfl rfl) rfl (.cons rfl (.cons rfl (.cons rfl (.cons rfl .nil)))) fun a11 H11 => ?_
  clear H10
  refine h_skip (m' := [(11, _), (3, _), (2, _), (1, _)]) H11 rfl (H11.wf rfl rfl rfl) rfl (.cons rfl (.cons rfl (.cons rfl (.cons rfl .nil)))) fun a12 H12 => ?_
  clear H11
  refine h_skip (m' := [(11, _), (3, _), (2, _), (1, _)]) H12 rfl (H12.wf rfl rfl rfl) rfl (.cons rfl (.cons rfl (.cons rfl (.cons rfl .nil)))) fun a13 H13 => ?_
  clear H12
  refine h_skip (m' := [(11, _), (3, _), (2, _), (1, _)]) H13 rfl (H13.wf rfl rfl rfl) rfl (.cons rfl (.cons rfl (.cons rfl (.cons rfl .nil)))) fun a14 H14 => ?_
  clear H13
  refine h_op (m' := [(15, _), (3, _), (2, _), (1, _)]) H14 rfl (wn rfl) (R_pick H14 rfl rfl rfl) rfl (.cons rfl (.cons rfl (.cons rfl (.cons rfl .nil)))) fun a15 H15 => ?_
  clear H14
  refine h_end ?_
  repeat (go_not_at_region 5; go_step)
  refine wp_cond_false (H15.ev (x := .tmp 15) rfl) ?_
  repeat (go_not_at_region 5; go_step)
  refine wp_region_lit ?_
  refine h_op (m' := [(22, _), (3, _), (2, _), (1, _)]) H15 rfl (wn rfl) (R_fa H15 rfl rfl (fa29_9 _ _)) rfl (.cons rfl (.cons rfl (.cons rfl (.cons rfl .nil)))) fun a16 H16 => ?_
  clear H15
  refine h_op (m' := [(23, _), (3, _), (2, _), (1, _)]) H16 rfl (wn rfl) (R_fa H16 rfl rfl (fa24_0 _ _)) rfl (.cons rfl (.cons rfl (.cons rfl (.cons rfl .nil)))) fun a17 H17 => ?_
  clear H16
  refine h_op (m' := [(24, _), (3, _), (2, _), (1, _)]) H17 rfl (wn rfl) (R_ld H17 rfl rfl (ld_int (hL.cl (g := W.heap.size) (A := mcells m (.slice A1 m.owner.length c1) (.slice A2 m.set.length c2)) (t := 29) (by simp) 9))) rfl (.cons rfl (.cons rfl (.cons rfl (.cons rfl .nil)))) fun a18 H18 => ?_
  clear H17
  refine h_op (m' := [(25, _), (24, _), (3, _), (2, _), (1, _)]) H18 rfl (wn rfl) (R_fa H18 rfl rfl (fa29_9 _ _)) rfl (.cons rfl (.cons rfl (.cons rfl (.cons rfl (.cons rfl .nil))))) fun a19 H19 => ?_
  clear H18
  refine h_op (m' := [(26, _), (24, _), (3, _), (2, _), (1, _)]) H19 rfl (wn rfl) (R_fa H19 rfl rfl (fa24_1 _ _)) rfl (.cons rfl (.cons rfl (.cons rfl (.cons rfl (.cons rfl .nil))))) fun a20 H20 => ?_
  clear H19
  refine h_op (m' := [(27, _), (24, _), (3, _), (2, _), (1, _)]) H20 rfl (wn rfl) (R_ld H20 rfl rfl (ld_int (hL.cl (g := W.heap.size) (A := mcells m (.slice A1 m.owner.length c1) (.slice A2 m.set.length c2)) (t := 29) (by simp) 10))) rfl (.cons rfl (.cons rfl (.cons rfl (.cons rfl (.cons rfl .nil))))) fun a21 H21 => ?_
  clear H20
  refine h_op (m' := [(28, _), (3, _), (2, _), (1, _)]) H21 rfl (wn rfl) (R_bd2 H21 rfl rfl rfl bd_short) rfl (.cons rfl (.cons rfl (.cons rfl (.cons rfl .nil)))) fun a22 H22 => ?_
  clear H21
  refine h_opL ((w7.heap.size, #[.int .i64 0, .int .i64 0, .int .i64 0, .int .u8 0, .string .empty, .int .i64 0, .int .i64 0, .int .i64 0], 24) :: [(w2.heap.size, mcells { PMsg.zero with kind := 0 } (.slice none 0 0) (.slice none 0 0), 29), (w1.heap.size, zcells, 29), (W.heap.size, mcells m (.slice A1 m.owner.length c1) (.slice A2 m.set.length c2), 29)]) (m' := [(4, _), (28, _), (3, _), (2, _), (1, _)]) H22 rfl (wn rfl) (R_alloc rfl al_item) (hL.alloc _ _) rfl (.cons rfl (.cons rfl (.cons rfl (.cons rfl (.cons rfl .nil))))) fun a23 w23 H23 hL' => ?_
  replace hL := hL'
  clear H22 hL'
  refine h_stL [(w2.heap.size, mcells { PMsg.zero with kind := 0 } (.slice none 0 0) (.slice none 0 0), 29), (w7.heap.size, #[.int .i64 m.isrc, .int .i64 m.iseq, .int .i64 0, .int .u8 0, .string .empty, .int .i64 0, .int .i64 0, .int .i64 0], 24), (w1.heap.size, zcells, 29), (W.heap.size, mcells m (.slice A1 m.owner.length c1) (.slice A2 m.set.length c2), 29)] H23 rfl (wn rfl) (R_st H23 rfl rfl rfl (st_short hL)) ((hL.row #[.int .i64 m.isrc, .int .i64 m.iseq, .int .i64 0, .int .u8 0, .string .empty, .int .i64 0, .int .i64 0, .int .i64 0]).swap) fun a24 w24 H24 hL' => ?_
  replace hL := hL'
  clear H23 hL'
  refine h_end ?_
  repeat (go_not_at_region 6; go_step)
  refine wp_region_lit ?_
  refine h_op (m' := [(29, _), (4, _), (3, _), (2, _), (1, _)]) H24 rfl (wn rfl) (R_fa H24 rfl rfl (fa29_0 _ _)) rfl (.cons rfl (.cons rfl (.cons rfl (.cons rfl (.cons rfl .nil))))) fun a25 H25 => ?_
  clear H24
  refine h_op (m' := [(30, _), (4, _), (3, _), (2, _), (1, _)]) H25 rfl (wn rfl) (R_ld H25 rfl rfl (ld_u8k (hL.cl (g := W.heap.size) (A := mcells m (.slice A1 m.owner.length c1) (.slice A2 m.set.length c2)) (t := 29) (by simp) 0) hc)) rfl (.cons rfl (.cons rfl (.cons rfl (.cons rfl (.cons rfl .nil))))) fun a26 H26 => ?_
  clear H25
  refine h_end ?_
  repeat (go_not_at_region 7; go_step)
  refine wp_region_lit ?_
  refine h_op (m' := [(32, _), (30, _), (4, _), (3, _), (2, _), (1, _)]) H26 rfl (wn rfl) (R_bin H26 rfl rfl rfl (B_to (y := false) (B8_eq _ _) (by decide))) rfl (.cons rfl (.cons rfl (.cons rfl (.cons rfl (.cons rfl (.cons rfl .nil)))))) fun a27 H27 => ?_
  clear H26
  refine h_op (m' := [(31, _), (30, _), (4, _), (3, _), (2, _), (1, _)]) H27 rfl (wn rfl) (R_as H27 rfl rfl) rfl (.cons rfl (.cons rfl (.cons rfl (.cons rfl (.cons rfl (.cons rfl .nil)))))) fun a28 H28 => ?_
  clear H27
  refine h_end ?_
  repeat (go_not_at_region 9; go_step)
  refine wp_cond_false (H28.ev (x := .tmp 31) rfl) ?_
  repeat (go_not_at_region 9; go_step)
  repeat (go_not_at_region 9; go_step)
  refine wp_region_lit ?_
  refine h_op (m' := [(37, _), (30, _), (4, _), (3, _), (2, _), (1, _)]) H28 rfl (wn rfl) (R_bin H28 rfl rfl rfl (B_to (y := false) (B8_eq _ _) (by decide))) rfl (.cons rfl (.cons rfl (.cons rfl (.cons rfl (.cons rfl (.cons rfl .nil)))))) fun a29 H29 => ?_
  clear H28
  refine h_op (m' := [(36, _), (30, _), (4, _), (3, _), (2, _), (1, _)]) H29 rfl (wn rfl) (R_as H29 rfl rfl) rfl (.cons rfl (.cons rfl (.cons rfl (.cons rfl (.cons rfl (.cons rfl .nil)))))) fun a30 H30 => ?_
  clear H29
  refine h_end ?_
  repeat (go_not_at_region 12; go_step)
  refine wp_cond_false (H30.ev (x := .tmp 36) rfl) ?_
  repeat (go_not_at_region 12; go_step)
  repeat (go_not_at_region 12; go_step)
  refine wp_region_lit ?_
  refine h_op (m' := [(44, _), (30, _), (4, _), (3, _), (2, _), (1, _)]) H30 rfl (wn rfl) (R_bin H30 rfl rfl rfl (B_to (y := false) (B8_eq _ _) (by decide))) rfl (.cons rfl (.cons rfl (.cons rfl (.cons rfl (.cons rfl (.cons rfl .nil)))))) fun a31 H31 => ?_
  clear H30
  refine h_op (m' := [(43, _), (30, _), (4, _), (3, _), (2, _), (1, _)]) H31 rfl (wn rfl) (R_as H31 rfl rfl) rfl (.cons rfl (.cons rfl (.cons rfl (.cons rfl (.cons rfl (.cons rfl .nil)))))) fun a32 H32 => ?_
  clear H31
  refine h_end ?_
  repeat (go_not_at_region 15; go_step)
  refine wp_cond_false (H32.ev (x := .tmp 43) rfl) ?_
  repeat (go_not_at_region 15; go_step)
  repeat (go_not_at_region 15; go_step)
  refine wp_region_lit ?_
  refine h_op (m' := [(51, _), (30, _), (4, _), (3, _), (2, _), (1, _)]) H32 rfl (wn rfl) (R_bin H32 rfl rfl rfl (B_to (y := false) (B8_eq _ _) (by decide))) rfl (.cons rfl (.cons rfl (.cons rfl (.cons rfl (.cons rfl (.cons rfl .nil)))))) fun a33 H33 => ?_
  clear H32
  refine h_op (m' := [(50, _), (30, _), (4, _), (3, _), (2, _), (1, _)]) H33 rfl (wn rfl) (R_as H33 rfl rfl) rfl (.cons rfl (.cons rfl (.cons rfl (.cons rfl (.cons rfl (.cons rfl .nil)))))) fun a34 H34 => ?_
  clear H33
  refine h_end ?_
  repeat (go_not_at_region 17; go_step)
  refine wp_cond_false (H34.ev (x := .tmp 50) rfl) ?_
  repeat (go_not_at_region 17; go_step)
  repeat (go_not_at_region 17; go_step)
  refine wp_region_lit ?_
  refine h_op (m' := [(56, _), (30, _), (4, _), (3, _), (2, _), (1, _)]) H34 rfl (wn rfl) (R_bin H34 rfl rfl rfl (B_to (y := false) (B8_eq _ _) (by decide))) rfl (.cons rfl (.cons rfl (.cons rfl (.cons rfl (.cons rfl (.cons rfl .nil)))))) fun a35 H35 => ?_
  clear H34
  refine h_op (m' := [(55, _), (30, _), (4, _), (3, _), (2, _), (1, _)]) H35 rfl (wn rfl) (R_as H35 rfl rfl) rfl (.cons rfl (.cons rfl (.cons rfl (.cons rfl (.cons rfl (.cons rfl .nil)))))) fun a36 H36 => ?_
  clear H35
  refine h_end ?_
  repeat (go_not_at_region 21; go_step)
  refine wp_cond_false (H36.ev (x := .tmp 55) rfl) ?_
  repeat (go_not_at_region 21; go_step)
  repeat (go_not_at_region 21; go_step)
  refine wp_region_lit ?_
  refine h_op (m' := [(67, _), (30, _), (4, _), (3, _), (2, _), (1, _)]) H36 rfl (wn rfl) (R_bin H36 rfl rfl rfl (B_to (y := false) (B8_eq _ _) (by decide))) rfl (.cons rfl (.cons rfl (.cons rfl (.cons rfl (.cons rfl (.cons rfl .nil)))))) fun a37 H37 => ?_
  clear H36
  refine h_op (m' := [(66, _), (30, _), (4, _), (3, _), (2, _), (1, _)]) H37 rfl (wn rfl) (R_as H37 rfl rfl) rfl (.cons rfl (.cons rfl (.cons rfl (.cons rfl (.cons rfl (.cons rfl .nil)))))) fun a38 H38 => ?_
  clear H37
  refine h_end ?_
  repeat (go_not_at_region 24; go_step)
  refine wp_cond_false (H38.ev (x := .tmp 66) rfl) ?_
  repeat (go_not_at_region 24; go_step)
  repeat (go_not_at_region 24; go_step)
  refine wp_region_lit ?_
  refine h_op (m' := [(75, _), (30, _), (4, _), (3, _), (2, _), (1, _)]) H38 rfl (wn rfl) (R_bin H38 rfl rfl rfl (B_to (y := false) (B8_eq _ _) (by decide))) rfl (.cons rfl (.cons rfl (.cons rfl (.cons rfl (.cons rfl (.cons rfl .nil)))))) fun a39 H39 => ?_
  clear H38
  refine h_op (m' := [(74, _), (30, _), (4, _), (3, _), (2, _), (1, _)]) H39 rfl (wn rfl) (R_as H39 rfl rfl) rfl (.cons rfl (.cons rfl (.cons rfl (.cons rfl (.cons rfl (.cons rfl .nil)))))) fun a40 H40 => ?_
  clear H39
  refine h_end ?_
  repeat (go_not_at_region 27; go_step)
  refine wp_cond_false (H40.ev (x := .tmp 74) rfl) ?_
  repeat (go_not_at_region 27; go_step)
  repeat (go_not_at_region 27; go_step)
  refine wp_region_lit ?_
  refine h_op (m' := [(83, _), (30, _), (4, _), (3, _), (2, _), (1, _)]) H40 rfl (wn rfl) (R_bin H40 rfl rfl rfl (B_to (y := false) (B8_eq _ _) (by decide))) rfl (.cons rfl (.cons rfl (.cons rfl (.cons rfl (.cons rfl (.cons rfl .nil)))))) fun a41 H41 => ?_
  clear H40
  refine h_op (m' := [(82, _), (30, _), (4, _), (3, _), (2, _), (1, _)]) H41 rfl (wn rfl) (R_as H41 rfl rfl) rfl (.cons rfl (.cons rfl (.cons rfl (.cons rfl (.cons rfl (.cons rfl .nil)))))) fun a42 H42 => ?_
  clear H41
  refine h_end ?_
  repeat (go_not_at_region 29; go_step)
  refine wp_cond_false (H42.ev (x := .tmp 82) rfl) ?_
  repeat (go_not_at_region 29; go_step)
  repeat (go_not_at_region 29; go_step)
  refine wp_region_lit ?_
  refine h_op (m' := [(88, _), (30, _), (4, _), (3, _), (2, _), (1, _)]) H42 rfl (wn rfl) (R_bin H42 rfl rfl rfl (B_to (y := false) (B8_eq _ _) (by decide))) rfl (.cons rfl (.cons rfl (.cons rfl (.cons rfl (.cons rfl (.cons rfl .nil)))))) fun a43 H43 => ?_
  clear H42
  refine h_op (m' := [(87, _), (30, _), (4, _), (3, _), (2, _), (1, _)]) H43 rfl (wn rfl) (R_as H43 rfl rfl) rfl (.cons rfl (.cons rfl (.cons rfl (.cons rfl (.cons rfl (.cons rfl .nil)))))) fun a44 H44 => ?_
  clear H43
  refine h_end ?_
  repeat (go_not_at_region 33; go_step)
  refine wp_cond_false (H44.ev (x := .tmp 87) rfl) ?_
  repeat (go_not_at_region 33; go_step)
  repeat (go_not_at_region 33; go_step)
  refine wp_region_lit ?_
  refine h_op (m' := [(99, _), (30, _), (4, _), (3, _), (2, _), (1, _)]) H44 rfl (wn rfl) (R_bin H44 rfl rfl rfl (B_to (y := false) (B8_eq _ _) (by decide))) rfl (.cons rfl (.cons rfl (.cons rfl (.cons rfl (.cons rfl (.cons rfl .nil)))))) fun a45 H45 => ?_
  clear H44
  refine h_op (m' := [(98, _), (30, _), (4, _), (3, _), (2, _), (1, _)]) H45 rfl (wn rfl) (R_as H45 rfl rfl) rfl (.cons rfl (.cons rfl (.cons rfl (.cons rfl (.cons rfl (.cons rfl .nil)))))) fun a46 H46 => ?_
  clear H45
  refine h_end ?_
  repeat (go_not_at_region 35; go_step)
  refine wp_cond_false (H46.ev (x := .tmp 98) rfl) ?_
  repeat (go_not_at_region 35; go_step)
  repeat (go_not_at_region 35; go_step)
  refine wp_region_lit ?_
  refine h_op (m' := [(104, _), (30, _), (4, _), (3, _), (2, _), (1, _)]) H46 rfl (wn rfl) (R_bin H46 rfl rfl rfl (B_to (y := false) (B8_eq _ _) (by decide))) rfl (.cons rfl (.cons rfl (.cons rfl (.cons rfl (.cons rfl (.cons rfl .nil)))))) fun a47 H47 => ?_
  clear H46
  refine h_op (m' := [(103, _), (30, _), (4, _), (3, _), (2, _), (1, _)]) H47 rfl (wn rfl) (R_as H47 rfl rfl) rfl (.cons rfl (.cons rfl (.cons rfl (.cons rfl (.cons rfl (.cons rfl .nil)))))) fun a48 H48 => ?_
  clear H47
  refine h_end ?_
  repeat (go_not_at_region 36; go_step)
  refine wp_cond_false (H48.ev (x := .tmp 103) rfl) ?_
  repeat (go_not_at_region 36; go_step)
  repeat (go_not_at_region 36; go_step)
  refine wp_region_lit ?_
  refine h_op (m' := [(105, _), (103, _), (30, _), (4, _), (3, _), (2, _), (1, _)]) H48 rfl (wn rfl) (R_bin H48 rfl rfl rfl (B_to (y := false) (B8_eq _ _) (by decide))) rfl (.cons rfl (.cons rfl (.cons rfl (.cons rfl (.cons rfl (.cons rfl (.cons rfl .nil))))))) fun a49 H49 => ?_
  clear H48
  refine h_op (m' := [(103, _), (30, _), (4, _), (3, _), (2, _), (1, _)]) H49 rfl (wn rfl) (R_as H49 rfl rfl) rfl (.cons rfl (.cons rfl (.cons rfl (.cons rfl (.cons rfl (.cons rfl .nil)))))) fun a50 H50 => ?_
  clear H49
  refine h_end ?_
  repeat (go_not_at_region 38; go_step)
  refine wp_cond_false (H50.ev (x := .tmp 103) rfl) ?_
  repeat (go_not_at_region 38; go_step)
  refine wp_region_lit ?_
  refine h_op (m' := [(109, _), (2, _)]) H50 rfl (wn rfl) (R_ld H50 rfl rfl (ld_row hL.at_)) rfl (.cons rfl (.cons rfl .nil)) fun a51 H51 => ?_
  clear H50
  refine h_stL [(w1.heap.size, mcells { PMsg.zero with kind := 0 } (.slice none 0 0) (.slice none 0 0), 29), (w2.heap.size, mcells { PMsg.zero with kind := 0 } (.slice none 0 0) (.slice none 0 0), 29), (w7.heap.size, #[.int .i64 m.isrc, .int .i64 m.iseq, .int .i64 0, .int .u8 0, .string .empty, .int .i64 0, .int .i64 0, .int .i64 0], 24), (W.heap.size, mcells m (.slice A1 m.owner.length c1) (.slice A2 m.set.length c2), 29)] H51 rfl (wn rfl) (R_st H51 rfl rfl rfl (st_row (m2 := .zero) (vo2 := .slice none 0 0) (vs2 := .slice none 0 0) (hL.mem_at (by simp)) (mcells_one rfl rfl))) (hL.third.row _) fun a52 w52 H52 hL' => ?_
  replace hL := hL'
  clear H51 hL'
  refine h_end ?_
  repeat (go_not_at_region 999; go_step)
  have ho' : onlyM m = { PMsg.zero with kind := 0 } := by
    unfold onlyM
    rw [hc]
    rfl
  refine bodyPost_ret (v := .agg (mcells { PMsg.zero with kind := 0 } (.slice none 0 0) (.slice none 0 0))) (only_results (H52.getD rfl) hL.at_) H52.1 ⟨(.slice none 0 0), (.slice none 0 0), by rw [ho'], ?_, ?_, hL.1⟩
  · intro w h; rw [ho']; exact .inl ⟨rfl, rfl⟩
  · intro w h; rw [ho']; exact .inl ⟨rfl, rfl⟩
set_option maxRecDepth 100000 in
set_option maxHeartbeats 4000000 in
theorem only_1 (hc : m.kind = 1) (ho : Rd W vo m.owner) (hs : Rd W vs m.set) : Calls Try.prog 18 #[.agg (mcells m vo vs)] W fun e W' => ∃ vo' vs', e = .returned (.agg (mcells (onlyM m) vo' vs')) ∧ (∀ w, Rd w vo m.owner → Rd w vo' (onlyM m).owner) ∧ (∀ w, Rd w vs m.set → Rd w vs' (onlyM m).set) ∧ Below W.heap.size W W' := by
  have hL := Live.init W
  obtain ⟨A1, c1, rfl⟩ := ho.slc
  obtain ⟨A2, c2, rfl⟩ := hs.slc
  go_enter Try.func18, Try.ntmps18
  refine wp_fr (n := 110) (m := [(0, _)]) ⟨rfl, rfl, by intro p hp; simp only [List.mem_cons, List.not_mem_nil, or_false] at hp; rcases hp with rfl <;> rfl⟩ fun a0 H0 => ?_
  repeat (go_not_at_region 0; go_step)
  refine wp_region_lit ?_
  refine h_opL [(W.heap.size, mcells m (.slice A1 m.owner.length c1) (.slice A2 m.set.length c2), 29)] (m' := [(1, _)]) H0 rfl (wn rfl) (R_box H0 rfl rfl bx_row) (hL.alloc _ _) rfl (.cons rfl .nil) fun a1 w1 H1 hL' => ?_
  replace hL := hL'
  clear H0 hL'
  refine h_opL [(w1.heap.size, zcells, 29), (W.heap.size, mcells m (.slice A1 m.owner.length c1) (.slice A2 m.set.length c2), 29)] (m' := [(2, _), (1, _)]) H1 rfl (wn rfl) (R_alloc rfl al_row) (hL.alloc _ _) rfl (.cons rfl (.cons rfl .nil)) fun a2 w2 H2 hL' => ?_
  replace hL := hL'
  clear H1 hL'
  refine h_end ?_
  repeat (go_not_at_region 1; go_step)
  refine wp_region_lit ?_
  refine h_op (m' := [(5, _), (2, _), (1, _)]) H2 rfl (wn rfl) (R_fa H2 rfl rfl (fa29_0 _ _)) rfl (.cons rfl (.cons rfl (.cons rfl .nil))) fun a3 H3 => ?_
  clear H2
  refine h_op (m' := [(6, _), (2, _), (1, _)]) H3 rfl (wn rfl) (R_ld H3 rfl rfl (ld_u8k (hL.cl (g := W.heap.size) (A := mcells m (.slice A1 m.owner.length c1) (.slice A2 m.set.length c2)) (t := 29) (by simp) 0) hc)) rfl (.cons rfl (.cons rfl (.cons rfl .nil))) fun a4 H4 => ?_
  clear H3
  refine h_op (m' := [(7, _), (2, _), (1, _)]) H4 rfl (wn rfl) (R_bd1 H4 rfl rfl bd_kind) rfl (.cons rfl (.cons rfl (.cons rfl .nil))) fun a5 H5 => ?_
  clear H4
  refine h_opL [(w2.heap.size, zcells, 29), (w1.heap.size, zcells, 29), (W.heap.size, mcells m (.slice A1 m.owner.length c1) (.slice A2 m.set.length c2), 29)] (m' := [(3, _), (7, _), (2, _), (1, _)]) H5 rfl (wn rfl) (R_alloc rfl al_row) (hL.alloc _ _) rfl (.cons rfl (.cons rfl (.cons rfl (.cons rfl .nil)))) fun a6 w6 H6 hL' => ?_
  replace hL := hL'
  clear H5 hL'
  refine h_stL [(w2.heap.size, mcells { PMsg.zero with kind := 1 } (.slice none 0 0) (.slice none 0 0), 29), (w1.heap.size, zcells, 29), (W.heap.size, mcells m (.slice A1 m.owner.length c1) (.slice A2 m.set.length c2), 29)] H6 rfl (wn rfl) (R_st H6 rfl rfl rfl (st_row (m2 := .zero) (vo2 := .slice none 0 0) (vs2 := .slice none 0 0) hL.at_ (mcells_one rfl rfl))) (hL.row _) fun a7 w7 H7 hL' => ?_
  replace hL := hL'
  clear H6 hL'
  refine h_end ?_
  repeat (go_not_at_region 2; go_step)
  refine wp_region_lit ?_
  refine h_op (m' := [(8, _), (3, _), (2, _), (1, _)]) H7 rfl (wn rfl) (R_fa H7 rfl rfl (fa29_0 _ _)) rfl (.cons rfl (.cons rfl (.cons rfl (.cons rfl .nil)))) fun a8 H8 => ?_
  clear H7
  refine h_op (m' := [(9, _), (3, _), (2, _), (1, _)]) H8 rfl (wn rfl) (R_ld H8 rfl rfl (ld_u8k (hL.cl (g := W.heap.size) (A := mcells m (.slice A1 m.owner.length c1) (.slice A2 m.set.length c2)) (t := 29) (by simp) 0) hc)) rfl (.cons rfl (.cons rfl (.cons rfl (.cons rfl .nil)))) fun a9 H9 => ?_
  clear H8
  refine h_op (m' := [(10, _), (3, _), (2, _), (1, _)]) H9 rfl (wn rfl) (R_bin H9 rfl rfl rfl (B_to (y := false) (B8_ge _ _) (by decide))) rfl (.cons rfl (.cons rfl (.cons rfl (.cons rfl .nil)))) fun a10 H10 => ?_
  clear H9
  refine h_op (m' := [(11, _), (3, _), (2, _), (1, _)]) H10 rfl (wn rfl) (R_mv H10 rfl rfl) rfl (.cons rfl (.cons rfl (.cons rfl (.cons rfl .nil)))) fun a11 H11 => ?_
  clear H10
  refine h_skip (m' := [(11, _), (3, _), (2, _), (1, _)]) H11 rfl (H11.wf rfl rfl rfl) rfl (.cons rfl (.cons rfl (.cons rfl (.cons rfl .nil)))) fun a12 H12 => ?_
  clear H11
  refine h_skip (m' := [(11, _), (3, _), (2, _), (1, _)]) H12 rfl (H12.wf rfl rfl rfl) rfl (.cons rfl (.cons rfl (.cons rfl (.cons rfl .nil)))) fun a13 H13 => ?_
  clear H12
  refine h_skip (m' := [(11, _), (3, _), (2, _), (1, _)]) H13 rfl (H13.wf rfl rfl rfl) rfl (.cons rfl (.cons rfl (.cons rfl (.cons rfl .nil)))) fun a14 H14 => ?_
  clear H13
  refine h_op (m' := [(15, _), (3, _), (2, _), (1, _)]) H14 rfl (wn rfl) (R_pick H14 rfl rfl rfl) rfl (.cons rfl (.cons rfl (.cons rfl (.cons rfl .nil)))) fun a15 H15 => ?_
  clear H14
  refine h_end ?_
  repeat (go_not_at_region 5; go_step)
  refine wp_cond_false (H15.ev (x := .tmp 15) rfl) ?_
  repeat (go_not_at_region 5; go_step)
  refine wp_region_lit ?_
  refine h_op (m' := [(22, _), (3, _), (2, _), (1, _)]) H15 rfl (wn rfl) (R_fa H15 rfl rfl (fa29_9 _ _)) rfl (.cons rfl (.cons rfl (.cons rfl (.cons rfl .nil)))) fun a16 H16 => ?_
  clear H15
  refine h_op (m' := [(23, _), (3, _), (2, _), (1, _)]) H16 rfl (wn rfl) (R_fa H16 rfl rfl (fa24_0 _ _)) rfl (.cons rfl (.cons rfl (.cons rfl (.cons rfl .nil)))) fun a17 H17 => ?_
  clear H16
  refine h_op (m' := [(24, _), (3, _), (2, _), (1, _)]) H17 rfl (wn rfl) (R_ld H17 rfl rfl (ld_int (hL.cl (g := W.heap.size) (A := mcells m (.slice A1 m.owner.length c1) (.slice A2 m.set.length c2)) (t := 29) (by simp) 9))) rfl (.cons rfl (.cons rfl (.cons rfl (.cons rfl .nil)))) fun a18 H18 => ?_
  clear H17
  refine h_op (m' := [(25, _), (24, _), (3, _), (2, _), (1, _)]) H18 rfl (wn rfl) (R_fa H18 rfl rfl (fa29_9 _ _)) rfl (.cons rfl (.cons rfl (.cons rfl (.cons rfl (.cons rfl .nil))))) fun a19 H19 => ?_
  clear H18
  refine h_op (m' := [(26, _), (24, _), (3, _), (2, _), (1, _)]) H19 rfl (wn rfl) (R_fa H19 rfl rfl (fa24_1 _ _)) rfl (.cons rfl (.cons rfl (.cons rfl (.cons rfl (.cons rfl .nil))))) fun a20 H20 => ?_
  clear H19
  refine h_op (m' := [(27, _), (24, _), (3, _), (2, _), (1, _)]) H20 rfl (wn rfl) (R_ld H20 rfl rfl (ld_int (hL.cl (g := W.heap.size) (A := mcells m (.slice A1 m.owner.length c1) (.slice A2 m.set.length c2)) (t := 29) (by simp) 10))) rfl (.cons rfl (.cons rfl (.cons rfl (.cons rfl (.cons rfl .nil))))) fun a21 H21 => ?_
  clear H20
  refine h_op (m' := [(28, _), (3, _), (2, _), (1, _)]) H21 rfl (wn rfl) (R_bd2 H21 rfl rfl rfl bd_short) rfl (.cons rfl (.cons rfl (.cons rfl (.cons rfl .nil)))) fun a22 H22 => ?_
  clear H21
  refine h_opL ((w7.heap.size, #[.int .i64 0, .int .i64 0, .int .i64 0, .int .u8 0, .string .empty, .int .i64 0, .int .i64 0, .int .i64 0], 24) :: [(w2.heap.size, mcells { PMsg.zero with kind := 1 } (.slice none 0 0) (.slice none 0 0), 29), (w1.heap.size, zcells, 29), (W.heap.size, mcells m (.slice A1 m.owner.length c1) (.slice A2 m.set.length c2), 29)]) (m' := [(4, _), (28, _), (3, _), (2, _), (1, _)]) H22 rfl (wn rfl) (R_alloc rfl al_item) (hL.alloc _ _) rfl (.cons rfl (.cons rfl (.cons rfl (.cons rfl (.cons rfl .nil))))) fun a23 w23 H23 hL' => ?_
  replace hL := hL'
  clear H22 hL'
  refine h_stL [(w2.heap.size, mcells { PMsg.zero with kind := 1 } (.slice none 0 0) (.slice none 0 0), 29), (w7.heap.size, #[.int .i64 m.isrc, .int .i64 m.iseq, .int .i64 0, .int .u8 0, .string .empty, .int .i64 0, .int .i64 0, .int .i64 0], 24), (w1.heap.size, zcells, 29), (W.heap.size, mcells m (.slice A1 m.owner.length c1) (.slice A2 m.set.length c2), 29)] H23 rfl (wn rfl) (R_st H23 rfl rfl rfl (st_short hL)) ((hL.row #[.int .i64 m.isrc, .int .i64 m.iseq, .int .i64 0, .int .u8 0, .string .empty, .int .i64 0, .int .i64 0, .int .i64 0]).swap) fun a24 w24 H24 hL' => ?_
  replace hL := hL'
  clear H23 hL'
  refine h_end ?_
  repeat (go_not_at_region 6; go_step)
  refine wp_region_lit ?_
  refine h_op (m' := [(29, _), (4, _), (3, _), (2, _), (1, _)]) H24 rfl (wn rfl) (R_fa H24 rfl rfl (fa29_0 _ _)) rfl (.cons rfl (.cons rfl (.cons rfl (.cons rfl (.cons rfl .nil))))) fun a25 H25 => ?_
  clear H24
  refine h_op (m' := [(30, _), (4, _), (3, _), (2, _), (1, _)]) H25 rfl (wn rfl) (R_ld H25 rfl rfl (ld_u8k (hL.cl (g := W.heap.size) (A := mcells m (.slice A1 m.owner.length c1) (.slice A2 m.set.length c2)) (t := 29) (by simp) 0) hc)) rfl (.cons rfl (.cons rfl (.cons rfl (.cons rfl (.cons rfl .nil))))) fun a26 H26 => ?_
  clear H25
  refine h_end ?_
  repeat (go_not_at_region 7; go_step)
  refine wp_region_lit ?_
  refine h_op (m' := [(32, _), (30, _), (4, _), (3, _), (2, _), (1, _)]) H26 rfl (wn rfl) (R_bin H26 rfl rfl rfl (B_to (y := true) (B8_eq _ _) (by decide))) rfl (.cons rfl (.cons rfl (.cons rfl (.cons rfl (.cons rfl (.cons rfl .nil)))))) fun a27 H27 => ?_
  clear H26
  refine h_op (m' := [(31, _), (30, _), (4, _), (3, _), (2, _), (1, _)]) H27 rfl (wn rfl) (R_as H27 rfl rfl) rfl (.cons rfl (.cons rfl (.cons rfl (.cons rfl (.cons rfl (.cons rfl .nil)))))) fun a28 H28 => ?_
  clear H27
  refine h_end ?_
  repeat (go_not_at_region 8; go_step)
  refine wp_cond_true (H28.ev (x := .tmp 31) rfl) ?_
  repeat (go_not_at_region 8; go_step)
  refine wp_region_lit ?_
  refine h_op (m' := [(33, _), (30, _), (4, _), (3, _), (2, _), (1, _)]) H28 rfl (wn rfl) (R_fa H28 rfl rfl (fa29_9 _ _)) rfl (.cons rfl (.cons rfl (.cons rfl (.cons rfl (.cons rfl (.cons rfl .nil)))))) fun a29 H29 => ?_
  clear H28
  refine h_op (m' := [(34, _), (30, _), (4, _), (3, _), (2, _), (1, _)]) H29 rfl (wn rfl) (R_ld H29 rfl rfl (ld_item (hL.cl (g := W.heap.size) (A := mcells m (.slice A1 m.owner.length c1) (.slice A2 m.set.length c2)) (t := 29) (by simp) 9) (hL.cl (g := W.heap.size) (A := mcells m (.slice A1 m.owner.length c1) (.slice A2 m.set.length c2)) (t := 29) (by simp) 10) (hL.cl (g := W.heap.size) (A := mcells m (.slice A1 m.owner.length c1) (.slice A2 m.set.length c2)) (t := 29) (by simp) 11) (hL.cl (g := W.heap.size) (A := mcells m (.slice A1 m.owner.length c1) (.slice A2 m.set.length c2)) (t := 29) (by simp) 12) (hL.cl (g := W.heap.size) (A := mcells m (.slice A1 m.owner.length c1) (.slice A2 m.set.length c2)) (t := 29) (by simp) 13) (hL.cl (g := W.heap.size) (A := mcells m (.slice A1 m.owner.length c1) (.slice A2 m.set.length c2)) (t := 29) (by simp) 14) (hL.cl (g := W.heap.size) (A := mcells m (.slice A1 m.owner.length c1) (.slice A2 m.set.length c2)) (t := 29) (by simp) 15) (hL.cl (g := W.heap.size) (A := mcells m (.slice A1 m.owner.length c1) (.slice A2 m.set.length c2)) (t := 29) (by simp) 16))) rfl (.cons rfl (.cons rfl (.cons rfl (.cons rfl (.cons rfl (.cons rfl .nil)))))) fun a30 H30 => ?_
  clear H29
  refine h_op (m' := [(35, _), (34, _), (30, _), (4, _), (3, _), (2, _), (1, _)]) H30 rfl (wn rfl) (R_fa H30 rfl rfl (fa29_9 _ _)) rfl (.cons rfl (.cons rfl (.cons rfl (.cons rfl (.cons rfl (.cons rfl (.cons rfl .nil))))))) fun a31 H31 => ?_
  clear H30
  refine h_stL [(w2.heap.size, mcells { PMsg.zero with kind := 1, isrc := m.isrc, iseq := m.iseq, ilow := m.ilow, ikind := m.ikind, ikey := m.ikey, ipart := m.ipart, iat := m.iat, iN := m.iN } (.slice none 0 0) (.slice none 0 0), 29), (w7.heap.size, #[.int .i64 m.isrc, .int .i64 m.iseq, .int .i64 0, .int .u8 0, .string .empty, .int .i64 0, .int .i64 0, .int .i64 0], 24), (w1.heap.size, zcells, 29), (W.heap.size, mcells m (.slice A1 m.owner.length c1) (.slice A2 m.set.length c2), 29)] H31 rfl (wn rfl) (R_st H31 rfl rfl rfl (st_itemM hL)) (hL.itemM m.isrc m.iseq m.ilow m.ikind m.ikey m.ipart m.iat m.iN) fun a32 w32 H32 hL' => ?_
  replace hL := hL'
  clear H31 hL'
  refine h_end ?_
  repeat (go_not_at_region 38; go_step)
  refine wp_region_lit ?_
  refine h_op (m' := [(109, _), (2, _)]) H32 rfl (wn rfl) (R_ld H32 rfl rfl (ld_row hL.at_)) rfl (.cons rfl (.cons rfl .nil)) fun a33 H33 => ?_
  clear H32
  refine h_stL [(w1.heap.size, mcells { PMsg.zero with kind := 1, isrc := m.isrc, iseq := m.iseq, ilow := m.ilow, ikind := m.ikind, ikey := m.ikey, ipart := m.ipart, iat := m.iat, iN := m.iN } (.slice none 0 0) (.slice none 0 0), 29), (w2.heap.size, mcells { PMsg.zero with kind := 1, isrc := m.isrc, iseq := m.iseq, ilow := m.ilow, ikind := m.ikind, ikey := m.ikey, ipart := m.ipart, iat := m.iat, iN := m.iN } (.slice none 0 0) (.slice none 0 0), 29), (w7.heap.size, #[.int .i64 m.isrc, .int .i64 m.iseq, .int .i64 0, .int .u8 0, .string .empty, .int .i64 0, .int .i64 0, .int .i64 0], 24), (W.heap.size, mcells m (.slice A1 m.owner.length c1) (.slice A2 m.set.length c2), 29)] H33 rfl (wn rfl) (R_st H33 rfl rfl rfl (st_row (m2 := .zero) (vo2 := .slice none 0 0) (vs2 := .slice none 0 0) (hL.mem_at (by simp)) (mcells_one rfl rfl))) (hL.third.row _) fun a34 w34 H34 hL' => ?_
  replace hL := hL'
  clear H33 hL'
  refine h_end ?_
  repeat (go_not_at_region 999; go_step)
  have ho' : onlyM m = { PMsg.zero with kind := 1, isrc := m.isrc, iseq := m.iseq, ilow := m.ilow, ikind := m.ikind, ikey := m.ikey, ipart := m.ipart, iat := m.iat, iN := m.iN } := by
    unfold onlyM
    rw [hc]
    rfl
  refine bodyPost_ret (v := .agg (mcells { PMsg.zero with kind := 1, isrc := m.isrc, iseq := m.iseq, ilow := m.ilow, ikind := m.ikind, ikey := m.ikey, ipart := m.ipart, iat := m.iat, iN := m.iN } (.slice none 0 0) (.slice none 0 0))) (only_results (H34.getD rfl) hL.at_) H34.1 ⟨(.slice none 0 0), (.slice none 0 0), by rw [ho'], ?_, ?_, hL.1⟩
  · intro w h; rw [ho']; exact .inl ⟨rfl, rfl⟩
  · intro w h; rw [ho']; exact .inl ⟨rfl, rfl⟩
set_option maxRecDepth 100000 in
set_option maxHeartbeats 4000000 in
theorem only_2 (hc : m.kind = 2) (ho : Rd W vo m.owner) (hs : Rd W vs m.set) : Calls Try.prog 18 #[.agg (mcells m vo vs)] W fun e W' => ∃ vo' vs', e = .returned (.agg (mcells (onlyM m) vo' vs')) ∧ (∀ w, Rd w vo m.owner → Rd w vo' (onlyM m).owner) ∧ (∀ w, Rd w vs m.set → Rd w vs' (onlyM m).set) ∧ Below W.heap.size W W' := by
  have hL := Live.init W
  obtain ⟨A1, c1, rfl⟩ := ho.slc
  obtain ⟨A2, c2, rfl⟩ := hs.slc
  go_enter Try.func18, Try.ntmps18
  refine wp_fr (n := 110) (m := [(0, _)]) ⟨rfl, rfl, by intro p hp; simp only [List.mem_cons, List.not_mem_nil, or_false] at hp; rcases hp with rfl <;> rfl⟩ fun a0 H0 => ?_
  repeat (go_not_at_region 0; go_step)
  refine wp_region_lit ?_
  refine h_opL [(W.heap.size, mcells m (.slice A1 m.owner.length c1) (.slice A2 m.set.length c2), 29)] (m' := [(1, _)]) H0 rfl (wn rfl) (R_box H0 rfl rfl bx_row) (hL.alloc _ _) rfl (.cons rfl .nil) fun a1 w1 H1 hL' => ?_
  replace hL := hL'
  clear H0 hL'
  refine h_opL [(w1.heap.size, zcells, 29), (W.heap.size, mcells m (.slice A1 m.owner.length c1) (.slice A2 m.set.length c2), 29)] (m' := [(2, _), (1, _)]) H1 rfl (wn rfl) (R_alloc rfl al_row) (hL.alloc _ _) rfl (.cons rfl (.cons rfl .nil)) fun a2 w2 H2 hL' => ?_
  replace hL := hL'
  clear H1 hL'
  refine h_end ?_
  repeat (go_not_at_region 1; go_step)
  refine wp_region_lit ?_
  refine h_op (m' := [(5, _), (2, _), (1, _)]) H2 rfl (wn rfl) (R_fa H2 rfl rfl (fa29_0 _ _)) rfl (.cons rfl (.cons rfl (.cons rfl .nil))) fun a3 H3 => ?_
  clear H2
  refine h_op (m' := [(6, _), (2, _), (1, _)]) H3 rfl (wn rfl) (R_ld H3 rfl rfl (ld_u8k (hL.cl (g := W.heap.size) (A := mcells m (.slice A1 m.owner.length c1) (.slice A2 m.set.length c2)) (t := 29) (by simp) 0) hc)) rfl (.cons rfl (.cons rfl (.cons rfl .nil))) fun a4 H4 => ?_
  clear H3
  refine h_op (m' := [(7, _), (2, _), (1, _)]) H4 rfl (wn rfl) (R_bd1 H4 rfl rfl bd_kind) rfl (.cons rfl (.cons rfl (.cons rfl .nil))) fun a5 H5 => ?_
  clear H4
  refine h_opL [(w2.heap.size, zcells, 29), (w1.heap.size, zcells, 29), (W.heap.size, mcells m (.slice A1 m.owner.length c1) (.slice A2 m.set.length c2), 29)] (m' := [(3, _), (7, _), (2, _), (1, _)]) H5 rfl (wn rfl) (R_alloc rfl al_row) (hL.alloc _ _) rfl (.cons rfl (.cons rfl (.cons rfl (.cons rfl .nil)))) fun a6 w6 H6 hL' => ?_
  replace hL := hL'
  clear H5 hL'
  refine h_stL [(w2.heap.size, mcells { PMsg.zero with kind := 2 } (.slice none 0 0) (.slice none 0 0), 29), (w1.heap.size, zcells, 29), (W.heap.size, mcells m (.slice A1 m.owner.length c1) (.slice A2 m.set.length c2), 29)] H6 rfl (wn rfl) (R_st H6 rfl rfl rfl (st_row (m2 := .zero) (vo2 := .slice none 0 0) (vs2 := .slice none 0 0) hL.at_ (mcells_one rfl rfl))) (hL.row _) fun a7 w7 H7 hL' => ?_
  replace hL := hL'
  clear H6 hL'
  refine h_end ?_
  repeat (go_not_at_region 2; go_step)
  refine wp_region_lit ?_
  refine h_op (m' := [(8, _), (3, _), (2, _), (1, _)]) H7 rfl (wn rfl) (R_fa H7 rfl rfl (fa29_0 _ _)) rfl (.cons rfl (.cons rfl (.cons rfl (.cons rfl .nil)))) fun a8 H8 => ?_
  clear H7
  refine h_op (m' := [(9, _), (3, _), (2, _), (1, _)]) H8 rfl (wn rfl) (R_ld H8 rfl rfl (ld_u8k (hL.cl (g := W.heap.size) (A := mcells m (.slice A1 m.owner.length c1) (.slice A2 m.set.length c2)) (t := 29) (by simp) 0) hc)) rfl (.cons rfl (.cons rfl (.cons rfl (.cons rfl .nil)))) fun a9 H9 => ?_
  clear H8
  refine h_op (m' := [(10, _), (3, _), (2, _), (1, _)]) H9 rfl (wn rfl) (R_bin H9 rfl rfl rfl (B_to (y := false) (B8_ge _ _) (by decide))) rfl (.cons rfl (.cons rfl (.cons rfl (.cons rfl .nil)))) fun a10 H10 => ?_
  clear H9
  refine h_op (m' := [(11, _), (3, _), (2, _), (1, _)]) H10 rfl (wn rfl) (R_mv H10 rfl rfl) rfl (.cons rfl (.cons rfl (.cons rfl (.cons rfl .nil)))) fun a11 H11 => ?_
  clear H10
  refine h_skip (m' := [(11, _), (3, _), (2, _), (1, _)]) H11 rfl (H11.wf rfl rfl rfl) rfl (.cons rfl (.cons rfl (.cons rfl (.cons rfl .nil)))) fun a12 H12 => ?_
  clear H11
  refine h_skip (m' := [(11, _), (3, _), (2, _), (1, _)]) H12 rfl (H12.wf rfl rfl rfl) rfl (.cons rfl (.cons rfl (.cons rfl (.cons rfl .nil)))) fun a13 H13 => ?_
  clear H12
  refine h_skip (m' := [(11, _), (3, _), (2, _), (1, _)]) H13 rfl (H13.wf rfl rfl rfl) rfl (.cons rfl (.cons rfl (.cons rfl (.cons rfl .nil)))) fun a14 H14 => ?_
  clear H13
  refine h_op (m' := [(15, _), (3, _), (2, _), (1, _)]) H14 rfl (wn rfl) (R_pick H14 rfl rfl rfl) rfl (.cons rfl (.cons rfl (.cons rfl (.cons rfl .nil)))) fun a15 H15 => ?_
  clear H14
  refine h_end ?_
  repeat (go_not_at_region 5; go_step)
  refine wp_cond_false (H15.ev (x := .tmp 15) rfl) ?_
  repeat (go_not_at_region 5; go_step)
  refine wp_region_lit ?_
  refine h_op (m' := [(22, _), (3, _), (2, _), (1, _)]) H15 rfl (wn rfl) (R_fa H15 rfl rfl (fa29_9 _ _)) rfl (.cons rfl (.cons rfl (.cons rfl (.cons rfl .nil)))) fun a16 H16 => ?_
  clear H15
  refine h_op (m' := [(23, _), (3, _), (2, _), (1, _)]) H16 rfl (wn rfl) (R_fa H16 rfl rfl (fa24_0 _ _)) rfl (.cons rfl (.cons rfl (.cons rfl (.cons rfl .nil)))) fun a17 H17 => ?_
  clear H16
  refine h_op (m' := [(24, _), (3, _), (2, _), (1, _)]) H17 rfl (wn rfl) (R_ld H17 rfl rfl (ld_int (hL.cl (g := W.heap.size) (A := mcells m (.slice A1 m.owner.length c1) (.slice A2 m.set.length c2)) (t := 29) (by simp) 9))) rfl (.cons rfl (.cons rfl (.cons rfl (.cons rfl .nil)))) fun a18 H18 => ?_
  clear H17
  refine h_op (m' := [(25, _), (24, _), (3, _), (2, _), (1, _)]) H18 rfl (wn rfl) (R_fa H18 rfl rfl (fa29_9 _ _)) rfl (.cons rfl (.cons rfl (.cons rfl (.cons rfl (.cons rfl .nil))))) fun a19 H19 => ?_
  clear H18
  refine h_op (m' := [(26, _), (24, _), (3, _), (2, _), (1, _)]) H19 rfl (wn rfl) (R_fa H19 rfl rfl (fa24_1 _ _)) rfl (.cons rfl (.cons rfl (.cons rfl (.cons rfl (.cons rfl .nil))))) fun a20 H20 => ?_
  clear H19
  refine h_op (m' := [(27, _), (24, _), (3, _), (2, _), (1, _)]) H20 rfl (wn rfl) (R_ld H20 rfl rfl (ld_int (hL.cl (g := W.heap.size) (A := mcells m (.slice A1 m.owner.length c1) (.slice A2 m.set.length c2)) (t := 29) (by simp) 10))) rfl (.cons rfl (.cons rfl (.cons rfl (.cons rfl (.cons rfl .nil))))) fun a21 H21 => ?_
  clear H20
  refine h_op (m' := [(28, _), (3, _), (2, _), (1, _)]) H21 rfl (wn rfl) (R_bd2 H21 rfl rfl rfl bd_short) rfl (.cons rfl (.cons rfl (.cons rfl (.cons rfl .nil)))) fun a22 H22 => ?_
  clear H21
  refine h_opL ((w7.heap.size, #[.int .i64 0, .int .i64 0, .int .i64 0, .int .u8 0, .string .empty, .int .i64 0, .int .i64 0, .int .i64 0], 24) :: [(w2.heap.size, mcells { PMsg.zero with kind := 2 } (.slice none 0 0) (.slice none 0 0), 29), (w1.heap.size, zcells, 29), (W.heap.size, mcells m (.slice A1 m.owner.length c1) (.slice A2 m.set.length c2), 29)]) (m' := [(4, _), (28, _), (3, _), (2, _), (1, _)]) H22 rfl (wn rfl) (R_alloc rfl al_item) (hL.alloc _ _) rfl (.cons rfl (.cons rfl (.cons rfl (.cons rfl (.cons rfl .nil))))) fun a23 w23 H23 hL' => ?_
  replace hL := hL'
  clear H22 hL'
  refine h_stL [(w2.heap.size, mcells { PMsg.zero with kind := 2 } (.slice none 0 0) (.slice none 0 0), 29), (w7.heap.size, #[.int .i64 m.isrc, .int .i64 m.iseq, .int .i64 0, .int .u8 0, .string .empty, .int .i64 0, .int .i64 0, .int .i64 0], 24), (w1.heap.size, zcells, 29), (W.heap.size, mcells m (.slice A1 m.owner.length c1) (.slice A2 m.set.length c2), 29)] H23 rfl (wn rfl) (R_st H23 rfl rfl rfl (st_short hL)) ((hL.row #[.int .i64 m.isrc, .int .i64 m.iseq, .int .i64 0, .int .u8 0, .string .empty, .int .i64 0, .int .i64 0, .int .i64 0]).swap) fun a24 w24 H24 hL' => ?_
  replace hL := hL'
  clear H23 hL'
  refine h_end ?_
  repeat (go_not_at_region 6; go_step)
  refine wp_region_lit ?_
  refine h_op (m' := [(29, _), (4, _), (3, _), (2, _), (1, _)]) H24 rfl (wn rfl) (R_fa H24 rfl rfl (fa29_0 _ _)) rfl (.cons rfl (.cons rfl (.cons rfl (.cons rfl (.cons rfl .nil))))) fun a25 H25 => ?_
  clear H24
  refine h_op (m' := [(30, _), (4, _), (3, _), (2, _), (1, _)]) H25 rfl (wn rfl) (R_ld H25 rfl rfl (ld_u8k (hL.cl (g := W.heap.size) (A := mcells m (.slice A1 m.owner.length c1) (.slice A2 m.set.length c2)) (t := 29) (by simp) 0) hc)) rfl (.cons rfl (.cons rfl (.cons rfl (.cons rfl (.cons rfl .nil))))) fun a26 H26 => ?_
  clear H25
  refine h_end ?_
  repeat (go_not_at_region 7; go_step)
  refine wp_region_lit ?_
  refine h_op (m' := [(32, _), (30, _), (4, _), (3, _), (2, _), (1, _)]) H26 rfl (wn rfl) (R_bin H26 rfl rfl rfl (B_to (y := false) (B8_eq _ _) (by decide))) rfl (.cons rfl (.cons rfl (.cons rfl (.cons rfl (.cons rfl (.cons rfl .nil)))))) fun a27 H27 => ?_
  clear H26
  refine h_op (m' := [(31, _), (30, _), (4, _), (3, _), (2, _), (1, _)]) H27 rfl (wn rfl) (R_as H27 rfl rfl) rfl (.cons rfl (.cons rfl (.cons rfl (.cons rfl (.cons rfl (.cons rfl .nil)))))) fun a28 H28 => ?_
  clear H27
  refine h_end ?_
  repeat (go_not_at_region 9; go_step)
  refine wp_cond_false (H28.ev (x := .tmp 31) rfl) ?_
  repeat (go_not_at_region 9; go_step)
  repeat (go_not_at_region 9; go_step)
  refine wp_region_lit ?_
  refine h_op (m' := [(37, _), (30, _), (4, _), (3, _), (2, _), (1, _)]) H28 rfl (wn rfl) (R_bin H28 rfl rfl rfl (B_to (y := true) (B8_eq _ _) (by decide))) rfl (.cons rfl (.cons rfl (.cons rfl (.cons rfl (.cons rfl (.cons rfl .nil)))))) fun a29 H29 => ?_
  clear H28
  refine h_op (m' := [(36, _), (30, _), (4, _), (3, _), (2, _), (1, _)]) H29 rfl (wn rfl) (R_as H29 rfl rfl) rfl (.cons rfl (.cons rfl (.cons rfl (.cons rfl (.cons rfl (.cons rfl .nil)))))) fun a30 H30 => ?_
  clear H29
  refine h_end ?_
  repeat (go_not_at_region 10; go_step)
  refine wp_cond_true (H30.ev (x := .tmp 36) rfl) ?_
  repeat (go_not_at_region 10; go_step)
  refine wp_region_lit ?_
  refine h_op (m' := [(38, _), (30, _), (4, _), (3, _), (2, _), (1, _)]) H30 rfl (wn rfl) (R_ld H30 rfl rfl (ld_short (hL.cl (g := w7.heap.size) (A := #[.int .i64 m.isrc, .int .i64 m.iseq, .int .i64 0, .int .u8 0, .string .empty, .int .i64 0, .int .i64 0, .int .i64 0]) (t := 24) (by simp) 0) (hL.cl (g := w7.heap.size) (A := #[.int .i64 m.isrc, .int .i64 m.iseq, .int .i64 0, .int .u8 0, .string .empty, .int .i64 0, .int .i64 0, .int .i64 0]) (t := 24) (by simp) 1) (hL.cl (g := w7.heap.size) (A := #[.int .i64 m.isrc, .int .i64 m.iseq, .int .i64 0, .int .u8 0, .string .empty, .int .i64 0, .int .i64 0, .int .i64 0]) (t := 24) (by simp) 2) (hL.cl (g := w7.heap.size) (A := #[.int .i64 m.isrc, .int .i64 m.iseq, .int .i64 0, .int .u8 0, .string .empty, .int .i64 0, .int .i64 0, .int .i64 0]) (t := 24) (by simp) 3) (hL.cl (g := w7.heap.size) (A := #[.int .i64 m.isrc, .int .i64 m.iseq, .int .i64 0, .int .u8 0, .string .empty, .int .i64 0, .int .i64 0, .int .i64 0]) (t := 24) (by simp) 4) (hL.cl (g := w7.heap.size) (A := #[.int .i64 m.isrc, .int .i64 m.iseq, .int .i64 0, .int .u8 0, .string .empty, .int .i64 0, .int .i64 0, .int .i64 0]) (t := 24) (by simp) 5) (hL.cl (g := w7.heap.size) (A := #[.int .i64 m.isrc, .int .i64 m.iseq, .int .i64 0, .int .u8 0, .string .empty, .int .i64 0, .int .i64 0, .int .i64 0]) (t := 24) (by simp) 6) (hL.cl (g := w7.heap.size) (A := #[.int .i64 m.isrc, .int .i64 m.iseq, .int .i64 0, .int .u8 0, .string .empty, .int .i64 0, .int .i64 0, .int .i64 0]) (t := 24) (by simp) 7))) rfl (.cons rfl (.cons rfl (.cons rfl (.cons rfl (.cons rfl (.cons rfl .nil)))))) fun a31 H31 => ?_
  clear H30
  refine h_op (m' := [(39, _), (38, _), (30, _), (4, _), (3, _), (2, _), (1, _)]) H31 rfl (wn rfl) (R_fa H31 rfl rfl (fa29_9 _ _)) rfl (.cons rfl (.cons rfl (.cons rfl (.cons rfl (.cons rfl (.cons rfl (.cons rfl .nil))))))) fun a32 H32 => ?_
  clear H31
  refine h_stL [(w2.heap.size, mcells { PMsg.zero with kind := 2, isrc := m.isrc, iseq := m.iseq } (.slice none 0 0) (.slice none 0 0), 29), (w7.heap.size, #[.int .i64 m.isrc, .int .i64 m.iseq, .int .i64 0, .int .u8 0, .string .empty, .int .i64 0, .int .i64 0, .int .i64 0], 24), (w1.heap.size, zcells, 29), (W.heap.size, mcells m (.slice A1 m.owner.length c1) (.slice A2 m.set.length c2), 29)] H32 rfl (wn rfl) (R_st H32 rfl rfl rfl (st_itemM hL)) (hL.itemM m.isrc m.iseq 0 0 .empty 0 0 0) fun a33 w33 H33 hL' => ?_
  replace hL := hL'
  clear H32 hL'
  refine h_end ?_
  repeat (go_not_at_region 11; go_step)
  refine wp_region_lit ?_
  refine h_op (m' := [(40, _), (30, _), (4, _), (3, _), (2, _), (1, _)]) H33 rfl (wn rfl) (R_fa H33 rfl rfl (fa29_6 _ _)) rfl (.cons rfl (.cons rfl (.cons rfl (.cons rfl (.cons rfl (.cons rfl .nil)))))) fun a34 H34 => ?_
  clear H33
  refine h_op (m' := [(41, _), (30, _), (4, _), (3, _), (2, _), (1, _)]) H34 rfl (wn rfl) (R_ld H34 rfl rfl (ld_int (hL.cl (g := W.heap.size) (A := mcells m (.slice A1 m.owner.length c1) (.slice A2 m.set.length c2)) (t := 29) (by simp) 6))) rfl (.cons rfl (.cons rfl (.cons rfl (.cons rfl (.cons rfl (.cons rfl .nil)))))) fun a35 H35 => ?_
  clear H34
  refine h_op (m' := [(42, _), (41, _), (30, _), (4, _), (3, _), (2, _), (1, _)]) H35 rfl (wn rfl) (R_fa H35 rfl rfl (fa29_6 _ _)) rfl (.cons rfl (.cons rfl (.cons rfl (.cons rfl (.cons rfl (.cons rfl (.cons rfl .nil))))))) fun a36 H36 => ?_
  clear H35
  refine h_stL [(w2.heap.size, mcells { PMsg.zero with kind := 2, isrc := m.isrc, iseq := m.iseq, code := m.code } (.slice none 0 0) (.slice none 0 0), 29), (w7.heap.size, #[.int .i64 m.isrc, .int .i64 m.iseq, .int .i64 0, .int .u8 0, .string .empty, .int .i64 0, .int .i64 0, .int .i64 0], 24), (w1.heap.size, zcells, 29), (W.heap.size, mcells m (.slice A1 m.owner.length c1) (.slice A2 m.set.length c2), 29)] H36 rfl (wn rfl) (R_st H36 rfl rfl rfl (st_int hL rfl)) (hL.put 6 _) fun a37 w37 H37 hL' => ?_
  replace hL := hL'
  clear H36 hL'
  refine h_end ?_
  repeat (go_not_at_region 38; go_step)
  refine wp_region_lit ?_
  refine h_op (m' := [(109, _), (2, _)]) H37 rfl (wn rfl) (R_ld H37 rfl rfl (ld_row hL.at_)) rfl (.cons rfl (.cons rfl .nil)) fun a38 H38 => ?_
  clear H37
  refine h_stL [(w1.heap.size, mcells { PMsg.zero with kind := 2, isrc := m.isrc, iseq := m.iseq, code := m.code } (.slice none 0 0) (.slice none 0 0), 29), (w2.heap.size, mcells { PMsg.zero with kind := 2, isrc := m.isrc, iseq := m.iseq, code := m.code } (.slice none 0 0) (.slice none 0 0), 29), (w7.heap.size, #[.int .i64 m.isrc, .int .i64 m.iseq, .int .i64 0, .int .u8 0, .string .empty, .int .i64 0, .int .i64 0, .int .i64 0], 24), (W.heap.size, mcells m (.slice A1 m.owner.length c1) (.slice A2 m.set.length c2), 29)] H38 rfl (wn rfl) (R_st H38 rfl rfl rfl (st_row (m2 := .zero) (vo2 := .slice none 0 0) (vs2 := .slice none 0 0) (hL.mem_at (by simp)) (mcells_one rfl rfl))) (hL.third.row _) fun a39 w39 H39 hL' => ?_
  replace hL := hL'
  clear H38 hL'
  refine h_end ?_
  repeat (go_not_at_region 999; go_step)
  have ho' : onlyM m = { PMsg.zero with kind := 2, isrc := m.isrc, iseq := m.iseq, code := m.code } := by
    unfold onlyM
    rw [hc]
    rfl
  refine bodyPost_ret (v := .agg (mcells { PMsg.zero with kind := 2, isrc := m.isrc, iseq := m.iseq, code := m.code } (.slice none 0 0) (.slice none 0 0))) (only_results (H39.getD rfl) hL.at_) H39.1 ⟨(.slice none 0 0), (.slice none 0 0), by rw [ho'], ?_, ?_, hL.1⟩
  · intro w h; rw [ho']; exact .inl ⟨rfl, rfl⟩
  · intro w h; rw [ho']; exact .inl ⟨rfl, rfl⟩
set_option maxRecDepth 100000 in
set_option maxHeartbeats 4000000 in
theorem only_3 (hc : m.kind = 3) (ho : Rd W vo m.owner) (hs : Rd W vs m.set) : Calls Try.prog 18 #[.agg (mcells m vo vs)] W fun e W' => ∃ vo' vs', e = .returned (.agg (mcells (onlyM m) vo' vs')) ∧ (∀ w, Rd w vo m.owner → Rd w vo' (onlyM m).owner) ∧ (∀ w, Rd w vs m.set → Rd w vs' (onlyM m).set) ∧ Below W.heap.size W W' := by
  have hL := Live.init W
  obtain ⟨A1, c1, rfl⟩ := ho.slc
  obtain ⟨A2, c2, rfl⟩ := hs.slc
  go_enter Try.func18, Try.ntmps18
  refine wp_fr (n := 110) (m := [(0, _)]) ⟨rfl, rfl, by intro p hp; simp only [List.mem_cons, List.not_mem_nil, or_false] at hp; rcases hp with rfl <;> rfl⟩ fun a0 H0 => ?_
  repeat (go_not_at_region 0; go_step)
  refine wp_region_lit ?_
  refine h_opL [(W.heap.size, mcells m (.slice A1 m.owner.length c1) (.slice A2 m.set.length c2), 29)] (m' := [(1, _)]) H0 rfl (wn rfl) (R_box H0 rfl rfl bx_row) (hL.alloc _ _) rfl (.cons rfl .nil) fun a1 w1 H1 hL' => ?_
  replace hL := hL'
  clear H0 hL'
  refine h_opL [(w1.heap.size, zcells, 29), (W.heap.size, mcells m (.slice A1 m.owner.length c1) (.slice A2 m.set.length c2), 29)] (m' := [(2, _), (1, _)]) H1 rfl (wn rfl) (R_alloc rfl al_row) (hL.alloc _ _) rfl (.cons rfl (.cons rfl .nil)) fun a2 w2 H2 hL' => ?_
  replace hL := hL'
  clear H1 hL'
  refine h_end ?_
  repeat (go_not_at_region 1; go_step)
  refine wp_region_lit ?_
  refine h_op (m' := [(5, _), (2, _), (1, _)]) H2 rfl (wn rfl) (R_fa H2 rfl rfl (fa29_0 _ _)) rfl (.cons rfl (.cons rfl (.cons rfl .nil))) fun a3 H3 => ?_
  clear H2
  refine h_op (m' := [(6, _), (2, _), (1, _)]) H3 rfl (wn rfl) (R_ld H3 rfl rfl (ld_u8k (hL.cl (g := W.heap.size) (A := mcells m (.slice A1 m.owner.length c1) (.slice A2 m.set.length c2)) (t := 29) (by simp) 0) hc)) rfl (.cons rfl (.cons rfl (.cons rfl .nil))) fun a4 H4 => ?_
  clear H3
  refine h_op (m' := [(7, _), (2, _), (1, _)]) H4 rfl (wn rfl) (R_bd1 H4 rfl rfl bd_kind) rfl (.cons rfl (.cons rfl (.cons rfl .nil))) fun a5 H5 => ?_
  clear H4
  refine h_opL [(w2.heap.size, zcells, 29), (w1.heap.size, zcells, 29), (W.heap.size, mcells m (.slice A1 m.owner.length c1) (.slice A2 m.set.length c2), 29)] (m' := [(3, _), (7, _), (2, _), (1, _)]) H5 rfl (wn rfl) (R_alloc rfl al_row) (hL.alloc _ _) rfl (.cons rfl (.cons rfl (.cons rfl (.cons rfl .nil)))) fun a6 w6 H6 hL' => ?_
  replace hL := hL'
  clear H5 hL'
  refine h_stL [(w2.heap.size, mcells { PMsg.zero with kind := 3 } (.slice none 0 0) (.slice none 0 0), 29), (w1.heap.size, zcells, 29), (W.heap.size, mcells m (.slice A1 m.owner.length c1) (.slice A2 m.set.length c2), 29)] H6 rfl (wn rfl) (R_st H6 rfl rfl rfl (st_row (m2 := .zero) (vo2 := .slice none 0 0) (vs2 := .slice none 0 0) hL.at_ (mcells_one rfl rfl))) (hL.row _) fun a7 w7 H7 hL' => ?_
  replace hL := hL'
  clear H6 hL'
  refine h_end ?_
  repeat (go_not_at_region 2; go_step)
  refine wp_region_lit ?_
  refine h_op (m' := [(8, _), (3, _), (2, _), (1, _)]) H7 rfl (wn rfl) (R_fa H7 rfl rfl (fa29_0 _ _)) rfl (.cons rfl (.cons rfl (.cons rfl (.cons rfl .nil)))) fun a8 H8 => ?_
  clear H7
  refine h_op (m' := [(9, _), (3, _), (2, _), (1, _)]) H8 rfl (wn rfl) (R_ld H8 rfl rfl (ld_u8k (hL.cl (g := W.heap.size) (A := mcells m (.slice A1 m.owner.length c1) (.slice A2 m.set.length c2)) (t := 29) (by simp) 0) hc)) rfl (.cons rfl (.cons rfl (.cons rfl (.cons rfl .nil)))) fun a9 H9 => ?_
  clear H8
  refine h_op (m' := [(10, _), (3, _), (2, _), (1, _)]) H9 rfl (wn rfl) (R_bin H9 rfl rfl rfl (B_to (y := false) (B8_ge _ _) (by decide))) rfl (.cons rfl (.cons rfl (.cons rfl (.cons rfl .nil)))) fun a10 H10 => ?_
  clear H9
  refine h_op (m' := [(11, _), (3, _), (2, _), (1, _)]) H10 rfl (wn rfl) (R_mv H10 rfl rfl) rfl (.cons rfl (.cons rfl (.cons rfl (.cons rfl .nil)))) fun a11 H11 => ?_
  clear H10
  refine h_skip (m' := [(11, _), (3, _), (2, _), (1, _)]) H11 rfl (H11.wf rfl rfl rfl) rfl (.cons rfl (.cons rfl (.cons rfl (.cons rfl .nil)))) fun a12 H12 => ?_
  clear H11
  refine h_skip (m' := [(11, _), (3, _), (2, _), (1, _)]) H12 rfl (H12.wf rfl rfl rfl) rfl (.cons rfl (.cons rfl (.cons rfl (.cons rfl .nil)))) fun a13 H13 => ?_
  clear H12
  refine h_skip (m' := [(11, _), (3, _), (2, _), (1, _)]) H13 rfl (H13.wf rfl rfl rfl) rfl (.cons rfl (.cons rfl (.cons rfl (.cons rfl .nil)))) fun a14 H14 => ?_
  clear H13
  refine h_op (m' := [(15, _), (3, _), (2, _), (1, _)]) H14 rfl (wn rfl) (R_pick H14 rfl rfl rfl) rfl (.cons rfl (.cons rfl (.cons rfl (.cons rfl .nil)))) fun a15 H15 => ?_
  clear H14
  refine h_end ?_
  repeat (go_not_at_region 5; go_step)
  refine wp_cond_false (H15.ev (x := .tmp 15) rfl) ?_
  repeat (go_not_at_region 5; go_step)
  refine wp_region_lit ?_
  refine h_op (m' := [(22, _), (3, _), (2, _), (1, _)]) H15 rfl (wn rfl) (R_fa H15 rfl rfl (fa29_9 _ _)) rfl (.cons rfl (.cons rfl (.cons rfl (.cons rfl .nil)))) fun a16 H16 => ?_
  clear H15
  refine h_op (m' := [(23, _), (3, _), (2, _), (1, _)]) H16 rfl (wn rfl) (R_fa H16 rfl rfl (fa24_0 _ _)) rfl (.cons rfl (.cons rfl (.cons rfl (.cons rfl .nil)))) fun a17 H17 => ?_
  clear H16
  refine h_op (m' := [(24, _), (3, _), (2, _), (1, _)]) H17 rfl (wn rfl) (R_ld H17 rfl rfl (ld_int (hL.cl (g := W.heap.size) (A := mcells m (.slice A1 m.owner.length c1) (.slice A2 m.set.length c2)) (t := 29) (by simp) 9))) rfl (.cons rfl (.cons rfl (.cons rfl (.cons rfl .nil)))) fun a18 H18 => ?_
  clear H17
  refine h_op (m' := [(25, _), (24, _), (3, _), (2, _), (1, _)]) H18 rfl (wn rfl) (R_fa H18 rfl rfl (fa29_9 _ _)) rfl (.cons rfl (.cons rfl (.cons rfl (.cons rfl (.cons rfl .nil))))) fun a19 H19 => ?_
  clear H18
  refine h_op (m' := [(26, _), (24, _), (3, _), (2, _), (1, _)]) H19 rfl (wn rfl) (R_fa H19 rfl rfl (fa24_1 _ _)) rfl (.cons rfl (.cons rfl (.cons rfl (.cons rfl (.cons rfl .nil))))) fun a20 H20 => ?_
  clear H19
  refine h_op (m' := [(27, _), (24, _), (3, _), (2, _), (1, _)]) H20 rfl (wn rfl) (R_ld H20 rfl rfl (ld_int (hL.cl (g := W.heap.size) (A := mcells m (.slice A1 m.owner.length c1) (.slice A2 m.set.length c2)) (t := 29) (by simp) 10))) rfl (.cons rfl (.cons rfl (.cons rfl (.cons rfl (.cons rfl .nil))))) fun a21 H21 => ?_
  clear H20
  refine h_op (m' := [(28, _), (3, _), (2, _), (1, _)]) H21 rfl (wn rfl) (R_bd2 H21 rfl rfl rfl bd_short) rfl (.cons rfl (.cons rfl (.cons rfl (.cons rfl .nil)))) fun a22 H22 => ?_
  clear H21
  refine h_opL ((w7.heap.size, #[.int .i64 0, .int .i64 0, .int .i64 0, .int .u8 0, .string .empty, .int .i64 0, .int .i64 0, .int .i64 0], 24) :: [(w2.heap.size, mcells { PMsg.zero with kind := 3 } (.slice none 0 0) (.slice none 0 0), 29), (w1.heap.size, zcells, 29), (W.heap.size, mcells m (.slice A1 m.owner.length c1) (.slice A2 m.set.length c2), 29)]) (m' := [(4, _), (28, _), (3, _), (2, _), (1, _)]) H22 rfl (wn rfl) (R_alloc rfl al_item) (hL.alloc _ _) rfl (.cons rfl (.cons rfl (.cons rfl (.cons rfl (.cons rfl .nil))))) fun a23 w23 H23 hL' => ?_
  replace hL := hL'
  clear H22 hL'
  refine h_stL [(w2.heap.size, mcells { PMsg.zero with kind := 3 } (.slice none 0 0) (.slice none 0 0), 29), (w7.heap.size, #[.int .i64 m.isrc, .int .i64 m.iseq, .int .i64 0, .int .u8 0, .string .empty, .int .i64 0, .int .i64 0, .int .i64 0], 24), (w1.heap.size, zcells, 29), (W.heap.size, mcells m (.slice A1 m.owner.length c1) (.slice A2 m.set.length c2), 29)] H23 rfl (wn rfl) (R_st H23 rfl rfl rfl (st_short hL)) ((hL.row #[.int .i64 m.isrc, .int .i64 m.iseq, .int .i64 0, .int .u8 0, .string .empty, .int .i64 0, .int .i64 0, .int .i64 0]).swap) fun a24 w24 H24 hL' => ?_
  replace hL := hL'
  clear H23 hL'
  refine h_end ?_
  repeat (go_not_at_region 6; go_step)
  refine wp_region_lit ?_
  refine h_op (m' := [(29, _), (4, _), (3, _), (2, _), (1, _)]) H24 rfl (wn rfl) (R_fa H24 rfl rfl (fa29_0 _ _)) rfl (.cons rfl (.cons rfl (.cons rfl (.cons rfl (.cons rfl .nil))))) fun a25 H25 => ?_
  clear H24
  refine h_op (m' := [(30, _), (4, _), (3, _), (2, _), (1, _)]) H25 rfl (wn rfl) (R_ld H25 rfl rfl (ld_u8k (hL.cl (g := W.heap.size) (A := mcells m (.slice A1 m.owner.length c1) (.slice A2 m.set.length c2)) (t := 29) (by simp) 0) hc)) rfl (.cons rfl (.cons rfl (.cons rfl (.cons rfl (.cons rfl .nil))))) fun a26 H26 => ?_
  clear H25
  refine h_end ?_
  repeat (go_not_at_region 7; go_step)
  refine wp_region_lit ?_
  refine h_op (m' := [(32, _), (30, _), (4, _), (3, _), (2, _), (1, _)]) H26 rfl (wn rfl) (R_bin H26 rfl rfl rfl (B_to (y := false) (B8_eq _ _) (by decide))) rfl (.cons rfl (.cons rfl (.cons rfl (.cons rfl (.cons rfl (.cons rfl .nil)))))) fun a27 H27 => ?_
  clear H26
  refine h_op (m' := [(31, _), (30, _), (4, _), (3, _), (2, _), (1, _)]) H27 rfl (wn rfl) (R_as H27 rfl rfl) rfl (.cons rfl (.cons rfl (.cons rfl (.cons rfl (.cons rfl (.cons rfl .nil)))))) fun a28 H28 => ?_
  clear H27
  refine h_end ?_
  repeat (go_not_at_region 9; go_step)
  refine wp_cond_false (H28.ev (x := .tmp 31) rfl) ?_
  repeat (go_not_at_region 9; go_step)
  repeat (go_not_at_region 9; go_step)
  refine wp_region_lit ?_
  refine h_op (m' := [(37, _), (30, _), (4, _), (3, _), (2, _), (1, _)]) H28 rfl (wn rfl) (R_bin H28 rfl rfl rfl (B_to (y := false) (B8_eq _ _) (by decide))) rfl (.cons rfl (.cons rfl (.cons rfl (.cons rfl (.cons rfl (.cons rfl .nil)))))) fun a29 H29 => ?_
  clear H28
  refine h_op (m' := [(36, _), (30, _), (4, _), (3, _), (2, _), (1, _)]) H29 rfl (wn rfl) (R_as H29 rfl rfl) rfl (.cons rfl (.cons rfl (.cons rfl (.cons rfl (.cons rfl (.cons rfl .nil)))))) fun a30 H30 => ?_
  clear H29
  refine h_end ?_
  repeat (go_not_at_region 12; go_step)
  refine wp_cond_false (H30.ev (x := .tmp 36) rfl) ?_
  repeat (go_not_at_region 12; go_step)
  repeat (go_not_at_region 12; go_step)
  refine wp_region_lit ?_
  refine h_op (m' := [(44, _), (30, _), (4, _), (3, _), (2, _), (1, _)]) H30 rfl (wn rfl) (R_bin H30 rfl rfl rfl (B_to (y := true) (B8_eq _ _) (by decide))) rfl (.cons rfl (.cons rfl (.cons rfl (.cons rfl (.cons rfl (.cons rfl .nil)))))) fun a31 H31 => ?_
  clear H30
  refine h_op (m' := [(43, _), (30, _), (4, _), (3, _), (2, _), (1, _)]) H31 rfl (wn rfl) (R_as H31 rfl rfl) rfl (.cons rfl (.cons rfl (.cons rfl (.cons rfl (.cons rfl (.cons rfl .nil)))))) fun a32 H32 => ?_
  clear H31
  refine h_end ?_
  repeat (go_not_at_region 13; go_step)
  refine wp_cond_true (H32.ev (x := .tmp 43) rfl) ?_
  repeat (go_not_at_region 13; go_step)
  refine wp_region_lit ?_
  refine h_op (m' := [(45, _), (30, _), (4, _), (3, _), (2, _), (1, _)]) H32 rfl (wn rfl) (R_ld H32 rfl rfl (ld_short (hL.cl (g := w7.heap.size) (A := #[.int .i64 m.isrc, .int .i64 m.iseq, .int .i64 0, .int .u8 0, .string .empty, .int .i64 0, .int .i64 0, .int .i64 0]) (t := 24) (by simp) 0) (hL.cl (g := w7.heap.size) (A := #[.int .i64 m.isrc, .int .i64 m.iseq, .int .i64 0, .int .u8 0, .string .empty, .int .i64 0, .int .i64 0, .int .i64 0]) (t := 24) (by simp) 1) (hL.cl (g := w7.heap.size) (A := #[.int .i64 m.isrc, .int .i64 m.iseq, .int .i64 0, .int .u8 0, .string .empty, .int .i64 0, .int .i64 0, .int .i64 0]) (t := 24) (by simp) 2) (hL.cl (g := w7.heap.size) (A := #[.int .i64 m.isrc, .int .i64 m.iseq, .int .i64 0, .int .u8 0, .string .empty, .int .i64 0, .int .i64 0, .int .i64 0]) (t := 24) (by simp) 3) (hL.cl (g := w7.heap.size) (A := #[.int .i64 m.isrc, .int .i64 m.iseq, .int .i64 0, .int .u8 0, .string .empty, .int .i64 0, .int .i64 0, .int .i64 0]) (t := 24) (by simp) 4) (hL.cl (g := w7.heap.size) (A := #[.int .i64 m.isrc, .int .i64 m.iseq, .int .i64 0, .int .u8 0, .string .empty, .int .i64 0, .int .i64 0, .int .i64 0]) (t := 24) (by simp) 5) (hL.cl (g := w7.heap.size) (A := #[.int .i64 m.isrc, .int .i64 m.iseq, .int .i64 0, .int .u8 0, .string .empty, .int .i64 0, .int .i64 0, .int .i64 0]) (t := 24) (by simp) 6) (hL.cl (g := w7.heap.size) (A := #[.int .i64 m.isrc, .int .i64 m.iseq, .int .i64 0, .int .u8 0, .string .empty, .int .i64 0, .int .i64 0, .int .i64 0]) (t := 24) (by simp) 7))) rfl (.cons rfl (.cons rfl (.cons rfl (.cons rfl (.cons rfl (.cons rfl .nil)))))) fun a33 H33 => ?_
  clear H32
  refine h_op (m' := [(46, _), (45, _), (30, _), (4, _), (3, _), (2, _), (1, _)]) H33 rfl (wn rfl) (R_fa H33 rfl rfl (fa29_9 _ _)) rfl (.cons rfl (.cons rfl (.cons rfl (.cons rfl (.cons rfl (.cons rfl (.cons rfl .nil))))))) fun a34 H34 => ?_
  clear H33
  refine h_stL [(w2.heap.size, mcells { PMsg.zero with kind := 3, isrc := m.isrc, iseq := m.iseq } (.slice none 0 0) (.slice none 0 0), 29), (w7.heap.size, #[.int .i64 m.isrc, .int .i64 m.iseq, .int .i64 0, .int .u8 0, .string .empty, .int .i64 0, .int .i64 0, .int .i64 0], 24), (w1.heap.size, zcells, 29), (W.heap.size, mcells m (.slice A1 m.owner.length c1) (.slice A2 m.set.length c2), 29)] H34 rfl (wn rfl) (R_st H34 rfl rfl rfl (st_itemM hL)) (hL.itemM m.isrc m.iseq 0 0 .empty 0 0 0) fun a35 w35 H35 hL' => ?_
  replace hL := hL'
  clear H34 hL'
  refine h_end ?_
  repeat (go_not_at_region 14; go_step)
  refine wp_region_lit ?_
  refine h_op (m' := [(47, _), (30, _), (4, _), (3, _), (2, _), (1, _)]) H35 rfl (wn rfl) (R_fa H35 rfl rfl (fa29_10 _ _)) rfl (.cons rfl (.cons rfl (.cons rfl (.cons rfl (.cons rfl (.cons rfl .nil)))))) fun a36 H36 => ?_
  clear H35
  refine h_op (m' := [(48, _), (30, _), (4, _), (3, _), (2, _), (1, _)]) H36 rfl (wn rfl) (R_ld H36 rfl rfl (ld_tab (hL.cl (g := W.heap.size) (A := mcells m (.slice A1 m.owner.length c1) (.slice A2 m.set.length c2)) (t := 29) (by simp) 17) (hL.cl (g := W.heap.size) (A := mcells m (.slice A1 m.owner.length c1) (.slice A2 m.set.length c2)) (t := 29) (by simp) 18) (hL.cl (g := W.heap.size) (A := mcells m (.slice A1 m.owner.length c1) (.slice A2 m.set.length c2)) (t := 29) (by simp) 19))) rfl (.cons rfl (.cons rfl (.cons rfl (.cons rfl (.cons rfl (.cons rfl .nil)))))) fun a37 H37 => ?_
  clear H36
  refine h_op (m' := [(49, _), (48, _), (30, _), (4, _), (3, _), (2, _), (1, _)]) H37 rfl (wn rfl) (R_fa H37 rfl rfl (fa29_10 _ _)) rfl (.cons rfl (.cons rfl (.cons rfl (.cons rfl (.cons rfl (.cons rfl (.cons rfl .nil))))))) fun a38 H38 => ?_
  clear H37
  refine h_stL [(w2.heap.size, mcells { PMsg.zero with kind := 3, isrc := m.isrc, iseq := m.iseq, epoch := m.epoch, nodes := m.nodes, owner := m.owner } (.slice A1 m.owner.length c1) (.slice none 0 0), 29), (w7.heap.size, #[.int .i64 m.isrc, .int .i64 m.iseq, .int .i64 0, .int .u8 0, .string .empty, .int .i64 0, .int .i64 0, .int .i64 0], 24), (w1.heap.size, zcells, 29), (W.heap.size, mcells m (.slice A1 m.owner.length c1) (.slice A2 m.set.length c2), 29)] H38 rfl (wn rfl) (R_st H38 rfl rfl rfl (st_tabM hL)) (hL.tabM m.epoch m.nodes (.slice A1 m.owner.length c1) m.owner) fun a39 w39 H39 hL' => ?_
  replace hL := hL'
  clear H38 hL'
  refine h_end ?_
  repeat (go_not_at_region 38; go_step)
  refine wp_region_lit ?_
  refine h_op (m' := [(109, _), (2, _)]) H39 rfl (wn rfl) (R_ld H39 rfl rfl (ld_row hL.at_)) rfl (.cons rfl (.cons rfl .nil)) fun a40 H40 => ?_
  clear H39
  refine h_stL [(w1.heap.size, mcells { PMsg.zero with kind := 3, isrc := m.isrc, iseq := m.iseq, epoch := m.epoch, nodes := m.nodes, owner := m.owner } (.slice A1 m.owner.length c1) (.slice none 0 0), 29), (w2.heap.size, mcells { PMsg.zero with kind := 3, isrc := m.isrc, iseq := m.iseq, epoch := m.epoch, nodes := m.nodes, owner := m.owner } (.slice A1 m.owner.length c1) (.slice none 0 0), 29), (w7.heap.size, #[.int .i64 m.isrc, .int .i64 m.iseq, .int .i64 0, .int .u8 0, .string .empty, .int .i64 0, .int .i64 0, .int .i64 0], 24), (W.heap.size, mcells m (.slice A1 m.owner.length c1) (.slice A2 m.set.length c2), 29)] H40 rfl (wn rfl) (R_st H40 rfl rfl rfl (st_row (m2 := .zero) (vo2 := .slice none 0 0) (vs2 := .slice none 0 0) (hL.mem_at (by simp)) (mcells_one rfl rfl))) (hL.third.row _) fun a41 w41 H41 hL' => ?_
  replace hL := hL'
  clear H40 hL'
  refine h_end ?_
  repeat (go_not_at_region 999; go_step)
  have ho' : onlyM m = { PMsg.zero with kind := 3, isrc := m.isrc, iseq := m.iseq, epoch := m.epoch, nodes := m.nodes, owner := m.owner } := by
    unfold onlyM
    rw [hc]
    rfl
  refine bodyPost_ret (v := .agg (mcells { PMsg.zero with kind := 3, isrc := m.isrc, iseq := m.iseq, epoch := m.epoch, nodes := m.nodes, owner := m.owner } (.slice A1 m.owner.length c1) (.slice none 0 0))) (only_results (H41.getD rfl) hL.at_) H41.1 ⟨(.slice A1 m.owner.length c1), (.slice none 0 0), by rw [ho'], ?_, ?_, hL.1⟩
  · intro w h; rw [ho']; exact h
  · intro w h; rw [ho']; exact .inl ⟨rfl, rfl⟩
set_option maxRecDepth 100000 in
set_option maxHeartbeats 4000000 in
theorem only_4 (hc : m.kind = 4) (ho : Rd W vo m.owner) (hs : Rd W vs m.set) : Calls Try.prog 18 #[.agg (mcells m vo vs)] W fun e W' => ∃ vo' vs', e = .returned (.agg (mcells (onlyM m) vo' vs')) ∧ (∀ w, Rd w vo m.owner → Rd w vo' (onlyM m).owner) ∧ (∀ w, Rd w vs m.set → Rd w vs' (onlyM m).set) ∧ Below W.heap.size W W' := by
  have hL := Live.init W
  obtain ⟨A1, c1, rfl⟩ := ho.slc
  obtain ⟨A2, c2, rfl⟩ := hs.slc
  go_enter Try.func18, Try.ntmps18
  refine wp_fr (n := 110) (m := [(0, _)]) ⟨rfl, rfl, by intro p hp; simp only [List.mem_cons, List.not_mem_nil, or_false] at hp; rcases hp with rfl <;> rfl⟩ fun a0 H0 => ?_
  repeat (go_not_at_region 0; go_step)
  refine wp_region_lit ?_
  refine h_opL [(W.heap.size, mcells m (.slice A1 m.owner.length c1) (.slice A2 m.set.length c2), 29)] (m' := [(1, _)]) H0 rfl (wn rfl) (R_box H0 rfl rfl bx_row) (hL.alloc _ _) rfl (.cons rfl .nil) fun a1 w1 H1 hL' => ?_
  replace hL := hL'
  clear H0 hL'
  refine h_opL [(w1.heap.size, zcells, 29), (W.heap.size, mcells m (.slice A1 m.owner.length c1) (.slice A2 m.set.length c2), 29)] (m' := [(2, _), (1, _)]) H1 rfl (wn rfl) (R_alloc rfl al_row) (hL.alloc _ _) rfl (.cons rfl (.cons rfl .nil)) fun a2 w2 H2 hL' => ?_
  replace hL := hL'
  clear H1 hL'
  refine h_end ?_
  repeat (go_not_at_region 1; go_step)
  refine wp_region_lit ?_
  refine h_op (m' := [(5, _), (2, _), (1, _)]) H2 rfl (wn rfl) (R_fa H2 rfl rfl (fa29_0 _ _)) rfl (.cons rfl (.cons rfl (.cons rfl .nil))) fun a3 H3 => ?_
  clear H2
  refine h_op (m' := [(6, _), (2, _), (1, _)]) H3 rfl (wn rfl) (R_ld H3 rfl rfl (ld_u8k (hL.cl (g := W.heap.size) (A := mcells m (.slice A1 m.owner.length c1) (.slice A2 m.set.length c2)) (t := 29) (by simp) 0) hc)) rfl (.cons rfl (.cons rfl (.cons rfl .nil))) fun a4 H4 => ?_
  clear H3
  refine h_op (m' := [(7, _), (2, _), (1, _)]) H4 rfl (wn rfl) (R_bd1 H4 rfl rfl bd_kind) rfl (.cons rfl (.cons rfl (.cons rfl .nil))) fun a5 H5 => ?_
  clear H4
  refine h_opL [(w2.heap.size, zcells, 29), (w1.heap.size, zcells, 29), (W.heap.size, mcells m (.slice A1 m.owner.length c1) (.slice A2 m.set.length c2), 29)] (m' := [(3, _), (7, _), (2, _), (1, _)]) H5 rfl (wn rfl) (R_alloc rfl al_row) (hL.alloc _ _) rfl (.cons rfl (.cons rfl (.cons rfl (.cons rfl .nil)))) fun a6 w6 H6 hL' => ?_
  replace hL := hL'
  clear H5 hL'
  refine h_stL [(w2.heap.size, mcells { PMsg.zero with kind := 4 } (.slice none 0 0) (.slice none 0 0), 29), (w1.heap.size, zcells, 29), (W.heap.size, mcells m (.slice A1 m.owner.length c1) (.slice A2 m.set.length c2), 29)] H6 rfl (wn rfl) (R_st H6 rfl rfl rfl (st_row (m2 := .zero) (vo2 := .slice none 0 0) (vs2 := .slice none 0 0) hL.at_ (mcells_one rfl rfl))) (hL.row _) fun a7 w7 H7 hL' => ?_
  replace hL := hL'
  clear H6 hL'
  refine h_end ?_
  repeat (go_not_at_region 2; go_step)
  refine wp_region_lit ?_
  refine h_op (m' := [(8, _), (3, _), (2, _), (1, _)]) H7 rfl (wn rfl) (R_fa H7 rfl rfl (fa29_0 _ _)) rfl (.cons rfl (.cons rfl (.cons rfl (.cons rfl .nil)))) fun a8 H8 => ?_
  clear H7
  refine h_op (m' := [(9, _), (3, _), (2, _), (1, _)]) H8 rfl (wn rfl) (R_ld H8 rfl rfl (ld_u8k (hL.cl (g := W.heap.size) (A := mcells m (.slice A1 m.owner.length c1) (.slice A2 m.set.length c2)) (t := 29) (by simp) 0) hc)) rfl (.cons rfl (.cons rfl (.cons rfl (.cons rfl .nil)))) fun a9 H9 => ?_
  clear H8
  refine h_op (m' := [(10, _), (3, _), (2, _), (1, _)]) H9 rfl (wn rfl) (R_bin H9 rfl rfl rfl (B_to (y := true) (B8_ge _ _) (by decide))) rfl (.cons rfl (.cons rfl (.cons rfl (.cons rfl .nil)))) fun a10 H10 => ?_
  clear H9
  refine h_op (m' := [(11, _), (3, _), (2, _), (1, _)]) H10 rfl (wn rfl) (R_mv H10 rfl rfl) rfl (.cons rfl (.cons rfl (.cons rfl (.cons rfl .nil)))) fun a11 H11 => ?_
  clear H10
  refine h_op (m' := [(12, _), (11, _), (3, _), (2, _), (1, _)]) H11 rfl (H11.wt rfl rfl rfl) (R_fa H11 rfl rfl (fa29_0 _ _)) rfl (.cons rfl (.cons rfl (.cons rfl (.cons rfl (.cons rfl .nil))))) fun a12 H12 => ?_
  clear H11
  refine h_op (m' := [(13, _), (11, _), (3, _), (2, _), (1, _)]) H12 rfl (H12.wt rfl rfl rfl) (R_ld H12 rfl rfl (ld_u8k (hL.cl (g := W.heap.size) (A := mcells m (.slice A1 m.owner.length c1) (.slice A2 m.set.length c2)) (t := 29) (by simp) 0) hc)) rfl (.cons rfl (.cons rfl (.cons rfl (.cons rfl (.cons rfl .nil))))) fun a13 H13 => ?_
  clear H12
  refine h_op (m' := [(14, _), (11, _), (3, _), (2, _), (1, _)]) H13 rfl (H13.wt rfl rfl rfl) (R_bin H13 rfl rfl rfl (B_to (y := true) (B8_le _ _) (by decide))) rfl (.cons rfl (.cons rfl (.cons rfl (.cons rfl (.cons rfl .nil))))) fun a14 H14 => ?_
  clear H13
  refine h_op (m' := [(15, _), (3, _), (2, _), (1, _)]) H14 rfl (wn rfl) (R_pick H14 rfl rfl rfl) rfl (.cons rfl (.cons rfl (.cons rfl (.cons rfl .nil)))) fun a15 H15 => ?_
  clear H14
  refine h_end ?_
  repeat (go_not_at_region 3; go_step)
  refine wp_cond_true (H15.ev (x := .tmp 15) rfl) ?_
  repeat (go_not_at_region 3; go_step)
  refine wp_region_lit ?_
  refine h_op (m' := [(16, _), (3, _), (2, _), (1, _)]) H15 rfl (wn rfl) (R_fa H15 rfl rfl (fa29_1 _ _)) rfl (.cons rfl (.cons rfl (.cons rfl (.cons rfl .nil)))) fun a16 H16 => ?_
  clear H15
  refine h_op (m' := [(17, _), (3, _), (2, _), (1, _)]) H16 rfl (wn rfl) (R_ld H16 rfl rfl (ld_int (hL.cl (g := W.heap.size) (A := mcells m (.slice A1 m.owner.length c1) (.slice A2 m.set.length c2)) (t := 29) (by simp) 1))) rfl (.cons rfl (.cons rfl (.cons rfl (.cons rfl .nil)))) fun a17 H17 => ?_
  clear H16
  refine h_op (m' := [(18, _), (17, _), (3, _), (2, _), (1, _)]) H17 rfl (wn rfl) (R_fa H17 rfl rfl (fa29_1 _ _)) rfl (.cons rfl (.cons rfl (.cons rfl (.cons rfl (.cons rfl .nil))))) fun a18 H18 => ?_
  clear H17
  refine h_stL [(w2.heap.size, mcells { PMsg.zero with kind := 4, move := m.move } (.slice none 0 0) (.slice none 0 0), 29), (w1.heap.size, zcells, 29), (W.heap.size, mcells m (.slice A1 m.owner.length c1) (.slice A2 m.set.length c2), 29)] H18 rfl (wn rfl) (R_st H18 rfl rfl rfl (st_int hL rfl)) (hL.put 1 _) fun a19 w19 H19 hL' => ?_
  replace hL := hL'
  clear H18 hL'
  refine h_end ?_
  repeat (go_not_at_region 4; go_step)
  refine wp_region_lit ?_
  refine h_op (m' := [(19, _), (3, _), (2, _), (1, _)]) H19 rfl (wn rfl) (R_fa H19 rfl rfl (fa29_2 _ _)) rfl (.cons rfl (.cons rfl (.cons rfl (.cons rfl .nil)))) fun a20 H20 => ?_
  clear H19
  refine h_op (m' := [(20, _), (3, _), (2, _), (1, _)]) H20 rfl (wn rfl) (R_ld H20 rfl rfl (ld_int (hL.cl (g := W.heap.size) (A := mcells m (.slice A1 m.owner.length c1) (.slice A2 m.set.length c2)) (t := 29) (by simp) 2))) rfl (.cons rfl (.cons rfl (.cons rfl (.cons rfl .nil)))) fun a21 H21 => ?_
  clear H20
  refine h_op (m' := [(21, _), (20, _), (3, _), (2, _), (1, _)]) H21 rfl (wn rfl) (R_fa H21 rfl rfl (fa29_2 _ _)) rfl (.cons rfl (.cons rfl (.cons rfl (.cons rfl (.cons rfl .nil))))) fun a22 H22 => ?_
  clear H21
  refine h_stL [(w2.heap.size, mcells { PMsg.zero with kind := 4, move := m.move, part := m.part } (.slice none 0 0) (.slice none 0 0), 29), (w1.heap.size, zcells, 29), (W.heap.size, mcells m (.slice A1 m.owner.length c1) (.slice A2 m.set.length c2), 29)] H22 rfl (wn rfl) (R_st H22 rfl rfl rfl (st_int hL rfl)) (hL.put 2 _) fun a23 w23 H23 hL' => ?_
  replace hL := hL'
  clear H22 hL'
  refine h_end ?_
  repeat (go_not_at_region 5; go_step)
  refine wp_region_lit ?_
  refine h_op (m' := [(22, _), (3, _), (2, _), (1, _)]) H23 rfl (wn rfl) (R_fa H23 rfl rfl (fa29_9 _ _)) rfl (.cons rfl (.cons rfl (.cons rfl (.cons rfl .nil)))) fun a24 H24 => ?_
  clear H23
  refine h_op (m' := [(23, _), (3, _), (2, _), (1, _)]) H24 rfl (wn rfl) (R_fa H24 rfl rfl (fa24_0 _ _)) rfl (.cons rfl (.cons rfl (.cons rfl (.cons rfl .nil)))) fun a25 H25 => ?_
  clear H24
  refine h_op (m' := [(24, _), (3, _), (2, _), (1, _)]) H25 rfl (wn rfl) (R_ld H25 rfl rfl (ld_int (hL.cl (g := W.heap.size) (A := mcells m (.slice A1 m.owner.length c1) (.slice A2 m.set.length c2)) (t := 29) (by simp) 9))) rfl (.cons rfl (.cons rfl (.cons rfl (.cons rfl .nil)))) fun a26 H26 => ?_
  clear H25
  refine h_op (m' := [(25, _), (24, _), (3, _), (2, _), (1, _)]) H26 rfl (wn rfl) (R_fa H26 rfl rfl (fa29_9 _ _)) rfl (.cons rfl (.cons rfl (.cons rfl (.cons rfl (.cons rfl .nil))))) fun a27 H27 => ?_
  clear H26
  refine h_op (m' := [(26, _), (24, _), (3, _), (2, _), (1, _)]) H27 rfl (wn rfl) (R_fa H27 rfl rfl (fa24_1 _ _)) rfl (.cons rfl (.cons rfl (.cons rfl (.cons rfl (.cons rfl .nil))))) fun a28 H28 => ?_
  clear H27
  refine h_op (m' := [(27, _), (24, _), (3, _), (2, _), (1, _)]) H28 rfl (wn rfl) (R_ld H28 rfl rfl (ld_int (hL.cl (g := W.heap.size) (A := mcells m (.slice A1 m.owner.length c1) (.slice A2 m.set.length c2)) (t := 29) (by simp) 10))) rfl (.cons rfl (.cons rfl (.cons rfl (.cons rfl (.cons rfl .nil))))) fun a29 H29 => ?_
  clear H28
  refine h_op (m' := [(28, _), (3, _), (2, _), (1, _)]) H29 rfl (wn rfl) (R_bd2 H29 rfl rfl rfl bd_short) rfl (.cons rfl (.cons rfl (.cons rfl (.cons rfl .nil)))) fun a30 H30 => ?_
  clear H29
  refine h_opL ((w23.heap.size, #[.int .i64 0, .int .i64 0, .int .i64 0, .int .u8 0, .string .empty, .int .i64 0, .int .i64 0, .int .i64 0], 24) :: [(w2.heap.size, mcells { PMsg.zero with kind := 4, move := m.move, part := m.part } (.slice none 0 0) (.slice none 0 0), 29), (w1.heap.size, zcells, 29), (W.heap.size, mcells m (.slice A1 m.owner.length c1) (.slice A2 m.set.length c2), 29)]) (m' := [(4, _), (28, _), (3, _), (2, _), (1, _)]) H30 rfl (wn rfl) (R_alloc rfl al_item) (hL.alloc _ _) rfl (.cons rfl (.cons rfl (.cons rfl (.cons rfl (.cons rfl .nil))))) fun a31 w31 H31 hL' => ?_
  replace hL := hL'
  clear H30 hL'
  refine h_stL [(w2.heap.size, mcells { PMsg.zero with kind := 4, move := m.move, part := m.part } (.slice none 0 0) (.slice none 0 0), 29), (w23.heap.size, #[.int .i64 m.isrc, .int .i64 m.iseq, .int .i64 0, .int .u8 0, .string .empty, .int .i64 0, .int .i64 0, .int .i64 0], 24), (w1.heap.size, zcells, 29), (W.heap.size, mcells m (.slice A1 m.owner.length c1) (.slice A2 m.set.length c2), 29)] H31 rfl (wn rfl) (R_st H31 rfl rfl rfl (st_short hL)) ((hL.row #[.int .i64 m.isrc, .int .i64 m.iseq, .int .i64 0, .int .u8 0, .string .empty, .int .i64 0, .int .i64 0, .int .i64 0]).swap) fun a32 w32 H32 hL' => ?_
  replace hL := hL'
  clear H31 hL'
  refine h_end ?_
  repeat (go_not_at_region 6; go_step)
  refine wp_region_lit ?_
  refine h_op (m' := [(29, _), (4, _), (3, _), (2, _), (1, _)]) H32 rfl (wn rfl) (R_fa H32 rfl rfl (fa29_0 _ _)) rfl (.cons rfl (.cons rfl (.cons rfl (.cons rfl (.cons rfl .nil))))) fun a33 H33 => ?_
  clear H32
  refine h_op (m' := [(30, _), (4, _), (3, _), (2, _), (1, _)]) H33 rfl (wn rfl) (R_ld H33 rfl rfl (ld_u8k (hL.cl (g := W.heap.size) (A := mcells m (.slice A1 m.owner.length c1) (.slice A2 m.set.length c2)) (t := 29) (by simp) 0) hc)) rfl (.cons rfl (.cons rfl (.cons rfl (.cons rfl (.cons rfl .nil))))) fun a34 H34 => ?_
  clear H33
  refine h_end ?_
  repeat (go_not_at_region 7; go_step)
  refine wp_region_lit ?_
  refine h_op (m' := [(32, _), (30, _), (4, _), (3, _), (2, _), (1, _)]) H34 rfl (wn rfl) (R_bin H34 rfl rfl rfl (B_to (y := false) (B8_eq _ _) (by decide))) rfl (.cons rfl (.cons rfl (.cons rfl (.cons rfl (.cons rfl (.cons rfl .nil)))))) fun a35 H35 => ?_
  clear H34
  refine h_op (m' := [(31, _), (30, _), (4, _), (3, _), (2, _), (1, _)]) H35 rfl (wn rfl) (R_as H35 rfl rfl) rfl (.cons rfl (.cons rfl (.cons rfl (.cons rfl (.cons rfl (.cons rfl .nil)))))) fun a36 H36 => ?_
  clear H35
  refine h_end ?_
  repeat (go_not_at_region 9; go_step)
  refine wp_cond_false (H36.ev (x := .tmp 31) rfl) ?_
  repeat (go_not_at_region 9; go_step)
  repeat (go_not_at_region 9; go_step)
  refine wp_region_lit ?_
  refine h_op (m' := [(37, _), (30, _), (4, _), (3, _), (2, _), (1, _)]) H36 rfl (wn rfl) (R_bin H36 rfl rfl rfl (B_to (y := false) (B8_eq _ _) (by decide))) rfl (.cons rfl (.cons rfl (.cons rfl (.cons rfl (.cons rfl (.cons rfl .nil)))))) fun a37 H37 => ?_
  clear H36
  refine h_op (m' := [(36, _), (30, _), (4, _), (3, _), (2, _), (1, _)]) H37 rfl (wn rfl) (R_as H37 rfl rfl) rfl (.cons rfl (.cons rfl (.cons rfl (.cons rfl (.cons rfl (.cons rfl .nil)))))) fun a38 H38 => ?_
  clear H37
  refine h_end ?_
  repeat (go_not_at_region 12; go_step)
  refine wp_cond_false (H38.ev (x := .tmp 36) rfl) ?_
  repeat (go_not_at_region 12; go_step)
  repeat (go_not_at_region 12; go_step)
  refine wp_region_lit ?_
  refine h_op (m' := [(44, _), (30, _), (4, _), (3, _), (2, _), (1, _)]) H38 rfl (wn rfl) (R_bin H38 rfl rfl rfl (B_to (y := false) (B8_eq _ _) (by decide))) rfl (.cons rfl (.cons rfl (.cons rfl (.cons rfl (.cons rfl (.cons rfl .nil)))))) fun a39 H39 => ?_
  clear H38
  refine h_op (m' := [(43, _), (30, _), (4, _), (3, _), (2, _), (1, _)]) H39 rfl (wn rfl) (R_as H39 rfl rfl) rfl (.cons rfl (.cons rfl (.cons rfl (.cons rfl (.cons rfl (.cons rfl .nil)))))) fun a40 H40 => ?_
  clear H39
  refine h_end ?_
  repeat (go_not_at_region 15; go_step)
  refine wp_cond_false (H40.ev (x := .tmp 43) rfl) ?_
  repeat (go_not_at_region 15; go_step)
  repeat (go_not_at_region 15; go_step)
  refine wp_region_lit ?_
  refine h_op (m' := [(51, _), (30, _), (4, _), (3, _), (2, _), (1, _)]) H40 rfl (wn rfl) (R_bin H40 rfl rfl rfl (B_to (y := true) (B8_eq _ _) (by decide))) rfl (.cons rfl (.cons rfl (.cons rfl (.cons rfl (.cons rfl (.cons rfl .nil)))))) fun a41 H41 => ?_
  clear H40
  refine h_op (m' := [(50, _), (30, _), (4, _), (3, _), (2, _), (1, _)]) H41 rfl (wn rfl) (R_as H41 rfl rfl) rfl (.cons rfl (.cons rfl (.cons rfl (.cons rfl (.cons rfl (.cons rfl .nil)))))) fun a42 H42 => ?_
  clear H41
  refine h_end ?_
  repeat (go_not_at_region 16; go_step)
  refine wp_cond_true (H42.ev (x := .tmp 50) rfl) ?_
  repeat (go_not_at_region 16; go_step)
  refine wp_region_lit ?_
  refine h_op (m' := [(52, _), (30, _), (4, _), (3, _), (2, _), (1, _)]) H42 rfl (wn rfl) (R_fa H42 rfl rfl (fa29_3 _ _)) rfl (.cons rfl (.cons rfl (.cons rfl (.cons rfl (.cons rfl (.cons rfl .nil)))))) fun a43 H43 => ?_
  clear H42
  refine h_op (m' := [(53, _), (30, _), (4, _), (3, _), (2, _), (1, _)]) H43 rfl (wn rfl) (R_ld H43 rfl rfl (ld_int (hL.cl (g := W.heap.size) (A := mcells m (.slice A1 m.owner.length c1) (.slice A2 m.set.length c2)) (t := 29) (by simp) 3))) rfl (.cons rfl (.cons rfl (.cons rfl (.cons rfl (.cons rfl (.cons rfl .nil)))))) fun a44 H44 => ?_
  clear H43
  refine h_op (m' := [(54, _), (53, _), (30, _), (4, _), (3, _), (2, _), (1, _)]) H44 rfl (wn rfl) (R_fa H44 rfl rfl (fa29_3 _ _)) rfl (.cons rfl (.cons rfl (.cons rfl (.cons rfl (.cons rfl (.cons rfl (.cons rfl .nil))))))) fun a45 H45 => ?_
  clear H44
  refine h_stL [(w2.heap.size, mcells { PMsg.zero with kind := 4, move := m.move, part := m.part, «to» := m.«to» } (.slice none 0 0) (.slice none 0 0), 29), (w23.heap.size, #[.int .i64 m.isrc, .int .i64 m.iseq, .int .i64 0, .int .u8 0, .string .empty, .int .i64 0, .int .i64 0, .int .i64 0], 24), (w1.heap.size, zcells, 29), (W.heap.size, mcells m (.slice A1 m.owner.length c1) (.slice A2 m.set.length c2), 29)] H45 rfl (wn rfl) (R_st H45 rfl rfl rfl (st_int hL rfl)) (hL.put 3 _) fun a46 w46 H46 hL' => ?_
  replace hL := hL'
  clear H45 hL'
  refine h_end ?_
  repeat (go_not_at_region 38; go_step)
  refine wp_region_lit ?_
  refine h_op (m' := [(109, _), (2, _)]) H46 rfl (wn rfl) (R_ld H46 rfl rfl (ld_row hL.at_)) rfl (.cons rfl (.cons rfl .nil)) fun a47 H47 => ?_
  clear H46
  refine h_stL [(w1.heap.size, mcells { PMsg.zero with kind := 4, move := m.move, part := m.part, «to» := m.«to» } (.slice none 0 0) (.slice none 0 0), 29), (w2.heap.size, mcells { PMsg.zero with kind := 4, move := m.move, part := m.part, «to» := m.«to» } (.slice none 0 0) (.slice none 0 0), 29), (w23.heap.size, #[.int .i64 m.isrc, .int .i64 m.iseq, .int .i64 0, .int .u8 0, .string .empty, .int .i64 0, .int .i64 0, .int .i64 0], 24), (W.heap.size, mcells m (.slice A1 m.owner.length c1) (.slice A2 m.set.length c2), 29)] H47 rfl (wn rfl) (R_st H47 rfl rfl rfl (st_row (m2 := .zero) (vo2 := .slice none 0 0) (vs2 := .slice none 0 0) (hL.mem_at (by simp)) (mcells_one rfl rfl))) (hL.third.row _) fun a48 w48 H48 hL' => ?_
  replace hL := hL'
  clear H47 hL'
  refine h_end ?_
  repeat (go_not_at_region 999; go_step)
  have ho' : onlyM m = { PMsg.zero with kind := 4, move := m.move, part := m.part, «to» := m.«to» } := by
    unfold onlyM
    rw [hc]
    rfl
  refine bodyPost_ret (v := .agg (mcells { PMsg.zero with kind := 4, move := m.move, part := m.part, «to» := m.«to» } (.slice none 0 0) (.slice none 0 0))) (only_results (H48.getD rfl) hL.at_) H48.1 ⟨(.slice none 0 0), (.slice none 0 0), by rw [ho'], ?_, ?_, hL.1⟩
  · intro w h; rw [ho']; exact .inl ⟨rfl, rfl⟩
  · intro w h; rw [ho']; exact .inl ⟨rfl, rfl⟩
set_option maxRecDepth 100000 in
set_option maxHeartbeats 4000000 in
theorem only_5 (hc : m.kind = 5) (ho : Rd W vo m.owner) (hs : Rd W vs m.set) : Calls Try.prog 18 #[.agg (mcells m vo vs)] W fun e W' => ∃ vo' vs', e = .returned (.agg (mcells (onlyM m) vo' vs')) ∧ (∀ w, Rd w vo m.owner → Rd w vo' (onlyM m).owner) ∧ (∀ w, Rd w vs m.set → Rd w vs' (onlyM m).set) ∧ Below W.heap.size W W' := by
  have hL := Live.init W
  obtain ⟨A1, c1, rfl⟩ := ho.slc
  obtain ⟨A2, c2, rfl⟩ := hs.slc
  go_enter Try.func18, Try.ntmps18
  refine wp_fr (n := 110) (m := [(0, _)]) ⟨rfl, rfl, by intro p hp; simp only [List.mem_cons, List.not_mem_nil, or_false] at hp; rcases hp with rfl <;> rfl⟩ fun a0 H0 => ?_
  repeat (go_not_at_region 0; go_step)
  refine wp_region_lit ?_
  refine h_opL [(W.heap.size, mcells m (.slice A1 m.owner.length c1) (.slice A2 m.set.length c2), 29)] (m' := [(1, _)]) H0 rfl (wn rfl) (R_box H0 rfl rfl bx_row) (hL.alloc _ _) rfl (.cons rfl .nil) fun a1 w1 H1 hL' => ?_
  replace hL := hL'
  clear H0 hL'
  refine h_opL [(w1.heap.size, zcells, 29), (W.heap.size, mcells m (.slice A1 m.owner.length c1) (.slice A2 m.set.length c2), 29)] (m' := [(2, _), (1, _)]) H1 rfl (wn rfl) (R_alloc rfl al_row) (hL.alloc _ _) rfl (.cons rfl (.cons rfl .nil)) fun a2 w2 H2 hL' => ?_
  replace hL := hL'
  clear H1 hL'
  refine h_end ?_
  repeat (go_not_at_region 1; go_step)
  refine wp_region_lit ?_
  refine h_op (m' := [(5, _), (2, _), (1, _)]) H2 rfl (wn rfl) (R_fa H2 rfl rfl (fa29_0 _ _)) rfl (.cons rfl (.cons rfl (.cons rfl .nil))) fun a3 H3 => ?_
  clear H2
  refine h_op (m' := [(6, _), (2, _), (1, _)]) H3 rfl (wn rfl) (R_ld H3 rfl rfl (ld_u8k (hL.cl (g := W.heap.size) (A := mcells m (.slice A1 m.owner.length c1) (.slice A2 m.set.length c2)) (t := 29) (by simp) 0) hc)) rfl (.cons rfl (.cons rfl (.cons rfl .nil))) fun a4 H4 => ?_
  clear H3
  refine h_op (m' := [(7, _), (2, _), (1, _)]) H4 rfl (wn rfl) (R_bd1 H4 rfl rfl bd_kind) rfl (.cons rfl (.cons rfl (.cons rfl .nil))) fun a5 H5 => ?_
  clear H4
  refine h_opL [(w2.heap.size, zcells, 29), (w1.heap.size, zcells, 29), (W.heap.size, mcells m (.slice A1 m.owner.length c1) (.slice A2 m.set.length c2), 29)] (m' := [(3, _), (7, _), (2, _), (1, _)]) H5 rfl (wn rfl) (R_alloc rfl al_row) (hL.alloc _ _) rfl (.cons rfl (.cons rfl (.cons rfl (.cons rfl .nil)))) fun a6 w6 H6 hL' => ?_
  replace hL := hL'
  clear H5 hL'
  refine h_stL [(w2.heap.size, mcells { PMsg.zero with kind := 5 } (.slice none 0 0) (.slice none 0 0), 29), (w1.heap.size, zcells, 29), (W.heap.size, mcells m (.slice A1 m.owner.length c1) (.slice A2 m.set.length c2), 29)] H6 rfl (wn rfl) (R_st H6 rfl rfl rfl (st_row (m2 := .zero) (vo2 := .slice none 0 0) (vs2 := .slice none 0 0) hL.at_ (mcells_one rfl rfl))) (hL.row _) fun a7 w7 H7 hL' => ?_
  replace hL := hL'
  clear H6 hL'
  refine h_end ?_
  repeat (go_not_at_region 2; go_step)
  refine wp_region_lit ?_
  refine h_op (m' := [(8, _), (3, _), (2, _), (1, _)]) H7 rfl (wn rfl) (R_fa H7 rfl rfl (fa29_0 _ _)) rfl (.cons rfl (.cons rfl (.cons rfl (.cons rfl .nil)))) fun a8 H8 => ?_
  clear H7
  refine h_op (m' := [(9, _), (3, _), (2, _), (1, _)]) H8 rfl (wn rfl) (R_ld H8 rfl rfl (ld_u8k (hL.cl (g := W.heap.size) (A := mcells m (.slice A1 m.owner.length c1) (.slice A2 m.set.length c2)) (t := 29) (by simp) 0) hc)) rfl (.cons rfl (.cons rfl (.cons rfl (.cons rfl .nil)))) fun a9 H9 => ?_
  clear H8
  refine h_op (m' := [(10, _), (3, _), (2, _), (1, _)]) H9 rfl (wn rfl) (R_bin H9 rfl rfl rfl (B_to (y := true) (B8_ge _ _) (by decide))) rfl (.cons rfl (.cons rfl (.cons rfl (.cons rfl .nil)))) fun a10 H10 => ?_
  clear H9
  refine h_op (m' := [(11, _), (3, _), (2, _), (1, _)]) H10 rfl (wn rfl) (R_mv H10 rfl rfl) rfl (.cons rfl (.cons rfl (.cons rfl (.cons rfl .nil)))) fun a11 H11 => ?_
  clear H10
  refine h_op (m' := [(12, _), (11, _), (3, _), (2, _), (1, _)]) H11 rfl (H11.wt rfl rfl rfl) (R_fa H11 rfl rfl (fa29_0 _ _)) rfl (.cons rfl (.cons rfl (.cons rfl (.cons rfl (.cons rfl .nil))))) fun a12 H12 => ?_
  clear H11
  refine h_op (m' := [(13, _), (11, _), (3, _), (2, _), (1, _)]) H12 rfl (H12.wt rfl rfl rfl) (R_ld H12 rfl rfl (ld_u8k (hL.cl (g := W.heap.size) (A := mcells m (.slice A1 m.owner.length c1) (.slice A2 m.set.length c2)) (t := 29) (by simp) 0) hc)) rfl (.cons rfl (.cons rfl (.cons rfl (.cons rfl (.cons rfl .nil))))) fun a13 H13 => ?_
  clear H12
  refine h_op (m' := [(14, _), (11, _), (3, _), (2, _), (1, _)]) H13 rfl (H13.wt rfl rfl rfl) (R_bin H13 rfl rfl rfl (B_to (y := true) (B8_le _ _) (by decide))) rfl (.cons rfl (.cons rfl (.cons rfl (.cons rfl (.cons rfl .nil))))) fun a14 H14 => ?_
  clear H13
  refine h_op (m' := [(15, _), (3, _), (2, _), (1, _)]) H14 rfl (wn rfl) (R_pick H14 rfl rfl rfl) rfl (.cons rfl (.cons rfl (.cons rfl (.cons rfl .nil)))) fun a15 H15 => ?_
  clear H14
  refine h_end ?_
  repeat (go_not_at_region 3; go_step)
  refine wp_cond_true (H15.ev (x := .tmp 15) rfl) ?_
  repeat (go_not_at_region 3; go_step)
  refine wp_region_lit ?_
  refine h_op (m' := [(16, _), (3, _), (2, _), (1, _)]) H15 rfl (wn rfl) (R_fa H15 rfl rfl (fa29_1 _ _)) rfl (.cons rfl (.cons rfl (.cons rfl (.cons rfl .nil)))) fun a16 H16 => ?_
  clear H15
  refine h_op (m' := [(17, _), (3, _), (2, _), (1, _)]) H16 rfl (wn rfl) (R_ld H16 rfl rfl (ld_int (hL.cl (g := W.heap.size) (A := mcells m (.slice A1 m.owner.length c1) (.slice A2 m.set.length c2)) (t := 29) (by simp) 1))) rfl (.cons rfl (.cons rfl (.cons rfl (.cons rfl .nil)))) fun a17 H17 => ?_
  clear H16
  refine h_op (m' := [(18, _), (17, _), (3, _), (2, _), (1, _)]) H17 rfl (wn rfl) (R_fa H17 rfl rfl (fa29_1 _ _)) rfl (.cons rfl (.cons rfl (.cons rfl (.cons rfl (.cons rfl .nil))))) fun a18 H18 => ?_
  clear H17
  refine h_stL [(w2.heap.size, mcells { PMsg.zero with kind := 5, move := m.move } (.slice none 0 0) (.slice none 0 0), 29), (w1.heap.size, zcells, 29), (W.heap.size, mcells m (.slice A1 m.owner.length c1) (.slice A2 m.set.length c2), 29)] H18 rfl (wn rfl) (R_st H18 rfl rfl rfl (st_int hL rfl)) (hL.put 1 _) fun a19 w19 H19 hL' => ?_
  replace hL := hL'
  clear H18 hL'
  refine h_end ?_
  repeat (go_not_at_region 4; go_step)
  refine wp_region_lit ?_
  refine h_op (m' := [(19, _), (3, _), (2, _), (1, _)]) H19 rfl (wn rfl) (R_fa H19 rfl rfl (fa29_2 _ _)) rfl (.cons rfl (.cons rfl (.cons rfl (.cons rfl .nil)))) fun a20 H20 => ?_
  clear H19
  refine h_op (m' := [(20, _), (3, _), (2, _), (1, _)]) H20 rfl (wn rfl) (R_ld H20 rfl rfl (ld_int (hL.cl (g := W.heap.size) (A := mcells m (.slice A1 m.owner.length c1) (.slice A2 m.set.length c2)) (t := 29) (by simp) 2))) rfl (.cons rfl (.cons rfl (.cons rfl (.cons rfl .nil)))) fun a21 H21 => ?_
  clear H20
  refine h_op (m' := [(21, _), (20, _), (3, _), (2, _), (1, _)]) H21 rfl (wn rfl) (R_fa H21 rfl rfl (fa29_2 _ _)) rfl (.cons rfl (.cons rfl (.cons rfl (.cons rfl (.cons rfl .nil))))) fun a22 H22 => ?_
  clear H21
  refine h_stL [(w2.heap.size, mcells { PMsg.zero with kind := 5, move := m.move, part := m.part } (.slice none 0 0) (.slice none 0 0), 29), (w1.heap.size, zcells, 29), (W.heap.size, mcells m (.slice A1 m.owner.length c1) (.slice A2 m.set.length c2), 29)] H22 rfl (wn rfl) (R_st H22 rfl rfl rfl (st_int hL rfl)) (hL.put 2 _) fun a23 w23 H23 hL' => ?_
  replace hL := hL'
  clear H22 hL'
  refine h_end ?_
  repeat (go_not_at_region 5; go_step)
  refine wp_region_lit ?_
  refine h_op (m' := [(22, _), (3, _), (2, _), (1, _)]) H23 rfl (wn rfl) (R_fa H23 rfl rfl (fa29_9 _ _)) rfl (.cons rfl (.cons rfl (.cons rfl (.cons rfl .nil)))) fun a24 H24 => ?_
  clear H23
  refine h_op (m' := [(23, _), (3, _), (2, _), (1, _)]) H24 rfl (wn rfl) (R_fa H24 rfl rfl (fa24_0 _ _)) rfl (.cons rfl (.cons rfl (.cons rfl (.cons rfl .nil)))) fun a25 H25 => ?_
  clear H24
  refine h_op (m' := [(24, _), (3, _), (2, _), (1, _)]) H25 rfl (wn rfl) (R_ld H25 rfl rfl (ld_int (hL.cl (g := W.heap.size) (A := mcells m (.slice A1 m.owner.length c1) (.slice A2 m.set.length c2)) (t := 29) (by simp) 9))) rfl (.cons rfl (.cons rfl (.cons rfl (.cons rfl .nil)))) fun a26 H26 => ?_
  clear H25
  refine h_op (m' := [(25, _), (24, _), (3, _), (2, _), (1, _)]) H26 rfl (wn rfl) (R_fa H26 rfl rfl (fa29_9 _ _)) rfl (.cons rfl (.cons rfl (.cons rfl (.cons rfl (.cons rfl .nil))))) fun a27 H27 => ?_
  clear H26
  refine h_op (m' := [(26, _), (24, _), (3, _), (2, _), (1, _)]) H27 rfl (wn rfl) (R_fa H27 rfl rfl (fa24_1 _ _)) rfl (.cons rfl (.cons rfl (.cons rfl (.cons rfl (.cons rfl .nil))))) fun a28 H28 => ?_
  clear H27
  refine h_op (m' := [(27, _), (24, _), (3, _), (2, _), (1, _)]) H28 rfl (wn rfl) (R_ld H28 rfl rfl (ld_int (hL.cl (g := W.heap.size) (A := mcells m (.slice A1 m.owner.length c1) (.slice A2 m.set.length c2)) (t := 29) (by simp) 10))) rfl (.cons rfl (.cons rfl (.cons rfl (.cons rfl (.cons rfl .nil))))) fun a29 H29 => ?_
  clear H28
  refine h_op (m' := [(28, _), (3, _), (2, _), (1, _)]) H29 rfl (wn rfl) (R_bd2 H29 rfl rfl rfl bd_short) rfl (.cons rfl (.cons rfl (.cons rfl (.cons rfl .nil)))) fun a30 H30 => ?_
  clear H29
  refine h_opL ((w23.heap.size, #[.int .i64 0, .int .i64 0, .int .i64 0, .int .u8 0, .string .empty, .int .i64 0, .int .i64 0, .int .i64 0], 24) :: [(w2.heap.size, mcells { PMsg.zero with kind := 5, move := m.move, part := m.part } (.slice none 0 0) (.slice none 0 0), 29), (w1.heap.size, zcells, 29), (W.heap.size, mcells m (.slice A1 m.owner.length c1) (.slice A2 m.set.length c2), 29)]) (m' := [(4, _), (28, _), (3, _), (2, _), (1, _)]) H30 rfl (wn rfl) (R_alloc rfl al_item) (hL.alloc _ _) rfl (.cons rfl (.cons rfl (.cons rfl (.cons rfl (.cons rfl .nil))))) fun a31 w31 H31 hL' => ?_
  replace hL := hL'
  clear H30 hL'
  refine h_stL [(w2.heap.size, mcells { PMsg.zero with kind := 5, move := m.move, part := m.part } (.slice none 0 0) (.slice none 0 0), 29), (w23.heap.size, #[.int .i64 m.isrc, .int .i64 m.iseq, .int .i64 0, .int .u8 0, .string .empty, .int .i64 0, .int .i64 0, .int .i64 0], 24), (w1.heap.size, zcells, 29), (W.heap.size, mcells m (.slice A1 m.owner.length c1) (.slice A2 m.set.length c2), 29)] H31 rfl (wn rfl) (R_st H31 rfl rfl rfl (st_short hL)) ((hL.row #[.int .i64 m.isrc, .int .i64 m.iseq, .int .i64 0, .int .u8 0, .string .empty, .int .i64 0, .int .i64 0, .int .i64 0]).swap) fun a32 w32 H32 hL' => ?_
  replace hL := hL'
  clear H31 hL'
  refine h_end ?_
  repeat (go_not_at_region 6; go_step)
  refine wp_region_lit ?_
  refine h_op (m' := [(29, _), (4, _), (3, _), (2, _), (1, _)]) H32 rfl (wn rfl) (R_fa H32 rfl rfl (fa29_0 _ _)) rfl (.cons rfl (.cons rfl (.cons rfl (.cons rfl (.cons rfl .nil))))) fun a33 H33 => ?_
  clear H32
  refine h_op (m' := [(30, _), (4, _), (3, _), (2, _), (1, _)]) H33 rfl (wn rfl) (R_ld H33 rfl rfl (ld_u8k (hL.cl (g := W.heap.size) (A := mcells m (.slice A1 m.owner.length c1) (.slice A2 m.set.length c2)) (t := 29) (by simp) 0) hc)) rfl (.cons rfl (.cons rfl (.cons rfl (.cons rfl (.cons rfl .nil))))) fun a34 H34 => ?_
  clear H33
  refine h_end ?_
  repeat (go_not_at_region 7; go_step)
  refine wp_region_lit ?_
  refine h_op (m' := [(32, _), (30, _), (4, _), (3, _), (2, _), (1, _)]) H34 rfl (wn rfl) (R_bin H34 rfl rfl rfl (B_to (y := false) (B8_eq _ _) (by decide))) rfl (.cons rfl (.cons rfl (.cons rfl (.cons rfl (.cons rfl (.cons rfl .nil)))))) fun a35 H35 => ?_
  clear H34
  refine h_op (m' := [(31, _), (30, _), (4, _), (3, _), (2, _), (1, _)]) H35 rfl (wn rfl) (R_as H35 rfl rfl) rfl (.cons rfl (.cons rfl (.cons rfl (.cons rfl (.cons rfl (.cons rfl .nil)))))) fun a36 H36 => ?_
  clear H35
  refine h_end ?_
  repeat (go_not_at_region 9; go_step)
  refine wp_cond_false (H36.ev (x := .tmp 31) rfl) ?_
  repeat (go_not_at_region 9; go_step)
  repeat (go_not_at_region 9; go_step)
  refine wp_region_lit ?_
  refine h_op (m' := [(37, _), (30, _), (4, _), (3, _), (2, _), (1, _)]) H36 rfl (wn rfl) (R_bin H36 rfl rfl rfl (B_to (y := false) (B8_eq _ _) (by decide))) rfl (.cons rfl (.cons rfl (.cons rfl (.cons rfl (.cons rfl (.cons rfl .nil)))))) fun a37 H37 => ?_
  clear H36
  refine h_op (m' := [(36, _), (30, _), (4, _), (3, _), (2, _), (1, _)]) H37 rfl (wn rfl) (R_as H37 rfl rfl) rfl (.cons rfl (.cons rfl (.cons rfl (.cons rfl (.cons rfl (.cons rfl .nil)))))) fun a38 H38 => ?_
  clear H37
  refine h_end ?_
  repeat (go_not_at_region 12; go_step)
  refine wp_cond_false (H38.ev (x := .tmp 36) rfl) ?_
  repeat (go_not_at_region 12; go_step)
  repeat (go_not_at_region 12; go_step)
  refine wp_region_lit ?_
  refine h_op (m' := [(44, _), (30, _), (4, _), (3, _), (2, _), (1, _)]) H38 rfl (wn rfl) (R_bin H38 rfl rfl rfl (B_to (y := false) (B8_eq _ _) (by decide))) rfl (.cons rfl (.cons rfl (.cons rfl (.cons rfl (.cons rfl (.cons rfl .nil)))))) fun a39 H39 => ?_
  clear H38
  refine h_op (m' := [(43, _), (30, _), (4, _), (3, _), (2, _), (1, _)]) H39 rfl (wn rfl) (R_as H39 rfl rfl) rfl (.cons rfl (.cons rfl (.cons rfl (.cons rfl (.cons rfl (.cons rfl .nil)))))) fun a40 H40 => ?_
  clear H39
  refine h_end ?_
  repeat (go_not_at_region 15; go_step)
  refine wp_cond_false (H40.ev (x := .tmp 43) rfl) ?_
  repeat (go_not_at_region 15; go_step)
  repeat (go_not_at_region 15; go_step)
  refine wp_region_lit ?_
  refine h_op (m' := [(51, _), (30, _), (4, _), (3, _), (2, _), (1, _)]) H40 rfl (wn rfl) (R_bin H40 rfl rfl rfl (B_to (y := false) (B8_eq _ _) (by decide))) rfl (.cons rfl (.cons rfl (.cons rfl (.cons rfl (.cons rfl (.cons rfl .nil)))))) fun a41 H41 => ?_
  clear H40
  refine h_op (m' := [(50, _), (30, _), (4, _), (3, _), (2, _), (1, _)]) H41 rfl (wn rfl) (R_as H41 rfl rfl) rfl (.cons rfl (.cons rfl (.cons rfl (.cons rfl (.cons rfl (.cons rfl .nil)))))) fun a42 H42 => ?_
  clear H41
  refine h_end ?_
  repeat (go_not_at_region 17; go_step)
  refine wp_cond_false (H42.ev (x := .tmp 50) rfl) ?_
  repeat (go_not_at_region 17; go_step)
  repeat (go_not_at_region 17; go_step)
  refine wp_region_lit ?_
  refine h_op (m' := [(56, _), (30, _), (4, _), (3, _), (2, _), (1, _)]) H42 rfl (wn rfl) (R_bin H42 rfl rfl rfl (B_to (y := true) (B8_eq _ _) (by decide))) rfl (.cons rfl (.cons rfl (.cons rfl (.cons rfl (.cons rfl (.cons rfl .nil)))))) fun a43 H43 => ?_
  clear H42
  refine h_op (m' := [(55, _), (30, _), (4, _), (3, _), (2, _), (1, _)]) H43 rfl (wn rfl) (R_as H43 rfl rfl) rfl (.cons rfl (.cons rfl (.cons rfl (.cons rfl (.cons rfl (.cons rfl .nil)))))) fun a44 H44 => ?_
  clear H43
  refine h_end ?_
  repeat (go_not_at_region 18; go_step)
  refine wp_cond_true (H44.ev (x := .tmp 55) rfl) ?_
  repeat (go_not_at_region 18; go_step)
  refine wp_region_lit ?_
  refine h_op (m' := [(57, _), (30, _), (4, _), (3, _), (2, _), (1, _)]) H44 rfl (wn rfl) (R_fa H44 rfl rfl (fa29_4 _ _)) rfl (.cons rfl (.cons rfl (.cons rfl (.cons rfl (.cons rfl (.cons rfl .nil)))))) fun a45 H45 => ?_
  clear H44
  refine h_op (m' := [(58, _), (30, _), (4, _), (3, _), (2, _), (1, _)]) H45 rfl (wn rfl) (R_ld H45 rfl rfl (ld_int (hL.cl (g := W.heap.size) (A := mcells m (.slice A1 m.owner.length c1) (.slice A2 m.set.length c2)) (t := 29) (by simp) 4))) rfl (.cons rfl (.cons rfl (.cons rfl (.cons rfl (.cons rfl (.cons rfl .nil)))))) fun a46 H46 => ?_
  clear H45
  refine h_op (m' := [(59, _), (58, _), (30, _), (4, _), (3, _), (2, _), (1, _)]) H46 rfl (wn rfl) (R_fa H46 rfl rfl (fa29_4 _ _)) rfl (.cons rfl (.cons rfl (.cons rfl (.cons rfl (.cons rfl (.cons rfl (.cons rfl .nil))))))) fun a47 H47 => ?_
  clear H46
  refine h_stL [(w2.heap.size, mcells { PMsg.zero with kind := 5, move := m.move, part := m.part, n := m.n } (.slice none 0 0) (.slice none 0 0), 29), (w23.heap.size, #[.int .i64 m.isrc, .int .i64 m.iseq, .int .i64 0, .int .u8 0, .string .empty, .int .i64 0, .int .i64 0, .int .i64 0], 24), (w1.heap.size, zcells, 29), (W.heap.size, mcells m (.slice A1 m.owner.length c1) (.slice A2 m.set.length c2), 29)] H47 rfl (wn rfl) (R_st H47 rfl rfl rfl (st_int hL rfl)) (hL.put 4 _) fun a48 w48 H48 hL' => ?_
  replace hL := hL'
  clear H47 hL'
  refine h_end ?_
  repeat (go_not_at_region 19; go_step)
  refine wp_region_lit ?_
  refine h_op (m' := [(60, _), (30, _), (4, _), (3, _), (2, _), (1, _)]) H48 rfl (wn rfl) (R_fa H48 rfl rfl (fa29_5 _ _)) rfl (.cons rfl (.cons rfl (.cons rfl (.cons rfl (.cons rfl (.cons rfl .nil)))))) fun a49 H49 => ?_
  clear H48
  refine h_op (m' := [(61, _), (30, _), (4, _), (3, _), (2, _), (1, _)]) H49 rfl (wn rfl) (R_ld H49 rfl rfl (ld_int (hL.cl (g := W.heap.size) (A := mcells m (.slice A1 m.owner.length c1) (.slice A2 m.set.length c2)) (t := 29) (by simp) 5))) rfl (.cons rfl (.cons rfl (.cons rfl (.cons rfl (.cons rfl (.cons rfl .nil)))))) fun a50 H50 => ?_
  clear H49
  refine h_op (m' := [(62, _), (61, _), (30, _), (4, _), (3, _), (2, _), (1, _)]) H50 rfl (wn rfl) (R_fa H50 rfl rfl (fa29_5 _ _)) rfl (.cons rfl (.cons rfl (.cons rfl (.cons rfl (.cons rfl (.cons rfl (.cons rfl .nil))))))) fun a51 H51 => ?_
  clear H50
  refine h_stL [(w2.heap.size, mcells { PMsg.zero with kind := 5, move := m.move, part := m.part, n := m.n, count := m.count } (.slice none 0 0) (.slice none 0 0), 29), (w23.heap.size, #[.int .i64 m.isrc, .int .i64 m.iseq, .int .i64 0, .int .u8 0, .string .empty, .int .i64 0, .int .i64 0, .int .i64 0], 24), (w1.heap.size, zcells, 29), (W.heap.size, mcells m (.slice A1 m.owner.length c1) (.slice A2 m.set.length c2), 29)] H51 rfl (wn rfl) (R_st H51 rfl rfl rfl (st_int hL rfl)) (hL.put 5 _) fun a52 w52 H52 hL' => ?_
  replace hL := hL'
  clear H51 hL'
  refine h_end ?_
  repeat (go_not_at_region 20; go_step)
  refine wp_region_lit ?_
  refine h_op (m' := [(63, _), (30, _), (4, _), (3, _), (2, _), (1, _)]) H52 rfl (wn rfl) (R_fa H52 rfl rfl (fa29_12 _ _)) rfl (.cons rfl (.cons rfl (.cons rfl (.cons rfl (.cons rfl (.cons rfl .nil)))))) fun a53 H53 => ?_
  clear H52
  refine h_op (m' := [(64, _), (30, _), (4, _), (3, _), (2, _), (1, _)]) H53 rfl (wn rfl) (R_ld H53 rfl rfl (ld_str (hL.cl (g := W.heap.size) (A := mcells m (.slice A1 m.owner.length c1) (.slice A2 m.set.length c2)) (t := 29) (by simp) 21))) rfl (.cons rfl (.cons rfl (.cons rfl (.cons rfl (.cons rfl (.cons rfl .nil)))))) fun a54 H54 => ?_
  clear H53
  refine h_op (m' := [(65, _), (64, _), (30, _), (4, _), (3, _), (2, _), (1, _)]) H54 rfl (wn rfl) (R_fa H54 rfl rfl (fa29_12 _ _)) rfl (.cons rfl (.cons rfl (.cons rfl (.cons rfl (.cons rfl (.cons rfl (.cons rfl .nil))))))) fun a55 H55 => ?_
  clear H54
  refine h_stL [(w2.heap.size, mcells { PMsg.zero with kind := 5, move := m.move, part := m.part, n := m.n, count := m.count, data := m.data } (.slice none 0 0) (.slice none 0 0), 29), (w23.heap.size, #[.int .i64 m.isrc, .int .i64 m.iseq, .int .i64 0, .int .u8 0, .string .empty, .int .i64 0, .int .i64 0, .int .i64 0], 24), (w1.heap.size, zcells, 29), (W.heap.size, mcells m (.slice A1 m.owner.length c1) (.slice A2 m.set.length c2), 29)] H55 rfl (wn rfl) (R_st H55 rfl rfl rfl (st_strc hL rfl)) (hL.put 21 _) fun a56 w56 H56 hL' => ?_
  replace hL := hL'
  clear H55 hL'
  refine h_end ?_
  repeat (go_not_at_region 38; go_step)
  refine wp_region_lit ?_
  refine h_op (m' := [(109, _), (2, _)]) H56 rfl (wn rfl) (R_ld H56 rfl rfl (ld_row hL.at_)) rfl (.cons rfl (.cons rfl .nil)) fun a57 H57 => ?_
  clear H56
  refine h_stL [(w1.heap.size, mcells { PMsg.zero with kind := 5, move := m.move, part := m.part, n := m.n, count := m.count, data := m.data } (.slice none 0 0) (.slice none 0 0), 29), (w2.heap.size, mcells { PMsg.zero with kind := 5, move := m.move, part := m.part, n := m.n, count := m.count, data := m.data } (.slice none 0 0) (.slice none 0 0), 29), (w23.heap.size, #[.int .i64 m.isrc, .int .i64 m.iseq, .int .i64 0, .int .u8 0, .string .empty, .int .i64 0, .int .i64 0, .int .i64 0], 24), (W.heap.size, mcells m (.slice A1 m.owner.length c1) (.slice A2 m.set.length c2), 29)] H57 rfl (wn rfl) (R_st H57 rfl rfl rfl (st_row (m2 := .zero) (vo2 := .slice none 0 0) (vs2 := .slice none 0 0) (hL.mem_at (by simp)) (mcells_one rfl rfl))) (hL.third.row _) fun a58 w58 H58 hL' => ?_
  replace hL := hL'
  clear H57 hL'
  refine h_end ?_
  repeat (go_not_at_region 999; go_step)
  have ho' : onlyM m = { PMsg.zero with kind := 5, move := m.move, part := m.part, n := m.n, count := m.count, data := m.data } := by
    unfold onlyM
    rw [hc]
    rfl
  refine bodyPost_ret (v := .agg (mcells { PMsg.zero with kind := 5, move := m.move, part := m.part, n := m.n, count := m.count, data := m.data } (.slice none 0 0) (.slice none 0 0))) (only_results (H58.getD rfl) hL.at_) H58.1 ⟨(.slice none 0 0), (.slice none 0 0), by rw [ho'], ?_, ?_, hL.1⟩
  · intro w h; rw [ho']; exact .inl ⟨rfl, rfl⟩
  · intro w h; rw [ho']; exact .inl ⟨rfl, rfl⟩
set_option maxRecDepth 100000 in
set_option maxHeartbeats 4000000 in
theorem only_6 (hc : m.kind = 6) (ho : Rd W vo m.owner) (hs : Rd W vs m.set) : Calls Try.prog 18 #[.agg (mcells m vo vs)] W fun e W' => ∃ vo' vs', e = .returned (.agg (mcells (onlyM m) vo' vs')) ∧ (∀ w, Rd w vo m.owner → Rd w vo' (onlyM m).owner) ∧ (∀ w, Rd w vs m.set → Rd w vs' (onlyM m).set) ∧ Below W.heap.size W W' := by
  have hL := Live.init W
  obtain ⟨A1, c1, rfl⟩ := ho.slc
  obtain ⟨A2, c2, rfl⟩ := hs.slc
  go_enter Try.func18, Try.ntmps18
  refine wp_fr (n := 110) (m := [(0, _)]) ⟨rfl, rfl, by intro p hp; simp only [List.mem_cons, List.not_mem_nil, or_false] at hp; rcases hp with rfl <;> rfl⟩ fun a0 H0 => ?_
  repeat (go_not_at_region 0; go_step)
  refine wp_region_lit ?_
  refine h_opL [(W.heap.size, mcells m (.slice A1 m.owner.length c1) (.slice A2 m.set.length c2), 29)] (m' := [(1, _)]) H0 rfl (wn rfl) (R_box H0 rfl rfl bx_row) (hL.alloc _ _) rfl (.cons rfl .nil) fun a1 w1 H1 hL' => ?_
  replace hL := hL'
  clear H0 hL'
  refine h_opL [(w1.heap.size, zcells, 29), (W.heap.size, mcells m (.slice A1 m.owner.length c1) (.slice A2 m.set.length c2), 29)] (m' := [(2, _), (1, _)]) H1 rfl (wn rfl) (R_alloc rfl al_row) (hL.alloc _ _) rfl (.cons rfl (.cons rfl .nil)) fun a2 w2 H2 hL' => ?_
  replace hL := hL'
  clear H1 hL'
  refine h_end ?_
  repeat (go_not_at_region 1; go_step)
  refine wp_region_lit ?_
  refine h_op (m' := [(5, _), (2, _), (1, _)]) H2 rfl (wn rfl) (R_fa H2 rfl rfl (fa29_0 _ _)) rfl (.cons rfl (.cons rfl (.cons rfl .nil))) fun a3 H3 => ?_
  clear H2
  refine h_op (m' := [(6, _), (2, _), (1, _)]) H3 rfl (wn rfl) (R_ld H3 rfl rfl (ld_u8k (hL.cl (g := W.heap.size) (A := mcells m (.slice A1 m.owner.length c1) (.slice A2 m.set.length c2)) (t := 29) (by simp) 0) hc)) rfl (.cons rfl (.cons rfl (.cons rfl .nil))) fun a4 H4 => ?_
  clear H3
  refine h_op (m' := [(7, _), (2, _), (1, _)]) H4 rfl (wn rfl) (R_bd1 H4 rfl rfl bd_kind) rfl (.cons rfl (.cons rfl (.cons rfl .nil))) fun a5 H5 => ?_
  clear H4
  refine h_opL [(w2.heap.size, zcells, 29), (w1.heap.size, zcells, 29), (W.heap.size, mcells m (.slice A1 m.owner.length c1) (.slice A2 m.set.length c2), 29)] (m' := [(3, _), (7, _), (2, _), (1, _)]) H5 rfl (wn rfl) (R_alloc rfl al_row) (hL.alloc _ _) rfl (.cons rfl (.cons rfl (.cons rfl (.cons rfl .nil)))) fun a6 w6 H6 hL' => ?_
  replace hL := hL'
  clear H5 hL'
  refine h_stL [(w2.heap.size, mcells { PMsg.zero with kind := 6 } (.slice none 0 0) (.slice none 0 0), 29), (w1.heap.size, zcells, 29), (W.heap.size, mcells m (.slice A1 m.owner.length c1) (.slice A2 m.set.length c2), 29)] H6 rfl (wn rfl) (R_st H6 rfl rfl rfl (st_row (m2 := .zero) (vo2 := .slice none 0 0) (vs2 := .slice none 0 0) hL.at_ (mcells_one rfl rfl))) (hL.row _) fun a7 w7 H7 hL' => ?_
  replace hL := hL'
  clear H6 hL'
  refine h_end ?_
  repeat (go_not_at_region 2; go_step)
  refine wp_region_lit ?_
  refine h_op (m' := [(8, _), (3, _), (2, _), (1, _)]) H7 rfl (wn rfl) (R_fa H7 rfl rfl (fa29_0 _ _)) rfl (.cons rfl (.cons rfl (.cons rfl (.cons rfl .nil)))) fun a8 H8 => ?_
  clear H7
  refine h_op (m' := [(9, _), (3, _), (2, _), (1, _)]) H8 rfl (wn rfl) (R_ld H8 rfl rfl (ld_u8k (hL.cl (g := W.heap.size) (A := mcells m (.slice A1 m.owner.length c1) (.slice A2 m.set.length c2)) (t := 29) (by simp) 0) hc)) rfl (.cons rfl (.cons rfl (.cons rfl (.cons rfl .nil)))) fun a9 H9 => ?_
  clear H8
  refine h_op (m' := [(10, _), (3, _), (2, _), (1, _)]) H9 rfl (wn rfl) (R_bin H9 rfl rfl rfl (B_to (y := true) (B8_ge _ _) (by decide))) rfl (.cons rfl (.cons rfl (.cons rfl (.cons rfl .nil)))) fun a10 H10 => ?_
  clear H9
  refine h_op (m' := [(11, _), (3, _), (2, _), (1, _)]) H10 rfl (wn rfl) (R_mv H10 rfl rfl) rfl (.cons rfl (.cons rfl (.cons rfl (.cons rfl .nil)))) fun a11 H11 => ?_
  clear H10
  refine h_op (m' := [(12, _), (11, _), (3, _), (2, _), (1, _)]) H11 rfl (H11.wt rfl rfl rfl) (R_fa H11 rfl rfl (fa29_0 _ _)) rfl (.cons rfl (.cons rfl (.cons rfl (.cons rfl (.cons rfl .nil))))) fun a12 H12 => ?_
  clear H11
  refine h_op (m' := [(13, _), (11, _), (3, _), (2, _), (1, _)]) H12 rfl (H12.wt rfl rfl rfl) (R_ld H12 rfl rfl (ld_u8k (hL.cl (g := W.heap.size) (A := mcells m (.slice A1 m.owner.length c1) (.slice A2 m.set.length c2)) (t := 29) (by simp) 0) hc)) rfl (.cons rfl (.cons rfl (.cons rfl (.cons rfl (.cons rfl .nil))))) fun a13 H13 => ?_
  clear H12
  refine h_op (m' := [(14, _), (11, _), (3, _), (2, _), (1, _)]) H13 rfl (H13.wt rfl rfl rfl) (R_bin H13 rfl rfl rfl (B_to (y := true) (B8_le _ _) (by decide))) rfl (.cons rfl (.cons rfl (.cons rfl (.cons rfl (.cons rfl .nil))))) fun a14 H14 => ?_
  clear H13
  refine h_op (m' := [(15, _), (3, _), (2, _), (1, _)]) H14 rfl (wn rfl) (R_pick H14 rfl rfl rfl) rfl (.cons rfl (.cons rfl (.cons rfl (.cons rfl .nil)))) fun a15 H15 => ?_
  clear H14
  refine h_end ?_
  repeat (go_not_at_region 3; go_step)
  refine wp_cond_true (H15.ev (x := .tmp 15) rfl) ?_
  repeat (go_not_at_region 3; go_step)
  refine wp_region_lit ?_
  refine h_op (m' := [(16, _), (3, _), (2, _), (1, _)]) H15 rfl (wn rfl) (R_fa H15 rfl rfl (fa29_1 _ _)) rfl (.cons rfl (.cons rfl (.cons rfl (.cons rfl .nil)))) fun a16 H16 => ?_
  clear H15
  refine h_op (m' := [(17, _), (3, _), (2, _), (1, _)]) H16 rfl (wn rfl) (R_ld H16 rfl rfl (ld_int (hL.cl (g := W.heap.size) (A := mcells m (.slice A1 m.owner.length c1) (.slice A2 m.set.length c2)) (t := 29) (by simp) 1))) rfl (.cons rfl (.cons rfl (.cons rfl (.cons rfl .nil)))) fun a17 H17 => ?_
  clear H16
  refine h_op (m' := [(18, _), (17, _), (3, _), (2, _), (1, _)]) H17 rfl (wn rfl) (R_fa H17 rfl rfl (fa29_1 _ _)) rfl (.cons rfl (.cons rfl (.cons rfl (.cons rfl (.cons rfl .nil))))) fun a18 H18 => ?_
  clear H17
  refine h_stL [(w2.heap.size, mcells { PMsg.zero with kind := 6, move := m.move } (.slice none 0 0) (.slice none 0 0), 29), (w1.heap.size, zcells, 29), (W.heap.size, mcells m (.slice A1 m.owner.length c1) (.slice A2 m.set.length c2), 29)] H18 rfl (wn rfl) (R_st H18 rfl rfl rfl (st_int hL rfl)) (hL.put 1 _) fun a19 w19 H19 hL' => ?_
  replace hL := hL'
  clear H18 hL'
  refine h_end ?_
  repeat (go_not_at_region 4; go_step)
  refine wp_region_lit ?_
  refine h_op (m' := [(19, _), (3, _), (2, _), (1, _)]) H19 rfl (wn rfl) (R_fa H19 rfl rfl (fa29_2 _ _)) rfl (.cons rfl (.cons rfl (.cons rfl (.cons rfl .nil)))) fun a20 H20 => ?_
  clear H19
  refine h_op (m' := [(20, _), (3, _), (2, _), (1, _)]) H20 rfl (wn rfl) (R_ld H20 rfl rfl (ld_int (hL.cl (g := W.heap.size) (A := mcells m (.slice A1 m.owner.length c1) (.slice A2 m.set.length c2)) (t := 29) (by simp) 2))) rfl (.cons rfl (.cons rfl (.cons rfl (.cons rfl .nil)))) fun a21 H21 => ?_
  clear H20
  refine h_op (m' := [(21, _), (20, _), (3, _), (2, _), (1, _)]) H21 rfl (wn rfl) (R_fa H21 rfl rfl (fa29_2 _ _)) rfl (.cons rfl (.cons rfl (.cons rfl (.cons rfl (.cons rfl .nil))))) fun a22 H22 => ?_
  clear H21
  refine h_stL [(w2.heap.size, mcells { PMsg.zero with kind := 6, move := m.move, part := m.part } (.slice none 0 0) (.slice none 0 0), 29), (w1.heap.size, zcells, 29), (W.heap.size, mcells m (.slice A1 m.owner.length c1) (.slice A2 m.set.length c2), 29)] H22 rfl (wn rfl) (R_st H22 rfl rfl rfl (st_int hL rfl)) (hL.put 2 _) fun a23 w23 H23 hL' => ?_
  replace hL := hL'
  clear H22 hL'
  refine h_end ?_
  repeat (go_not_at_region 5; go_step)
  refine wp_region_lit ?_
  refine h_op (m' := [(22, _), (3, _), (2, _), (1, _)]) H23 rfl (wn rfl) (R_fa H23 rfl rfl (fa29_9 _ _)) rfl (.cons rfl (.cons rfl (.cons rfl (.cons rfl .nil)))) fun a24 H24 => ?_
  clear H23
  refine h_op (m' := [(23, _), (3, _), (2, _), (1, _)]) H24 rfl (wn rfl) (R_fa H24 rfl rfl (fa24_0 _ _)) rfl (.cons rfl (.cons rfl (.cons rfl (.cons rfl .nil)))) fun a25 H25 => ?_
  clear H24
  refine h_op (m' := [(24, _), (3, _), (2, _), (1, _)]) H25 rfl (wn rfl) (R_ld H25 rfl rfl (ld_int (hL.cl (g := W.heap.size) (A := mcells m (.slice A1 m.owner.length c1) (.slice A2 m.set.length c2)) (t := 29) (by simp) 9))) rfl (.cons rfl (.cons rfl (.cons rfl (.cons rfl .nil)))) fun a26 H26 => ?_
  clear H25
  refine h_op (m' := [(25, _), (24, _), (3, _), (2, _), (1, _)]) H26 rfl (wn rfl) (R_fa H26 rfl rfl (fa29_9 _ _)) rfl (.cons rfl (.cons rfl (.cons rfl (.cons rfl (.cons rfl .nil))))) fun a27 H27 => ?_
  clear H26
  refine h_op (m' := [(26, _), (24, _), (3, _), (2, _), (1, _)]) H27 rfl (wn rfl) (R_fa H27 rfl rfl (fa24_1 _ _)) rfl (.cons rfl (.cons rfl (.cons rfl (.cons rfl (.cons rfl .nil))))) fun a28 H28 => ?_
  clear H27
  refine h_op (m' := [(27, _), (24, _), (3, _), (2, _), (1, _)]) H28 rfl (wn rfl) (R_ld H28 rfl rfl (ld_int (hL.cl (g := W.heap.size) (A := mcells m (.slice A1 m.owner.length c1) (.slice A2 m.set.length c2)) (t := 29) (by simp) 10))) rfl (.cons rfl (.cons rfl (.cons rfl (.cons rfl (.cons rfl .nil))))) fun a29 H29 => ?_
  clear H28
  refine h_op (m' := [(28, _), (3, _), (2, _), (1, _)]) H29 rfl (wn rfl) (R_bd2 H29 rfl rfl rfl bd_short) rfl (.cons rfl (.cons rfl (.cons rfl (.cons rfl .nil)))) fun a30 H30 => ?_
  clear H29
  refine h_opL ((w23.heap.size, #[.int .i64 0, .int .i64 0, .int .i64 0, .int .u8 0, .string .empty, .int .i64 0, .int .i64 0, .int .i64 0], 24) :: [(w2.heap.size, mcells { PMsg.zero with kind := 6, move := m.move, part := m.part } (.slice none 0 0) (.slice none 0 0), 29), (w1.heap.size, zcells, 29), (W.heap.size, mcells m (.slice A1 m.owner.length c1) (.slice A2 m.set.length c2), 29)]) (m' := [(4, _), (28, _), (3, _), (2, _), (1, _)]) H30 rfl (wn rfl) (R_alloc rfl al_item) (hL.alloc _ _) rfl (.cons rfl (.cons rfl (.cons rfl (.cons rfl (.cons rfl .nil))))) fun a31 w31 H31 hL' => ?_
  replace hL := hL'
  clear H30 hL'
  refine h_stL [(w2.heap.size, mcells { PMsg.zero with kind := 6, move := m.move, part := m.part } (.slice none 0 0) (.slice none 0 0), 29), (w23.heap.size, #[.int .i64 m.isrc, .int .i64 m.iseq, .int .i64 0, .int .u8 0, .string .empty, .int .i64 0, .int .i64 0, .int .i64 0], 24), (w1.heap.size, zcells, 29), (W.heap.size, mcells m (.slice A1 m.owner.length c1) (.slice A2 m.set.length c2), 29)] H31 rfl (wn rfl) (R_st H31 rfl rfl rfl (st_short hL)) ((hL.row #[.int .i64 m.isrc, .int .i64 m.iseq, .int .i64 0, .int .u8 0, .string .empty, .int .i64 0, .int .i64 0, .int .i64 0]).swap) fun a32 w32 H32 hL' => ?_
  replace hL := hL'
  clear H31 hL'
  refine h_end ?_
  repeat (go_not_at_region 6; go_step)
  refine wp_region_lit ?_
  refine h_op (m' := [(29, _), (4, _), (3, _), (2, _), (1, _)]) H32 rfl (wn rfl) (R_fa H32 rfl rfl (fa29_0 _ _)) rfl (.cons rfl (.cons rfl (.cons rfl (.cons rfl (.cons rfl .nil))))) fun a33 H33 => ?_
  clear H32
  refine h_op (m' := [(30, _), (4, _), (3, _), (2, _), (1, _)]) H33 rfl (wn rfl) (R_ld H33 rfl rfl (ld_u8k (hL.cl (g := W.heap.size) (A := mcells m (.slice A1 m.owner.length c1) (.slice A2 m.set.length c2)) (t := 29) (by simp) 0) hc)) rfl (.cons rfl (.cons rfl (.cons rfl (.cons rfl (.cons rfl .nil))))) fun a34 H34 => ?_
  clear H33
  refine h_end ?_
  repeat (go_not_at_region 7; go_step)
  refine wp_region_lit ?_
  refine h_op (m' := [(32, _), (30, _), (4, _), (3, _), (2, _), (1, _)]) H34 rfl (wn rfl) (R_bin H34 rfl rfl rfl (B_to (y := false) (B8_eq _ _) (by decide))) rfl (.cons rfl (.cons rfl (.cons rfl (.cons rfl (.cons rfl (.cons rfl .nil)))))) fun a35 H35 => ?_
  clear H34
  refine h_op (m' := [(31, _), (30, _), (4, _), (3, _), (2, _), (1, _)]) H35 rfl (wn rfl) (R_as H35 rfl rfl) rfl (.cons rfl (.cons rfl (.cons rfl (.cons rfl (.cons rfl (.cons rfl .nil)))))) fun a36 H36 => ?_
  clear H35
  refine h_end ?_
  repeat (go_not_at_region 9; go_step)
  refine wp_cond_false (H36.ev (x := .tmp 31) rfl) ?_
  repeat (go_not_at_region 9; go_step)
  repeat (go_not_at_region 9; go_step)
  refine wp_region_lit ?_
  refine h_op (m' := [(37, _), (30, _), (4, _), (3, _), (2, _), (1, _)]) H36 rfl (wn rfl) (R_bin H36 rfl rfl rfl (B_to (y := false) (B8_eq _ _) (by decide))) rfl (.cons rfl (.cons rfl (.cons rfl (.cons rfl (.cons rfl (.cons rfl .nil)))))) fun a37 H37 => ?_
  clear H36
  refine h_op (m' := [(36, _), (30, _), (4, _), (3, _), (2, _), (1, _)]) H37 rfl (wn rfl) (R_as H37 rfl rfl) rfl (.cons rfl (.cons rfl (.cons rfl (.cons rfl (.cons rfl (.cons rfl .nil)))))) fun a38 H38 => ?_
  clear H37
  refine h_end ?_
  repeat (go_not_at_region 12; go_step)
  refine wp_cond_false (H38.ev (x := .tmp 36) rfl) ?_
  repeat (go_not_at_region 12; go_step)
  repeat (go_not_at_region 12; go_step)
  refine wp_region_lit ?_
  refine h_op (m' := [(44, _), (30, _), (4, _), (3, _), (2, _), (1, _)]) H38 rfl (wn rfl) (R_bin H38 rfl rfl rfl (B_to (y := false) (B8_eq _ _) (by decide))) rfl (.cons rfl (.cons rfl (.cons rfl (.cons rfl (.cons rfl (.cons rfl .nil)))))) fun a39 H39 => ?_
  clear H38
  refine h_op (m' := [(43, _), (30, _), (4, _), (3, _), (2, _), (1, _)]) H39 rfl (wn rfl) (R_as H39 rfl rfl) rfl (.cons rfl (.cons rfl (.cons rfl (.cons rfl (.cons rfl (.cons rfl .nil)))))) fun a40 H40 => ?_
  clear H39
  refine h_end ?_
  repeat (go_not_at_region 15; go_step)
  refine wp_cond_false (H40.ev (x := .tmp 43) rfl) ?_
  repeat (go_not_at_region 15; go_step)
  repeat (go_not_at_region 15; go_step)
  refine wp_region_lit ?_
  refine h_op (m' := [(51, _), (30, _), (4, _), (3, _), (2, _), (1, _)]) H40 rfl (wn rfl) (R_bin H40 rfl rfl rfl (B_to (y := false) (B8_eq _ _) (by decide))) rfl (.cons rfl (.cons rfl (.cons rfl (.cons rfl (.cons rfl (.cons rfl .nil)))))) fun a41 H41 => ?_
  clear H40
  refine h_op (m' := [(50, _), (30, _), (4, _), (3, _), (2, _), (1, _)]) H41 rfl (wn rfl) (R_as H41 rfl rfl) rfl (.cons rfl (.cons rfl (.cons rfl (.cons rfl (.cons rfl (.cons rfl .nil)))))) fun a42 H42 => ?_
  clear H41
  refine h_end ?_
  repeat (go_not_at_region 17; go_step)
  refine wp_cond_false (H42.ev (x := .tmp 50) rfl) ?_
  repeat (go_not_at_region 17; go_step)
  repeat (go_not_at_region 17; go_step)
  refine wp_region_lit ?_
  refine h_op (m' := [(56, _), (30, _), (4, _), (3, _), (2, _), (1, _)]) H42 rfl (wn rfl) (R_bin H42 rfl rfl rfl (B_to (y := false) (B8_eq _ _) (by decide))) rfl (.cons rfl (.cons rfl (.cons rfl (.cons rfl (.cons rfl (.cons rfl .nil)))))) fun a43 H43 => ?_
  clear H42
  refine h_op (m' := [(55, _), (30, _), (4, _), (3, _), (2, _), (1, _)]) H43 rfl (wn rfl) (R_as H43 rfl rfl) rfl (.cons rfl (.cons rfl (.cons rfl (.cons rfl (.cons rfl (.cons rfl .nil)))))) fun a44 H44 => ?_
  clear H43
  refine h_end ?_
  repeat (go_not_at_region 21; go_step)
  refine wp_cond_false (H44.ev (x := .tmp 55) rfl) ?_
  repeat (go_not_at_region 21; go_step)
  repeat (go_not_at_region 21; go_step)
  refine wp_region_lit ?_
  refine h_op (m' := [(67, _), (30, _), (4, _), (3, _), (2, _), (1, _)]) H44 rfl (wn rfl) (R_bin H44 rfl rfl rfl (B_to (y := true) (B8_eq _ _) (by decide))) rfl (.cons rfl (.cons rfl (.cons rfl (.cons rfl (.cons rfl (.cons rfl .nil)))))) fun a45 H45 => ?_
  clear H44
  refine h_op (m' := [(66, _), (30, _), (4, _), (3, _), (2, _), (1, _)]) H45 rfl (wn rfl) (R_as H45 rfl rfl) rfl (.cons rfl (.cons rfl (.cons rfl (.cons rfl (.cons rfl (.cons rfl .nil)))))) fun a46 H46 => ?_
  clear H45
  refine h_end ?_
  repeat (go_not_at_region 22; go_step)
  refine wp_cond_true (H46.ev (x := .tmp 66) rfl) ?_
  repeat (go_not_at_region 22; go_step)
  refine wp_region_lit ?_
  refine h_op (m' := [(68, _), (30, _), (4, _), (3, _), (2, _), (1, _)]) H46 rfl (wn rfl) (R_fa H46 rfl rfl (fa29_4 _ _)) rfl (.cons rfl (.cons rfl (.cons rfl (.cons rfl (.cons rfl (.cons rfl .nil)))))) fun a47 H47 => ?_
  clear H46
  refine h_op (m' := [(69, _), (30, _), (4, _), (3, _), (2, _), (1, _)]) H47 rfl (wn rfl) (R_ld H47 rfl rfl (ld_int (hL.cl (g := W.heap.size) (A := mcells m (.slice A1 m.owner.length c1) (.slice A2 m.set.length c2)) (t := 29) (by simp) 4))) rfl (.cons rfl (.cons rfl (.cons rfl (.cons rfl (.cons rfl (.cons rfl .nil)))))) fun a48 H48 => ?_
  clear H47
  refine h_op (m' := [(70, _), (69, _), (30, _), (4, _), (3, _), (2, _), (1, _)]) H48 rfl (wn rfl) (R_fa H48 rfl rfl (fa29_4 _ _)) rfl (.cons rfl (.cons rfl (.cons rfl (.cons rfl (.cons rfl (.cons rfl (.cons rfl .nil))))))) fun a49 H49 => ?_
  clear H48
  refine h_stL [(w2.heap.size, mcells { PMsg.zero with kind := 6, move := m.move, part := m.part, n := m.n } (.slice none 0 0) (.slice none 0 0), 29), (w23.heap.size, #[.int .i64 m.isrc, .int .i64 m.iseq, .int .i64 0, .int .u8 0, .string .empty, .int .i64 0, .int .i64 0, .int .i64 0], 24), (w1.heap.size, zcells, 29), (W.heap.size, mcells m (.slice A1 m.owner.length c1) (.slice A2 m.set.length c2), 29)] H49 rfl (wn rfl) (R_st H49 rfl rfl rfl (st_int hL rfl)) (hL.put 4 _) fun a50 w50 H50 hL' => ?_
  replace hL := hL'
  clear H49 hL'
  refine h_end ?_
  repeat (go_not_at_region 23; go_step)
  refine wp_region_lit ?_
  refine h_op (m' := [(71, _), (30, _), (4, _), (3, _), (2, _), (1, _)]) H50 rfl (wn rfl) (R_fa H50 rfl rfl (fa29_11 _ _)) rfl (.cons rfl (.cons rfl (.cons rfl (.cons rfl (.cons rfl (.cons rfl .nil)))))) fun a51 H51 => ?_
  clear H50
  refine h_op (m' := [(72, _), (30, _), (4, _), (3, _), (2, _), (1, _)]) H51 rfl (wn rfl) (R_ld H51 rfl rfl (ld_sl (hL.cl (g := W.heap.size) (A := mcells m (.slice A1 m.owner.length c1) (.slice A2 m.set.length c2)) (t := 29) (by simp) 20))) rfl (.cons rfl (.cons rfl (.cons rfl (.cons rfl (.cons rfl (.cons rfl .nil)))))) fun a52 H52 => ?_
  clear H51
  refine h_op (m' := [(73, _), (72, _), (30, _), (4, _), (3, _), (2, _), (1, _)]) H52 rfl (wn rfl) (R_fa H52 rfl rfl (fa29_11 _ _)) rfl (.cons rfl (.cons rfl (.cons rfl (.cons rfl (.cons rfl (.cons rfl (.cons rfl .nil))))))) fun a53 H53 => ?_
  clear H52
  refine h_stL [(w2.heap.size, mcells { PMsg.zero with kind := 6, move := m.move, part := m.part, n := m.n, set := m.set } (.slice none 0 0) (.slice A2 m.set.length c2), 29), (w23.heap.size, #[.int .i64 m.isrc, .int .i64 m.iseq, .int .i64 0, .int .u8 0, .string .empty, .int .i64 0, .int .i64 0, .int .i64 0], 24), (w1.heap.size, zcells, 29), (W.heap.size, mcells m (.slice A1 m.owner.length c1) (.slice A2 m.set.length c2), 29)] H53 rfl (wn rfl) (R_st H53 rfl rfl rfl (st_sl hL rfl)) (hL.put 20 _) fun a54 w54 H54 hL' => ?_
  replace hL := hL'
  clear H53 hL'
  refine h_end ?_
  repeat (go_not_at_region 38; go_step)
  refine wp_region_lit ?_
  refine h_op (m' := [(109, _), (2, _)]) H54 rfl (wn rfl) (R_ld H54 rfl rfl (ld_row hL.at_)) rfl (.cons rfl (.cons rfl .nil)) fun a55 H55 => ?_
  clear H54
  refine h_stL [(w1.heap.size, mcells { PMsg.zero with kind := 6, move := m.move, part := m.part, n := m.n, set := m.set } (.slice none 0 0) (.slice A2 m.set.length c2), 29), (w2.heap.size, mcells { PMsg.zero with kind := 6, move := m.move, part := m.part, n := m.n, set := m.set } (.slice none 0 0) (.slice A2 m.set.length c2), 29), (w23.heap.size, #[.int .i64 m.isrc, .int .i64 m.iseq, .int .i64 0, .int .u8 0, .string .empty, .int .i64 0, .int .i64 0, .int .i64 0], 24), (W.heap.size, mcells m (.slice A1 m.owner.length c1) (.slice A2 m.set.length c2), 29)] H55 rfl (wn rfl) (R_st H55 rfl rfl rfl (st_row (m2 := .zero) (vo2 := .slice none 0 0) (vs2 := .slice none 0 0) (hL.mem_at (by simp)) (mcells_one rfl rfl))) (hL.third.row _) fun a56 w56 H56 hL' => ?_
  replace hL := hL'
  clear H55 hL'
  refine h_end ?_
  repeat (go_not_at_region 999; go_step)
  have ho' : onlyM m = { PMsg.zero with kind := 6, move := m.move, part := m.part, n := m.n, set := m.set } := by
    unfold onlyM
    rw [hc]
    rfl
  refine bodyPost_ret (v := .agg (mcells { PMsg.zero with kind := 6, move := m.move, part := m.part, n := m.n, set := m.set } (.slice none 0 0) (.slice A2 m.set.length c2))) (only_results (H56.getD rfl) hL.at_) H56.1 ⟨(.slice none 0 0), (.slice A2 m.set.length c2), by rw [ho'], ?_, ?_, hL.1⟩
  · intro w h; rw [ho']; exact .inl ⟨rfl, rfl⟩
  · intro w h; rw [ho']; exact h
end
end Go.Proofs.Ytmmhchpilcjflaa
