/-
  Loads and stores of a message's and an item's fields.
-/
import Derived.Test.YtmmhchpilcjflaaMsgBk
import Derived.Test.YtmmhchpilcjflaaFr
import Derived.Deep.Cut
set_option linter.unusedSimpArgs false
set_option linter.unusedVariables false
namespace Go.Proofs.Ytmmhchpilcjflaa
open Go.RowKit

theorem Live.cl {w0 W : World} {L : List Blk} (h : Live w0 L W) {g : Nat} {A : Array Value} {t : TypeId} (hm : (g, A, t) ∈ L) (i : Nat) : W.cell? ⟨g, i, none⟩ = A[i]? := cells_at (h.mem_at hm) i
theorem fa24_0 (g : Nat) (w : World) : (Instr.fieldAt 24 (.pointer (some ⟨g, 9, none⟩)) 0).run Try.prog w = .ok (.pointer (some ⟨g, 9, none⟩)) w := by simp [go_sem]
theorem fa24_1 (g : Nat) (w : World) : (Instr.fieldAt 24 (.pointer (some ⟨g, 9, none⟩)) 1).run Try.prog w = .ok (.pointer (some ⟨g, 10, none⟩)) w := by simp [go_sem]
theorem ld_sl {w : World} {a : Addr} {p : Option Addr} {l c : Nat} (h : w.cell? a = some (.slice p l c)) : (Instr.loadAt 25 (.pointer (some a))).run Try.prog w = .ok (.slice p l c) w := by simp [go_sem, h]
theorem ld_tab {w : World} {g : Nat} {x0 x1 : Int} {p : Option Addr} {l c : Nat} (h0 : w.cell? ⟨g, 17, none⟩ = some (.int .i64 x0)) (h1 : w.cell? ⟨g, 18, none⟩ = some (.int .i64 x1)) (h2 : w.cell? ⟨g, 19, none⟩ = some (.slice p l c)) :
    (Instr.loadAt 27 (.pointer (some ⟨g, 17, none⟩))).run Try.prog w = .ok (.agg #[.int .i64 x0, .int .i64 x1, .slice p l c]) w := by
  simp [go_sem, h0, h1, h2]
theorem ld_short {w : World} {g : Nat} {x0 x1 x2 x3 x5 x6 x7 : Int} {x4 : ByteArray} (h0 : w.cell? ⟨g, 0, none⟩ = some (.int .i64 x0)) (h1 : w.cell? ⟨g, 1, none⟩ = some (.int .i64 x1)) (h2 : w.cell? ⟨g, 2, none⟩ = some (.int .i64 x2)) (h3 : w.cell? ⟨g, 3, none⟩ = some (.int .u8 x3)) (h4 : w.cell? ⟨g, 4, none⟩ = some (.string x4)) (h5 : w.cell? ⟨g, 5, none⟩ = some (.int .i64 x5)) (h6 : w.cell? ⟨g, 6, none⟩ = some (.int .i64 x6)) (h7 : w.cell? ⟨g, 7, none⟩ = some (.int .i64 x7)) :
    (Instr.loadAt 24 (.pointer (some ⟨g, 0, none⟩))).run Try.prog w = .ok (.agg #[.int .i64 x0, .int .i64 x1, .int .i64 x2, .int .u8 x3, .string x4, .int .i64 x5, .int .i64 x6, .int .i64 x7]) w := by
  simp [go_sem, h0, h1, h2, h3, h4, h5, h6, h7]
section
variable {w0 w : World} {L : List Blk} {g i : Nat} {A : Array Value} {T : TypeId} {v : Value}
theorem st_int {x old : Int} (h : Live w0 ((g, A, T) :: L) w) (hc : A[i]? = some (.int .i64 old)) : (Instr.storeAt 3 (.pointer (some ⟨g, i, none⟩)) (.int .i64 x)).run Try.prog w = .ok () (w.setCell ⟨g, i, none⟩ (.int .i64 x)) := by
  have hc2 := (h.cell i).trans hc
  have hz := h.thaw i
  simp [go_sem, hc2, hz]
theorem st_i64c {x old : Int} (h : Live w0 ((g, A, T) :: L) w) (hc : A[i]? = some (.int .i64 old)) : (Instr.storeAt 2 (.pointer (some ⟨g, i, none⟩)) (.int .i64 x)).run Try.prog w = .ok () (w.setCell ⟨g, i, none⟩ (.int .i64 x)) := by
  have hc2 := (h.cell i).trans hc
  have hz := h.thaw i
  simp [go_sem, hc2, hz]
theorem st_u64c {x old : Int} (h : Live w0 ((g, A, T) :: L) w) (hc : A[i]? = some (.int .u64 old)) : (Instr.storeAt 22 (.pointer (some ⟨g, i, none⟩)) (.int .u64 x)).run Try.prog w = .ok () (w.setCell ⟨g, i, none⟩ (.int .u64 x)) := by
  have hc2 := (h.cell i).trans hc
  have hz := h.thaw i
  simp [go_sem, hc2, hz]
theorem st_strc {x old : ByteArray} (h : Live w0 ((g, A, T) :: L) w) (hc : A[i]? = some (.string old)) : (Instr.storeAt 9 (.pointer (some ⟨g, i, none⟩)) (.string x)).run Try.prog w = .ok () (w.setCell ⟨g, i, none⟩ (.string x)) := by
  have hc2 := (h.cell i).trans hc
  have hz := h.thaw i
  simp [go_sem, hc2, hz]
theorem st_sl {p q : Option Addr} {l c l2 c2 : Nat} (h : Live w0 ((g, A, T) :: L) w) (hc : A[i]? = some (.slice q l2 c2)) : (Instr.storeAt 25 (.pointer (some ⟨g, i, none⟩)) (.slice p l c)).run Try.prog w = .ok () (w.setCell ⟨g, i, none⟩ (.slice p l c)) := by
  have hc2 := (h.cell i).trans hc
  have hz := h.thaw i
  simp [go_sem, hc2, hz]
theorem st_item {x0 x1 x2 x3 x5 x6 x7 : Int} {x4 : ByteArray} {y0 y1 y2 y3 y5 y6 y7 : Int} {y4 : ByteArray} (h : Live w0 ((g, A, T) :: L) w) (h0 : A[9]? = some (.int .i64 y0)) (h1 : A[10]? = some (.int .i64 y1)) (h2 : A[11]? = some (.int .i64 y2)) (h3 : A[12]? = some (.int .u8 y3)) (h4 : A[13]? = some (.string y4)) (h5 : A[14]? = some (.int .i64 y5)) (h6 : A[15]? = some (.int .i64 y6)) (h7 : A[16]? = some (.int .i64 y7)) :
    (Instr.storeAt 24 (.pointer (some ⟨g, 9, none⟩)) (.agg #[.int .i64 x0, .int .i64 x1, .int .i64 x2, .int .u8 x3, .string x4, .int .i64 x5, .int .i64 x6, .int .i64 x7])).run Try.prog w = .ok () ((((((((w.setCell ⟨g, 9, none⟩ (.int .i64 x0)).setCell ⟨g, 10, none⟩ (.int .i64 x1)).setCell ⟨g, 11, none⟩ (.int .i64 x2)).setCell ⟨g, 12, none⟩ (.int .u8 x3)).setCell ⟨g, 13, none⟩ (.string x4)).setCell ⟨g, 14, none⟩ (.int .i64 x5)).setCell ⟨g, 15, none⟩ (.int .i64 x6)).setCell ⟨g, 16, none⟩ (.int .i64 x7)) := by
  have c0 := (h.cell 9).trans h0
  have c1 := (h.cell 10).trans h1
  have c2 := (h.cell 11).trans h2
  have c3 := (h.cell 12).trans h3
  have c4 := (h.cell 13).trans h4
  have c5 := (h.cell 14).trans h5
  have c6 := (h.cell 15).trans h6
  have c7 := (h.cell 16).trans h7
  have z0 := h.thaw 9
  have z1 := h.thaw 10
  have z2 := h.thaw 11
  have z3 := h.thaw 12
  have z4 := h.thaw 13
  have z5 := h.thaw 14
  have z6 := h.thaw 15
  have z7 := h.thaw 16
  simp [go_sem, c0, c1, c2, c3, c4, c5, c6, c7, z0, z1, z2, z3, z4, z5, z6, z7]
theorem Live.put8 (h : Live w0 ((g, A, T) :: L) w) (x0 x1 x2 x3 x4 x5 x6 x7 : Value) : Live w0 ((g, (((((((A.setIfInBounds 9 x0).setIfInBounds 10 x1).setIfInBounds 11 x2).setIfInBounds 12 x3).setIfInBounds 13 x4).setIfInBounds 14 x5).setIfInBounds 15 x6).setIfInBounds 16 x7, T) :: L)
    ((((((((w.setCell ⟨g, 9, none⟩ x0).setCell ⟨g, 10, none⟩ x1).setCell ⟨g, 11, none⟩ x2).setCell ⟨g, 12, none⟩ x3).setCell ⟨g, 13, none⟩ x4).setCell ⟨g, 14, none⟩ x5).setCell ⟨g, 15, none⟩ x6).setCell ⟨g, 16, none⟩ x7) :=
  (((((((h.put 9 x0).put 10 x1).put 11 x2).put 12 x3).put 13 x4).put 14 x5).put 15 x6).put 16 x7
theorem st_tab {x0 x1 y0 y1 : Int} {p q : Option Addr} {l c l2 c2 : Nat} (h : Live w0 ((g, A, T) :: L) w) (h0 : A[17]? = some (.int .i64 y0)) (h1 : A[18]? = some (.int .i64 y1)) (h2 : A[19]? = some (.slice q l2 c2)) :
    (Instr.storeAt 27 (.pointer (some ⟨g, 17, none⟩)) (.agg #[.int .i64 x0, .int .i64 x1, .slice p l c])).run Try.prog w = .ok () (((w.setCell ⟨g, 17, none⟩ (.int .i64 x0)).setCell ⟨g, 18, none⟩ (.int .i64 x1)).setCell ⟨g, 19, none⟩ (.slice p l c)) := by
  have e0 := (h.cell 17).trans h0
  have e1 := (h.cell 18).trans h1
  have e2 := (h.cell 19).trans h2
  have z0 := h.thaw 17
  have z1 := h.thaw 18
  have z2 := h.thaw 19
  simp [go_sem, e0, e1, e2, z0, z1, z2]
variable {M : PMsg} {vo vs : Value}
theorem st_itemM {x0 x1 x2 x5 x6 x7 : Int} {x3 : Nat} {x4 : ByteArray} (h : Live w0 ((g, mcells M vo vs, T) :: L) w) :
    (Instr.storeAt 24 (.pointer (some ⟨g, 9, none⟩)) (.agg #[.int .i64 x0, .int .i64 x1, .int .i64 x2, .int .u8 (x3 : Nat), .string x4, .int .i64 x5, .int .i64 x6, .int .i64 x7])).run Try.prog w = .ok () ((((((((w.setCell ⟨g, 9, none⟩ (.int .i64 x0)).setCell ⟨g, 10, none⟩ (.int .i64 x1)).setCell ⟨g, 11, none⟩ (.int .i64 x2)).setCell ⟨g, 12, none⟩ (.int .u8 (x3 : Nat))).setCell ⟨g, 13, none⟩ (.string x4)).setCell ⟨g, 14, none⟩ (.int .i64 x5)).setCell ⟨g, 15, none⟩ (.int .i64 x6)).setCell ⟨g, 16, none⟩ (.int .i64 x7)) :=
  st_item h rfl rfl rfl rfl rfl rfl rfl rfl
theorem Live.itemM (h : Live w0 ((g, mcells M vo vs, T) :: L) w) (x0 x1 x2 : Int) (x3 : Nat) (x4 : ByteArray) (x5 x6 x7 : Int) : Live w0 ((g, mcells { M with isrc := x0, iseq := x1, ilow := x2, ikind := x3, ikey := x4, ipart := x5, iat := x6, iN := x7 } vo vs, T) :: L)
    ((((((((w.setCell ⟨g, 9, none⟩ (.int .i64 x0)).setCell ⟨g, 10, none⟩ (.int .i64 x1)).setCell ⟨g, 11, none⟩ (.int .i64 x2)).setCell ⟨g, 12, none⟩ (.int .u8 (x3 : Nat))).setCell ⟨g, 13, none⟩ (.string x4)).setCell ⟨g, 14, none⟩ (.int .i64 x5)).setCell ⟨g, 15, none⟩ (.int .i64 x6)).setCell ⟨g, 16, none⟩ (.int .i64 x7)) := by
  have h8 := h.put8 (.int .i64 x0) (.int .i64 x1) (.int .i64 x2) (.int .u8 (x3 : Nat)) (.string x4) (.int .i64 x5) (.int .i64 x6) (.int .i64 x7)
  simp only [mcells, List.setIfInBounds_toArray, List.set_cons_zero, List.set_cons_succ] at h8 ⊢
  exact h8
theorem st_tabM {x0 x1 : Int} {p q : Option Addr} {l c l2 c2 : Nat} (h : Live w0 ((g, mcells M (.slice q l2 c2) vs, T) :: L) w) :
    (Instr.storeAt 27 (.pointer (some ⟨g, 17, none⟩)) (.agg #[.int .i64 x0, .int .i64 x1, .slice p l c])).run Try.prog w = .ok () (((w.setCell ⟨g, 17, none⟩ (.int .i64 x0)).setCell ⟨g, 18, none⟩ (.int .i64 x1)).setCell ⟨g, 19, none⟩ (.slice p l c)) :=
  st_tab h rfl rfl rfl
theorem Live.tabM (h : Live w0 ((g, mcells M vo vs, T) :: L) w) (x0 x1 : Int) (v : Value) (o : List Int) : Live w0 ((g, mcells { M with epoch := x0, nodes := x1, owner := o } v vs, T) :: L) (((w.setCell ⟨g, 17, none⟩ (.int .i64 x0)).setCell ⟨g, 18, none⟩ (.int .i64 x1)).setCell ⟨g, 19, none⟩ v) := by
  have h8 := ((h.put 17 (.int .i64 x0)).put 18 (.int .i64 x1)).put 19 v
  simp only [mcells, List.setIfInBounds_toArray, List.set_cons_zero, List.set_cons_succ] at h8 ⊢
  exact h8
end
theorem bd_kind {w : World} {k : Nat} : (Instr.build 29 #[(0, .int .u8 (k : Nat))]).run Try.prog w = .ok (.agg (mcells { PMsg.zero with kind := k } (.slice none 0 0) (.slice none 0 0))) w := by
  simp [go_sem]
  rfl
theorem ld_u8k {w : World} {a : Addr} {k c : Nat} (h : w.cell? a = some (.int .u8 (k : Nat))) (e : k = c) : (Instr.loadAt 5 (.pointer (some a))).run Try.prog w = .ok (.int .u8 (c : Nat)) w := by subst e; exact ld_u8 h
theorem B8_eq {X Y : Operand} {w : World} (x y : Int) : ((do eqGuard .eql 5 X Y (.int .u8 x) (.int .u8 y); binOp .eql 5 (.int .u8 x) (.int .u8 y)) : Sem Value).run Try.prog w = .ok (.bool (x == y)) w := by simp [go_sem]
theorem B8_ge {X Y : Operand} {w : World} (x y : Int) : ((do eqGuard .geq 5 X Y (.int .u8 x) (.int .u8 y); binOp .geq 5 (.int .u8 x) (.int .u8 y)) : Sem Value).run Try.prog w = .ok (.bool (decide (x ≥ y))) w := by simp [go_sem]
theorem B8_le {X Y : Operand} {w : World} (x y : Int) : ((do eqGuard .leq 5 X Y (.int .u8 x) (.int .u8 y); binOp .leq 5 (.int .u8 x) (.int .u8 y)) : Sem Value).run Try.prog w = .ok (.bool (decide (x ≤ y))) w := by simp [go_sem]
theorem B8_lt {X Y : Operand} {w : World} (x y : Int) : ((do eqGuard .lss 5 X Y (.int .u8 x) (.int .u8 y); binOp .lss 5 (.int .u8 x) (.int .u8 y)) : Sem Value).run Try.prog w = .ok (.bool (decide (x < y))) w := by simp [go_sem]
theorem B8_gt {X Y : Operand} {w : World} (x y : Int) : ((do eqGuard .gtr 5 X Y (.int .u8 x) (.int .u8 y); binOp .gtr 5 (.int .u8 x) (.int .u8 y)) : Sem Value).run Try.prog w = .ok (.bool (decide (x > y))) w := by simp [go_sem]
theorem bd_short {w : World} {x y : Int} : (Instr.build 24 #[(0, .int .i64 x), (1, .int .i64 y)]).run Try.prog w = .ok (.agg #[.int .i64 x, .int .i64 y, .int .i64 0, .int .u8 0, .string .empty, .int .i64 0, .int .i64 0, .int .i64 0]) w := by
  simp [go_sem]
  rfl
theorem al_item {w : World} : (Instr.alloc 24 true (.tuple #[])).run Try.prog w = .ok (.pointer (some ⟨w.heap.size, 0, none⟩)) (w.alloc (.cells #[.int .i64 0, .int .i64 0, .int .i64 0, .int .u8 0, .string .empty, .int .i64 0, .int .i64 0, .int .i64 0] 24)) := by
  simp [go_sem]
  rfl
theorem only_results {tmps : Array Value} {w : World} {g : Nat} {m : PMsg} {vo vs : Value} (hp : tmps.getD 2 undef = .pointer (some ⟨g, 0, none⟩)) (hg : w.heap[g]? = some (.cells (mcells m vo vs) 29 (0, 0))) :
    (results Try.f18 tmps).run Try.prog w = .ok (.agg (mcells m vo vs)) w :=
  results_cell_row rfl _ _ g 29 _ (0, 0) _ hp hg Try.underlying29 rfl (mcells_info _ _ _)
section
variable {W : World} {m : PMsg} {vo vs : Value}
theorem info24 : (Try.prog.info? 24).map (·.size) = some 8 := by kernel_rfl
theorem st_short {w0 w : World} {L : List Blk} {g : Nat} {x0 x1 x2 x3 x5 x6 x7 : Int} {x4 : ByteArray} (h : Live w0 ((g, #[.int .i64 0, .int .i64 0, .int .i64 0, .int .u8 0, .string .empty, .int .i64 0, .int .i64 0, .int .i64 0], 24) :: L) w) :
    (Instr.storeAt 24 (.pointer (some ⟨g, 0, none⟩)) (.agg #[.int .i64 x0, .int .i64 x1, .int .i64 x2, .int .u8 x3, .string x4, .int .i64 x5, .int .i64 x6, .int .i64 x7])).run Try.prog w = .ok () (w.setRow g #[.int .i64 x0, .int .i64 x1, .int .i64 x2, .int .u8 x3, .string x4, .int .i64 x5, .int .i64 x6, .int .i64 x7]) := by
  simp only [Instr.storeAt, Instr.sureAddr, Sem.run_bind, Sem.run_pure, Result.andThen_ok, run_storeVar_row w g 24 24 _ #[.int .i64 x0, .int .i64 x1, .int .i64 x2, .int .u8 x3, .string x4, .int .i64 x5, .int .i64 x6, .int .i64 x7] h.at_ info24 rfl (by simp only [List.all_toArray, List.all_cons, List.all_nil, Bool.and_true]; rfl)]
theorem prs_big {c : Nat} (h : 14 < c) : prs c = [] := by
  obtain ⟨k, rfl⟩ : ∃ k, c = k + 15 := ⟨c - 15, by omega⟩
  rfl
end
theorem B_le {t : TypeId} (ht : Try.prog.underlying t = some (.int .i64)) {X Y : Operand} {w : World} (x y : Int) : ((do eqGuard .leq t X Y (.int .i64 x) (.int .i64 y); binOp .leq t (.int .i64 x) (.int .i64 y)) : Sem Value).run Try.prog w = .ok (.bool (decide (x ≤ y))) w := by simp [go_sem, ht]
theorem ix_at {w : World} {ad : Addr} {n c j : Nat} (h : j < n) : (Instr.indexAt 25 (.slice (some ad) n c) (.int .i64 (j : Nat))).run Try.prog w = .ok (.pointer (some (ad.add j))) w := by
  simp [go_sem, h]
theorem B_add {t : TypeId} (ht : Try.prog.underlying t = some (.int .i64)) {X Y : Operand} {w : World} (x y : Int) (h0 : -9223372036854775808 ≤ x + y) (h1 : x + y < 9223372036854775808) : ((do eqGuard .add t X Y (.int .i64 x) (.int .i64 y); binOp .add t (.int .i64 x) (.int .i64 y)) : Sem Value).run Try.prog w = .ok (.int .i64 (x + y)) w := by
  have e : IntKind.i64.wrap (x + y) = x + y := i64_id h0 h1
  simp [go_sem, ht, e]
section
variable {w0 W : World} {L : List Blk} {m : PMsg} {vo vs : Value} {l : List Int} {v : Value}
abbrev icells (m : PMsg) : Array Value := #[.int .i64 m.isrc, .int .i64 m.iseq, .int .i64 m.ilow, .int .u8 m.ikind, .string m.ikey, .int .i64 m.ipart, .int .i64 m.iat, .int .i64 m.iN]
theorem bx_item {w : World} : (Instr.box 24 (.agg (icells m))).run Try.prog w = .ok (.pointer (some ⟨w.heap.size, 0, none⟩)) (w.alloc (.cells (icells m) 24)) := by
  simp [go_sem]
theorem fi_0 (g : Nat) (w : World) : (Instr.fieldAt 24 (.pointer (some ⟨g, 0, none⟩)) 0).run Try.prog w = .ok (.pointer (some ⟨g, 0, none⟩)) w := by simp [go_sem]
theorem fi_1 (g : Nat) (w : World) : (Instr.fieldAt 24 (.pointer (some ⟨g, 0, none⟩)) 1).run Try.prog w = .ok (.pointer (some ⟨g, 1, none⟩)) w := by simp [go_sem]
theorem fi_2 (g : Nat) (w : World) : (Instr.fieldAt 24 (.pointer (some ⟨g, 0, none⟩)) 2).run Try.prog w = .ok (.pointer (some ⟨g, 2, none⟩)) w := by simp [go_sem]
theorem fi_4 (g : Nat) (w : World) : (Instr.fieldAt 24 (.pointer (some ⟨g, 0, none⟩)) 4).run Try.prog w = .ok (.pointer (some ⟨g, 4, none⟩)) w := by simp [go_sem]
theorem fi_5 (g : Nat) (w : World) : (Instr.fieldAt 24 (.pointer (some ⟨g, 0, none⟩)) 5).run Try.prog w = .ok (.pointer (some ⟨g, 5, none⟩)) w := by simp [go_sem]
theorem fi_3 (g : Nat) (w : World) : (Instr.fieldAt 24 (.pointer (some ⟨g, 0, none⟩)) 3).run Try.prog w = .ok (.pointer (some ⟨g, 3, none⟩)) w := by simp [go_sem]
theorem fi_6 (g : Nat) (w : World) : (Instr.fieldAt 24 (.pointer (some ⟨g, 0, none⟩)) 6).run Try.prog w = .ok (.pointer (some ⟨g, 6, none⟩)) w := by simp [go_sem]
theorem fi_7 (g : Nat) (w : World) : (Instr.fieldAt 24 (.pointer (some ⟨g, 0, none⟩)) 7).run Try.prog w = .ok (.pointer (some ⟨g, 7, none⟩)) w := by simp [go_sem]
end
end Go.Proofs.Ytmmhchpilcjflaa
