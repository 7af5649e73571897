/-
  The document's numbers, texts and lists of layers 2 and 4, for items alone.
-/
import Derived.Test.YthkeiclhllikjaaGreatSvC
import Derived.Test.YthkeiclhllikjaaGreatMsgFk
import Derived.Deep.Cut
import Derived.Laws.IdiomStrings
set_option linter.unusedSimpArgs false
set_option linter.unusedVariables false
namespace Go.Proofs.YthkeiclhllikjaaGreat.R
open Go.RowKit
section
variable {w0 W : World} {L : List Blk} {m : PMsg} {vo vs : Value} {b d : ByteArray}
theorem ld_row {w : World} {g : Nat} (hg : w.heap[g]? = some (.cells (mcells m vo vs) 37 (0, 0))) : (Instr.loadAt 37 (.pointer (some ⟨g, 0, none⟩))).run Tryz.prog w = .ok (.agg (mcells m vo vs)) w := by
 simp only [Instr.loadAt, Instr.sureAddr, Sem.run_bind, Sem.run_pure, Result.andThen_ok, run_loadVar_row w g 37 37 (mcells m vo vs) (0, 0) _ hg Tryz.underlying37 rfl (mcells_info _ _ _)]
theorem st_row {w : World} {g : Nat} {m2 : PMsg} {vo2 vs2 : Value} (hg : w.heap[g]? = some (.cells (mcells m2 vo2 vs2) 37 (0, 0))) (h1 : (mcells m vo vs).all (·.oneCell') = true) : (Instr.storeAt 37 (.pointer (some ⟨g, 0, none⟩)) (.agg (mcells m vo vs))).run Tryz.prog w = .ok () (w.setRow g (mcells m vo vs)) := by
 simp only [Instr.storeAt, Instr.sureAddr, Sem.run_bind, Sem.run_pure, Result.andThen_ok, run_storeVar_row w g 37 37 (mcells m2 vo2 vs2) (mcells m vo vs) hg (mcells_info _ _ _) rfl h1]
theorem al_row {w : World} : (Instr.alloc 37 true (.tuple #[])).run Tryz.prog w = .ok (.pointer (some ⟨w.heap.size, 0, none⟩)) (w.alloc (.cells zcells 37)) := by
 simp [go_sem]
 rfl
theorem bx_row {w : World} : (Instr.box 37 (.agg (mcells m vo vs))).run Tryz.prog w = .ok (.pointer (some ⟨w.heap.size, 0, none⟩)) (w.alloc (.cells (mcells m vo vs) 37)) := by
 simp [go_sem]
theorem B_ne {t : TypeId} (ht : Tryz.prog.underlying t = some (.int .i64)) {X Y : Operand} {w : World} (x y : Int) : ((do eqGuard .neq t X Y (.int .i64 x) (.int .i64 y); binOp .neq t (.int .i64 x) (.int .i64 y)) : Sem Value).run Tryz.prog w = .ok (.bool (x != y)) w := by simp [go_sem, ht]
theorem B_gt {t : TypeId} (ht : Tryz.prog.underlying t = some (.int .i64)) {X Y : Operand} {w : World} (x y : Int) : ((do eqGuard .gtr t X Y (.int .i64 x) (.int .i64 y); binOp .gtr t (.int .i64 x) (.int .i64 y)) : Sem Value).run Tryz.prog w = .ok (.bool (decide (x > y))) w := by simp [go_sem, ht]
theorem B_neb {X Y : Operand} {w : World} (x y : Bool) : ((do eqGuard .neq 4 X Y (.bool x) (.bool y); binOp .neq 4 (.bool x) (.bool y)) : Sem Value).run Tryz.prog w = .ok (.bool (x != y)) w := by cases x <;> cases y <;> simp [go_sem]
theorem B_to {s : Sem Value} {w w' : World} {x y : Bool} (h : s.run Tryz.prog w = .ok (.bool x) w') (e : x = y) : s.run Tryz.prog w = .ok (.bool y) w' := e ▸ h
theorem B_ge {t : TypeId} (ht : Tryz.prog.underlying t = some (.int .i64)) {X Y : Operand} {w : World} (x y : Int) : ((do eqGuard .geq t X Y (.int .i64 x) (.int .i64 y); binOp .geq t (.int .i64 x) (.int .i64 y)) : Sem Value).run Tryz.prog w = .ok (.bool (decide (x ≥ y))) w := by simp [go_sem, ht]
theorem B_lt {t : TypeId} (ht : Tryz.prog.underlying t = some (.int .i64)) {X Y : Operand} {w : World} (x y : Int) : ((do eqGuard .lss t X Y (.int .i64 x) (.int .i64 y); binOp .lss t (.int .i64 x) (.int .i64 y)) : Sem Value).run Tryz.prog w = .ok (.bool (decide (x < y))) w := by simp [go_sem, ht]
theorem bs_u8 {w : World} (x : Int) : (Instr.buildSlice 72 1 #[(0, .int .u8 x)]).run Tryz.prog w = .ok (.slice (some ⟨w.heap.size, 0, none⟩) 1 1) (w.alloc (.cells #[.int .u8 x] 5)) := by
 simp [go_sem]
theorem B_cat {X Y : Operand} {w : World} (x y : ByteArray) (h : x.size + y.size ≤ 100000) : ((do eqGuard .add 9 X Y (.string x) (.string y); binOp .add 9 (.string x) (.string y)) : Sem Value).run Tryz.prog w = .ok (.string (x ++ y)) w := by
 simp [go_sem]
 omega
theorem cv_u8 {w : World} {L : List Blk} {x g : Nat} (hx : x < 256) (h : Live w0 ((g, #[.int .u8 (x : Nat)], 5) :: L) w) : (convert 72 9 (.slice (some ⟨g, 0, none⟩) 1 1)).run Tryz.prog w = .ok (.string (packL [x])) w := by
 have hr : RowIs 5 (.slice (some ⟨g, 0, none⟩) 1 1) (u8s [x]) [(g, #[.int .u8 (x : Nat)], 5)] := .inr ⟨g, 1, #[.int .u8 (x : Nat)], rfl, rfl, by simp [u8s], by unfold maxLen; omega, rfl, rfl⟩
 exact string_run hr (B := [(g, #[.int .u8 (x : Nat)], 5)]) h (by simpa using hx)
end
theorem _root_.Go.Proofs.YthkeiclhllikjaaGreat.Live.cl {w0 W : World} {L : List Blk} (h : Live w0 L W) {g : Nat} {A : Array Value} {t : TypeId} (hm : (g, A, t) ∈ L) (i : Nat) : W.cell? ⟨g, i, none⟩ = A[i]? := cells_at (h.mem_at hm) i
theorem fa24_0 (g : Nat) (w : World) : (Instr.fieldAt 33 (.pointer (some ⟨g, 9, none⟩)) 0).run Tryz.prog w = .ok (.pointer (some ⟨g, 9, none⟩)) w := by simp [go_sem]
theorem fa24_1 (g : Nat) (w : World) : (Instr.fieldAt 33 (.pointer (some ⟨g, 9, none⟩)) 1).run Tryz.prog w = .ok (.pointer (some ⟨g, 10, none⟩)) w := by simp [go_sem]
theorem ld_sl {w : World} {a : Addr} {p : Option Addr} {l c : Nat} (h : w.cell? a = some (.slice p l c)) : (Instr.loadAt 26 (.pointer (some a))).run Tryz.prog w = .ok (.slice p l c) w := by simp [go_sem, h]
section
variable {w0 w : World} {L : List Blk} {g i : Nat} {A : Array Value} {T : TypeId} {v : Value}
theorem st_item {x0 x1 x2 x3 x5 x6 x7 : Int} {x4 : ByteArray} {y0 y1 y2 y3 y5 y6 y7 : Int} {y4 : ByteArray} (h : Live w0 ((g, A, T) :: L) w) (h0 : A[9]? = some (.int .i64 y0)) (h1 : A[10]? = some (.int .i64 y1)) (h2 : A[11]? = some (.int .i64 y2)) (h3 : A[12]? = some (.int .u8 y3)) (h4 : A[13]? = some (.string y4)) (h5 : A[14]? = some (.int .i64 y5)) (h6 : A[15]? = some (.int .i64 y6)) (h7 : A[16]? = some (.int .i64 y7)) :
  (Instr.storeAt 33 (.pointer (some ⟨g, 9, none⟩)) (.agg #[.int .i64 x0, .int .i64 x1, .int .i64 x2, .int .u8 x3, .string x4, .int .i64 x5, .int .i64 x6, .int .i64 x7])).run Tryz.prog w = .ok () ((((((((w.setCell ⟨g, 9, none⟩ (.int .i64 x0)).setCell ⟨g, 10, none⟩ (.int .i64 x1)).setCell ⟨g, 11, none⟩ (.int .i64 x2)).setCell ⟨g, 12, none⟩ (.int .u8 x3)).setCell ⟨g, 13, none⟩ (.string x4)).setCell ⟨g, 14, none⟩ (.int .i64 x5)).setCell ⟨g, 15, none⟩ (.int .i64 x6)).setCell ⟨g, 16, none⟩ (.int .i64 x7)) := by
 have c0 := (h.cell 9).trans h0
 have c1 := (h.cell 10).trans h1
 have c2 := (h.cell 11).trans h2
 have c3 := (h.cell 12).trans h3
 have c4 := (h.cell 13).trans h4
 have c5 := (h.cell 14).trans h5
 have c6 := (h.cell 15).trans h6
 have c7 := (h.cell 16).trans h7
 have z0 := h.thaw 9
 have z1 := h.thaw 10
 have z2 := h.thaw 11
 have z3 := h.thaw 12
 have z4 := h.thaw 13
 have z5 := h.thaw 14
 have z6 := h.thaw 15
 have z7 := h.thaw 16
 simp [go_sem, c0, c1, c2, c3, c4, c5, c6, c7, z0, z1, z2, z3, z4, z5, z6, z7]
theorem _root_.Go.Proofs.YthkeiclhllikjaaGreat.Live.put8 (h : Live w0 ((g, A, T) :: L) w) (x0 x1 x2 x3 x4 x5 x6 x7 : Value) : Live w0 ((g, (((((((A.setIfInBounds 9 x0).setIfInBounds 10 x1).setIfInBounds 11 x2).setIfInBounds 12 x3).setIfInBounds 13 x4).setIfInBounds 14 x5).setIfInBounds 15 x6).setIfInBounds 16 x7, T) :: L)
  ((((((((w.setCell ⟨g, 9, none⟩ x0).setCell ⟨g, 10, none⟩ x1).setCell ⟨g, 11, none⟩ x2).setCell ⟨g, 12, none⟩ x3).setCell ⟨g, 13, none⟩ x4).setCell ⟨g, 14, none⟩ x5).setCell ⟨g, 15, none⟩ x6).setCell ⟨g, 16, none⟩ x7) :=
 (((((((h.put 9 x0).put 10 x1).put 11 x2).put 12 x3).put 13 x4).put 14 x5).put 15 x6).put 16 x7
variable {M : PMsg} {vo vs : Value}
theorem st_itemM {x0 x1 x2 x5 x6 x7 : Int} {x3 : Nat} {x4 : ByteArray} (h : Live w0 ((g, mcells M vo vs, T) :: L) w) :
  (Instr.storeAt 33 (.pointer (some ⟨g, 9, none⟩)) (.agg #[.int .i64 x0, .int .i64 x1, .int .i64 x2, .int .u8 (x3 : Nat), .string x4, .int .i64 x5, .int .i64 x6, .int .i64 x7])).run Tryz.prog w = .ok () ((((((((w.setCell ⟨g, 9, none⟩ (.int .i64 x0)).setCell ⟨g, 10, none⟩ (.int .i64 x1)).setCell ⟨g, 11, none⟩ (.int .i64 x2)).setCell ⟨g, 12, none⟩ (.int .u8 (x3 : Nat))).setCell ⟨g, 13, none⟩ (.string x4)).setCell ⟨g, 14, none⟩ (.int .i64 x5)).setCell ⟨g, 15, none⟩ (.int .i64 x6)).setCell ⟨g, 16, none⟩ (.int .i64 x7)) :=
 st_item h rfl rfl rfl rfl rfl rfl rfl rfl
theorem _root_.Go.Proofs.YthkeiclhllikjaaGreat.Live.itemM (h : Live w0 ((g, mcells M vo vs, T) :: L) w) (x0 x1 x2 : Int) (x3 : Nat) (x4 : ByteArray) (x5 x6 x7 : Int) : Live w0 ((g, mcells { M with isrc := x0, iseq := x1, ilow := x2, ikind := x3, ikey := x4, ipart := x5, iat := x6, iN := x7 } vo vs, T) :: L)
  ((((((((w.setCell ⟨g, 9, none⟩ (.int .i64 x0)).setCell ⟨g, 10, none⟩ (.int .i64 x1)).setCell ⟨g, 11, none⟩ (.int .i64 x2)).setCell ⟨g, 12, none⟩ (.int .u8 (x3 : Nat))).setCell ⟨g, 13, none⟩ (.string x4)).setCell ⟨g, 14, none⟩ (.int .i64 x5)).setCell ⟨g, 15, none⟩ (.int .i64 x6)).setCell ⟨g, 16, none⟩ (.int .i64 x7)) := by
 have h8 := h.put8 (.int .i64 x0) (.int .i64 x1) (.int .i64 x2) (.int .u8 (x3 : Nat)) (.string x4) (.int .i64 x5) (.int .i64 x6) (.int .i64 x7)
 simp only [mcells, List.setIfInBounds_toArray, List.set_cons_zero, List.set_cons_succ] at h8 ⊢
 exact h8
end
theorem bd_kind {w : World} {k : Nat} : (Instr.build 37 #[(0, .int .u8 (k : Nat))]).run Tryz.prog w = .ok (.agg (mcells { PMsg.zero with kind := k } (.slice none 0 0) (.slice none 0 0))) w := by
 simp [go_sem]
 rfl
theorem ld_u8k {w : World} {a : Addr} {k c : Nat} (h : w.cell? a = some (.int .u8 (k : Nat))) (e : k = c) : (Instr.loadAt 5 (.pointer (some a))).run Tryz.prog w = .ok (.int .u8 (c : Nat)) w := by subst e; exact ld_u8 h
theorem B8_eq {X Y : Operand} {w : World} (x y : Int) : ((do eqGuard .eql 5 X Y (.int .u8 x) (.int .u8 y); binOp .eql 5 (.int .u8 x) (.int .u8 y)) : Sem Value).run Tryz.prog w = .ok (.bool (x == y)) w := by simp [go_sem]
theorem B8_ge {X Y : Operand} {w : World} (x y : Int) : ((do eqGuard .geq 5 X Y (.int .u8 x) (.int .u8 y); binOp .geq 5 (.int .u8 x) (.int .u8 y)) : Sem Value).run Tryz.prog w = .ok (.bool (decide (x ≥ y))) w := by simp [go_sem]
theorem B8_lt {X Y : Operand} {w : World} (x y : Int) : ((do eqGuard .lss 5 X Y (.int .u8 x) (.int .u8 y); binOp .lss 5 (.int .u8 x) (.int .u8 y)) : Sem Value).run Tryz.prog w = .ok (.bool (decide (x < y))) w := by simp [go_sem]
theorem B8_gt {X Y : Operand} {w : World} (x y : Int) : ((do eqGuard .gtr 5 X Y (.int .u8 x) (.int .u8 y); binOp .gtr 5 (.int .u8 x) (.int .u8 y)) : Sem Value).run Tryz.prog w = .ok (.bool (decide (x > y))) w := by simp [go_sem]
theorem bd_short {w : World} {x y : Int} : (Instr.build 33 #[(0, .int .i64 x), (1, .int .i64 y)]).run Tryz.prog w = .ok (.agg #[.int .i64 x, .int .i64 y, .int .i64 0, .int .u8 0, .string .empty, .int .i64 0, .int .i64 0, .int .i64 0]) w := by
 simp [go_sem]
 rfl
theorem al_item {w : World} : (Instr.alloc 33 true (.tuple #[])).run Tryz.prog w = .ok (.pointer (some ⟨w.heap.size, 0, none⟩)) (w.alloc (.cells #[.int .i64 0, .int .i64 0, .int .i64 0, .int .u8 0, .string .empty, .int .i64 0, .int .i64 0, .int .i64 0] 33)) := by
 simp [go_sem]
 rfl
theorem only_results {tmps : Array Value} {w : World} {g : Nat} {m : PMsg} {vo vs : Value} (hp : tmps.getD 2 undef = .pointer (some ⟨g, 0, none⟩)) (hg : w.heap[g]? = some (.cells (mcells m vo vs) 37 (0, 0))) :
  (results Tryz.f92 tmps).run Tryz.prog w = .ok (.agg (mcells m vo vs)) w :=
 results_cell_row rfl _ _ g 37 _ (0, 0) _ hp hg Tryz.underlying37 rfl (mcells_info _ _ _)
section
variable {W : World} {m : PMsg} {vo vs : Value}
theorem info24 : (Tryz.prog.info? 33).map (·.size) = some 8 := by kernel_rfl
theorem st_short {w0 w : World} {L : List Blk} {g : Nat} {x0 x1 x2 x3 x5 x6 x7 : Int} {x4 : ByteArray} (h : Live w0 ((g, #[.int .i64 0, .int .i64 0, .int .i64 0, .int .u8 0, .string .empty, .int .i64 0, .int .i64 0, .int .i64 0], 33) :: L) w) :
  (Instr.storeAt 33 (.pointer (some ⟨g, 0, none⟩)) (.agg #[.int .i64 x0, .int .i64 x1, .int .i64 x2, .int .u8 x3, .string x4, .int .i64 x5, .int .i64 x6, .int .i64 x7])).run Tryz.prog w = .ok () (w.setRow g #[.int .i64 x0, .int .i64 x1, .int .i64 x2, .int .u8 x3, .string x4, .int .i64 x5, .int .i64 x6, .int .i64 x7]) := by
 simp only [Instr.storeAt, Instr.sureAddr, Sem.run_bind, Sem.run_pure, Result.andThen_ok, run_storeVar_row w g 33 33 _ #[.int .i64 x0, .int .i64 x1, .int .i64 x2, .int .u8 x3, .string x4, .int .i64 x5, .int .i64 x6, .int .i64 x7] h.at_ info24 rfl (by simp only [List.all_toArray, List.all_cons, List.all_nil, Bool.and_true]; rfl)]
end
theorem B_le {t : TypeId} (ht : Tryz.prog.underlying t = some (.int .i64)) {X Y : Operand} {w : World} (x y : Int) : ((do eqGuard .leq t X Y (.int .i64 x) (.int .i64 y); binOp .leq t (.int .i64 x) (.int .i64 y)) : Sem Value).run Tryz.prog w = .ok (.bool (decide (x ≤ y))) w := by simp [go_sem, ht]
theorem ix_at {w : World} {ad : Addr} {n c j : Nat} (h : j < n) : (Instr.indexAt 26 (.slice (some ad) n c) (.int .i64 (j : Nat))).run Tryz.prog w = .ok (.pointer (some (ad.add j))) w := by
 simp [go_sem, h]
theorem B_add {t : TypeId} (ht : Tryz.prog.underlying t = some (.int .i64)) {X Y : Operand} {w : World} (x y : Int) (h0 : -9223372036854775808 ≤ x + y) (h1 : x + y < 9223372036854775808) : ((do eqGuard .add t X Y (.int .i64 x) (.int .i64 y); binOp .add t (.int .i64 x) (.int .i64 y)) : Sem Value).run Tryz.prog w = .ok (.int .i64 (x + y)) w := by
 have e : IntKind.i64.wrap (x + y) = x + y := i64_id h0 h1
 simp [go_sem, ht, e]
section
variable {w0 W : World} {L : List Blk} {m : PMsg} {vo vs : Value} {l : List Int} {v : Value}
abbrev icells (m : PMsg) : Array Value := #[.int .i64 m.isrc, .int .i64 m.iseq, .int .i64 m.ilow, .int .u8 m.ikind, .string m.ikey, .int .i64 m.ipart, .int .i64 m.iat, .int .i64 m.iN]
theorem bx_item {w : World} : (Instr.box 33 (.agg (icells m))).run Tryz.prog w = .ok (.pointer (some ⟨w.heap.size, 0, none⟩)) (w.alloc (.cells (icells m) 33)) := by
 simp [go_sem]
theorem fi_0 (g : Nat) (w : World) : (Instr.fieldAt 33 (.pointer (some ⟨g, 0, none⟩)) 0).run Tryz.prog w = .ok (.pointer (some ⟨g, 0, none⟩)) w := by simp [go_sem]
theorem fi_1 (g : Nat) (w : World) : (Instr.fieldAt 33 (.pointer (some ⟨g, 0, none⟩)) 1).run Tryz.prog w = .ok (.pointer (some ⟨g, 1, none⟩)) w := by simp [go_sem]
theorem fi_2 (g : Nat) (w : World) : (Instr.fieldAt 33 (.pointer (some ⟨g, 0, none⟩)) 2).run Tryz.prog w = .ok (.pointer (some ⟨g, 2, none⟩)) w := by simp [go_sem]
theorem fi_4 (g : Nat) (w : World) : (Instr.fieldAt 33 (.pointer (some ⟨g, 0, none⟩)) 4).run Tryz.prog w = .ok (.pointer (some ⟨g, 4, none⟩)) w := by simp [go_sem]
theorem fi_5 (g : Nat) (w : World) : (Instr.fieldAt 33 (.pointer (some ⟨g, 0, none⟩)) 5).run Tryz.prog w = .ok (.pointer (some ⟨g, 5, none⟩)) w := by simp [go_sem]
theorem fi_3 (g : Nat) (w : World) : (Instr.fieldAt 33 (.pointer (some ⟨g, 0, none⟩)) 3).run Tryz.prog w = .ok (.pointer (some ⟨g, 3, none⟩)) w := by simp [go_sem]
theorem fi_6 (g : Nat) (w : World) : (Instr.fieldAt 33 (.pointer (some ⟨g, 0, none⟩)) 6).run Tryz.prog w = .ok (.pointer (some ⟨g, 6, none⟩)) w := by simp [go_sem]
theorem fi_7 (g : Nat) (w : World) : (Instr.fieldAt 33 (.pointer (some ⟨g, 0, none⟩)) 7).run Tryz.prog w = .ok (.pointer (some ⟨g, 7, none⟩)) w := by simp [go_sem]
end
section
variable {w0 w : World} {L : List Blk} {g k j y : Nat} {xs : List Nat} {s : ByteArray}
theorem B32_rem {X Y : Operand} (x : Nat) : ((do eqGuard .rem 113 X Y (.int .u32 (x : Nat)) (.int .u32 100000); binOp .rem 113 (.int .u32 (x : Nat)) (.int .u32 100000)) : Sem Value).run Tryz.prog w = .ok (.int .u32 (x % 100000 : Nat)) w := by
 have e : (x : Int).tmod 100000 = ((x % 100000 : Nat) : Int) := Int.tmod_eq_emod_of_nonneg (by omega)
 simp [go_sem, e]
theorem B32_eq1 {X Y : Operand} (x : Nat) : ((do eqGuard .eql 113 X Y (.int .u32 (x : Nat)) (.int .u32 1); binOp .eql 113 (.int .u32 (x : Nat)) (.int .u32 1)) : Sem Value).run Tryz.prog w = .ok (.bool (decide (x = 1))) w := by
 have e : ((x : Int) = 1) = (x = 1) := propext (by omega)
 have e3 : ((x : Int) == 1) = decide (x = 1) := by
  rw [Bool.eq_iff_iff, beq_iff_eq, decide_eq_true_iff]
  omega
 simp [go_sem, e3]
theorem Bb_eq {X Y : Operand} (x y : Bool) : ((do eqGuard .eql 4 X Y (.bool x) (.bool y); binOp .eql 4 (.bool x) (.bool y)) : Sem Value).run Tryz.prog w = .ok (.bool (x == y)) w := by
 simp [go_sem]
end
section
variable {w : World}
theorem B64_lt {X Y : Operand} (x : Nat) : ((do eqGuard .lss 35 X Y (.int .u64 (x : Nat)) (.int .u64 128); binOp .lss 35 (.int .u64 (x : Nat)) (.int .u64 128)) : Sem Value).run Tryz.prog w = .ok (.bool (decide (x < 128))) w := by
 have e : decide ((x : Int) < 128) = decide (x < 128) := by
  rw [Bool.eq_iff_iff, decide_eq_true_iff, decide_eq_true_iff]
  omega
 simp [go_sem, e]
theorem B64_rem {X Y : Operand} (x : Nat) : ((do eqGuard .rem 35 X Y (.int .u64 (x : Nat)) (.int .u64 128); binOp .rem 35 (.int .u64 (x : Nat)) (.int .u64 128)) : Sem Value).run Tryz.prog w = .ok (.int .u64 (x % 128 : Nat)) w := by
 have e : (x : Int).tmod 128 = ((x % 128 : Nat) : Int) := Int.tmod_eq_emod_of_nonneg (by omega)
 simp [go_sem, e]
theorem B64_quo {X Y : Operand} (x : Nat) (h : x < 18446744073709551616) : ((do eqGuard .quo 35 X Y (.int .u64 (x : Nat)) (.int .u64 128); binOp .quo 35 (.int .u64 (x : Nat)) (.int .u64 128)) : Sem Value).run Tryz.prog w = .ok (.int .u64 (x / 128 : Nat)) w := by
 have e : (x : Int).tdiv 128 = ((x / 128 : Nat) : Int) := Int.tdiv_eq_ediv_of_nonneg (by omega)
 have e2 : IntKind.u64.wrap ((x : Int) / 128) = (x : Int) / 128 := u64_id (by omega) (by omega)
 simp [go_sem, e, e2]
theorem cv64_8 (x : Nat) (h : x < 256) : (convert 35 5 (.int .u64 (x : Nat))).run Tryz.prog w = .ok (.int .u8 (x : Nat)) w := by
 have e : IntKind.u8.wrap (x : Int) = x := by
  unfold IntKind.wrap
  simp [IntKind.signed, IntKind.bits]
  omega
 simp [go_sem, e]
theorem B8_add128 {X Y : Operand} (x : Nat) (h : x < 128) : ((do eqGuard .add 5 X Y (.int .u8 (x : Nat)) (.int .u8 128); binOp .add 5 (.int .u8 (x : Nat)) (.int .u8 128)) : Sem Value).run Tryz.prog w = .ok (.int .u8 (x + 128 : Nat)) w := by
 have e : IntKind.u8.wrap ((x : Int) + 128) = (x : Int) + 128 := by
  unfold IntKind.wrap
  simp [IntKind.signed, IntKind.bits]
  omega
 simp [go_sem, e]
end
theorem packL_app (a b : List Nat) : packL a ++ packL b = packL (a ++ b) := by
 unfold packL
 apply ByteArray.ext
 simp [ByteArray.data_append]
set_option maxHeartbeats 4000000 in
set_option maxRecDepth 100000 in
theorem rNum_any : ∀ (k n : Nat), n ≤ k → n < 18446744073709551616 → ∀ W : World, Calls Tryz.prog 69 #[.int .u64 (n : Nat)] W fun e W' => e = .returned (.string (packL (vbytes n))) ∧ Below W.heap.size W W' := by
 intro k
 induction k using Nat.strongRecOn with
 | _ k ih =>
 intro n hnk hn W
 have hL := Live.init W
 go_enter Tryz.func69, Tryz.ntmps69
 refine wp_fr (n := 19) (m := [(0, _)]) ⟨rfl, rfl, by intro p hp; simp only [List.mem_cons, List.not_mem_nil, or_false] at hp; rcases hp with rfl <;> rfl⟩ fun a0 H0 => ?_
 repeat (go_not_at_region 0; go_step)
 refine wp_region_lit ?_
 refine h_o H0 rfl (R_as H0 rfl rfl) (P1 0 rfl) fun _ H1 => ?_
 refine h_end ?_
 by_cases h1 : n < 128
 ·repeat (go_not_at_region 1; go_step)
  refine wp_region_lit ?_
  refine h_o H1 rfl (R_mv H1 rfl rfl) (P2 3 0 rfl rfl) fun _ H2 => ?_
  refine h_o H2 rfl (R_bin H2 rfl rfl rfl (B_to (y := true) (B64_lt _) (decide_eq_true h1))) (P2 4 0 rfl rfl) fun _ H3 => ?_
  refine h_end ?_
  repeat (go_not_at_region 2; go_step)
  refine wp_cond_true (H3.ev (x := .tmp 4) rfl) ?_
  have hv : vbytes n = [n] := by rw [vbytes, if_pos h1]
  repeat (go_not_at_region 2; go_step)
  refine wp_region_lit ?_
  refine h_o H3 rfl (R_mv H3 rfl rfl) (P1 5 rfl) fun _ H4 => ?_
  refine h_o H4 rfl (R_cv H4 rfl rfl (cv64_8 _ (by omega))) (P1 6 rfl) fun _ H5 => ?_
  refine h_o H5 rfl (R_bs1 H5 rfl rfl (bs_u8 _)) (P1 7 rfl) fun _ H6 => ?_
  replace hL := hL.alloc #[.int .u8 (n : Nat)] 5
  refine h_o H6 rfl (R_cv H6 rfl rfl (cv_u8 (by omega) hL)) (P1 8 rfl) fun _ H7 => ?_
  refine h_o H7 rfl (R_as H7 rfl rfl) (P1 2 rfl) fun _ H8 => ?_
  refine h_end ?_
  repeat (go_not_at_region 999; go_step)
  rw [hv]
  exact H8.ret1 rfl rfl ⟨rfl, hL.1⟩
 ·repeat (go_not_at_region 1; go_step)
  refine wp_region_lit ?_
  refine h_o H1 rfl (R_mv H1 rfl rfl) (P2 3 0 rfl rfl) fun _ H2 => ?_
  refine h_o H2 rfl (R_bin H2 rfl rfl rfl (B_to (y := false) (B64_lt _) (decide_eq_false h1))) (P2 4 0 rfl rfl) fun _ H3 => ?_
  refine h_end ?_
  repeat (go_not_at_region 3; go_step)
  refine wp_cond_false (H3.ev (x := .tmp 4) rfl) ?_
  repeat (go_not_at_region 3; go_step)
  have hv : vbytes n = (n % 128 + 128) :: vbytes (n / 128) := by rw [vbytes, if_neg h1]
  have hlen := vbytes_le (x := n / 128) (by omega)
  obtain ⟨x, hx⟩ : ∃ x, x = n % 128 + 128 := ⟨_, rfl⟩
  have hx2 : x < 256 := by omega
  have hcat : packL [x] ++ packL (vbytes (n / 128)) = packL (vbytes n) := by rw [packL_app, hv, hx]; rfl
  have hsz : (packL [x]).size + (packL (vbytes (n / 128))).size ≤ 100000 := by rw [packL_size, packL_size]; show 1 + _ ≤ _; omega
  refine wp_region_held_drew (S := fun w' => Live W [] w') (by kernel_rfl) hL.drew (fun hL' => ?_)
  replace hL := hL'
  clear hL'
  refine a_op (m' := [(9, _), (0, _)]) 0 H3 rfl rfl (by kernel_rfl) (by kernel_rfl) (by kernel_rfl) (fun _ _ _ h => h) (wn rfl) (fun w hL => R_mv H3 rfl rfl) hL rfl (P2 9 0 rfl rfl) fun _ H4 => ?_
  refine a_op (m' := [(10, _), (0, _)]) 1 H4 rfl rfl (by kernel_rfl) (by kernel_rfl) (by kernel_rfl) (fun _ _ _ h => h) (wn rfl) (fun w hL => R_bin H4 rfl rfl rfl (B64_rem _)) hL rfl (P2 10 0 rfl rfl) fun _ H5 => ?_
  refine a_op (m' := [(11, _), (0, _)]) 2 H5 rfl rfl (by kernel_rfl) (by kernel_rfl) (by kernel_rfl) (fun _ _ _ h => h) (wn rfl) (fun w hL => R_cv H5 rfl rfl (cv64_8 _ (by omega))) hL rfl (P2 11 0 rfl rfl) fun _ H6 => ?_
  refine a_op (m' := [(12, _), (0, _)]) 3 H6 rfl rfl (by kernel_rfl) (by kernel_rfl) (by kernel_rfl) (fun _ _ _ h => h) (wn rfl) (fun w hL => R_bin H6 rfl rfl rfl (B8_add128 _ (by omega))) hL rfl (P2 12 0 rfl rfl) fun _ H7 => ?_
  refine a_op (m' := [(15, _), (12, _)]) 6 H7 rfl rfl (by kernel_rfl) (by kernel_rfl) (by kernel_rfl) (fun _ _ _ h => h) (wn rfl) (fun w hL => R_mv H7 rfl rfl) hL rfl (P2 15 12 rfl rfl) fun _ H8 => ?_
  refine a_op (m' := [(16, _), (12, _)]) 7 H8 rfl rfl (by kernel_rfl) (by kernel_rfl) (by kernel_rfl) (fun _ _ _ h => h) (wn rfl) (fun w hL => R_bin H8 rfl rfl rfl (B64_quo _ hn)) hL rfl (P2 16 12 rfl rfl) fun _ H9 => ?_
  replace H9 := H9.pick [(12, .int .u8 (n % 128 + 128 : Nat)), (16, .int .u64 (n / 128 : Nat))] (P2 12 16 rfl rfl)
  rw [← hx] at H9
  refine a_all2 4 8 (by kernel_rfl) ?_ ?_
  ·refine o_op (m' := [(13, _), (16, _)]) 4 H9 rfl rfl (wn rfl) (R_bs1 H9 rfl rfl (bs_u8 _)) rfl (P2 13 16 rfl rfl) fun a10 H10 => ?_
   replace hL := hL.alloc #[.int .u8 (x : Nat)] 5
   refine ⟨hL.tail, ?_⟩
   refine a_all2 5 8 (by kernel_rfl) ?_ ?_
   ·refine o_op (m' := [(14, _), (16, _)]) 5 H10 rfl rfl (wn rfl) (R_cv H10 rfl rfl (cv_u8 hx2 hL)) rfl (P2 14 16 rfl rfl) fun a11 H11 => ?_
    refine ⟨hL.tail, ?_⟩
    refine a_all1 8 (by kernel_rfl) ?_
    refine o_call 8 H11 rfl rfl (wn rfl) (R_call1 H11 rfl rfl (fun w => by simp [go_sem])) rfl ?_
    refine (ih (n / 128) (by omega) (n / 128) (Nat.le_refl _) (by omega) _).mono ?_
    rintro e wx ⟨rfl, hb⟩
    replace hL := hL.call hb
    clear hb
    refine ⟨_, rfl, fun a12 HH => ⟨hL.tail, ?_⟩⟩
    have H12 := HH [(17, _), (14, _)] (P2 17 14 rfl rfl)
    refine a_op (m' := [(18, _)]) 9 H12 rfl rfl (by kernel_rfl) (by kernel_rfl) (by kernel_rfl) (fun _ _ _ h => h) (wn rfl) (fun w hL => R_bin H12 rfl rfl rfl (B_cat _ _ hsz)) hL.tail rfl (P1 18 rfl) fun _ H13 => ?_
    refine a_op (m' := [(2, _)]) 10 H13 rfl rfl (by kernel_rfl) (by kernel_rfl) (by kernel_rfl) (fun _ _ _ h => h) (wn rfl) (fun w hL => R_as H13 rfl rfl) hL.tail rfl (P1 2 rfl) fun _ H14 => ?_
    refine wpAnyH_done (by kernel_rfl) ?_ _
    repeat (go_not_at_region 999; go_step)
    exact H14.ret1 rfl rfl ⟨congrArg (fun s => Ending.returned (.string s)) hcat, hL.1⟩
   ·refine o_call 8 H10 rfl rfl (wn rfl) (R_call1 H10 rfl rfl (fun w => by simp [go_sem])) rfl ?_
    refine (ih (n / 128) (by omega) (n / 128) (Nat.le_refl _) (by omega) _).mono ?_
    rintro e wx ⟨rfl, hb⟩
    replace hL := hL.call hb
    clear hb
    refine ⟨_, rfl, fun a11 HH => ⟨hL.tail, ?_⟩⟩
    have H11 := HH [(17, _), (13, _)] (P2 17 13 rfl rfl)
    refine a_all1 5 (by kernel_rfl) ?_
    refine o_op (m' := [(14, _), (17, _)]) 5 H11 rfl rfl (wn rfl) (R_cv H11 rfl rfl (cv_u8 hx2 hL)) rfl (P2 14 17 rfl rfl) fun _ H12 => ?_
    refine ⟨hL.tail, ?_⟩
    refine a_op (m' := [(18, _)]) 9 H12 rfl rfl (by kernel_rfl) (by kernel_rfl) (by kernel_rfl) (fun _ _ _ h => h) (wn rfl) (fun w hL => R_bin H12 rfl rfl rfl (B_cat _ _ hsz)) hL.tail rfl (P1 18 rfl) fun _ H13 => ?_
    refine a_op (m' := [(2, _)]) 10 H13 rfl rfl (by kernel_rfl) (by kernel_rfl) (by kernel_rfl) (fun _ _ _ h => h) (wn rfl) (fun w hL => R_as H13 rfl rfl) hL.tail rfl (P1 2 rfl) fun _ H14 => ?_
    refine wpAnyH_done (by kernel_rfl) ?_ _
    repeat (go_not_at_region 999; go_step)
    exact H14.ret1 rfl rfl ⟨congrArg (fun s => Ending.returned (.string s)) hcat, hL.1⟩
  ·refine o_call 8 H9 rfl rfl (wn rfl) (R_call1 H9 rfl rfl (fun w => by simp [go_sem])) rfl ?_
   refine (ih (n / 128) (by omega) (n / 128) (Nat.le_refl _) (by omega) _).mono ?_
   rintro e wx ⟨rfl, hb⟩
   replace hL := hL.call hb
   clear hb
   refine ⟨_, rfl, fun a10 HH => ⟨hL, ?_⟩⟩
   have H10 := HH [(17, _), (12, _)] (P2 17 12 rfl rfl)
   refine a_all1 4 (by kernel_rfl) ?_
   refine o_op (m' := [(13, _), (17, _)]) 4 H10 rfl rfl (wn rfl) (R_bs1 H10 rfl rfl (bs_u8 _)) rfl (P2 13 17 rfl rfl) fun _ H11 => ?_
   replace hL := hL.alloc #[.int .u8 (x : Nat)] 5
   refine ⟨hL.tail, ?_⟩
   refine a_all1 5 (by kernel_rfl) ?_
   refine o_op (m' := [(14, _), (17, _)]) 5 H11 rfl rfl (wn rfl) (R_cv H11 rfl rfl (cv_u8 hx2 hL)) rfl (P2 14 17 rfl rfl) fun _ H12 => ?_
   refine ⟨hL.tail, ?_⟩
   refine a_op (m' := [(18, _)]) 9 H12 rfl rfl (by kernel_rfl) (by kernel_rfl) (by kernel_rfl) (fun _ _ _ h => h) (wn rfl) (fun w hL => R_bin H12 rfl rfl rfl (B_cat _ _ hsz)) hL.tail rfl (P1 18 rfl) fun _ H13 => ?_
   refine a_op (m' := [(2, _)]) 10 H13 rfl rfl (by kernel_rfl) (by kernel_rfl) (by kernel_rfl) (fun _ _ _ h => h) (wn rfl) (fun w hL => R_as H13 rfl rfl) hL.tail rfl (P1 2 rfl) fun _ H14 => ?_
   refine wpAnyH_done (by kernel_rfl) ?_ _
   repeat (go_not_at_region 999; go_step)
   exact H14.ret1 rfl rfl ⟨congrArg (fun s => Ending.returned (.string s)) hcat, hL.1⟩
section
variable {w : World}
theorem cvi_u64 (x : Nat) (h : x < 9223372036854775808) : (convert 3 35 (.int .i64 (x : Nat))).run Tryz.prog w = .ok (.int .u64 (x : Nat)) w := by
 have e : IntKind.u64.wrap (x : Int) = x := u64_id (by omega) (by omega)
 simp [go_sem, e]
theorem cvl_u64 (x : Nat) (h : x < 9223372036854775808) : (convert 2 35 (.int .i64 (x : Nat))).run Tryz.prog w = .ok (.int .u64 (x : Nat)) w := by
 have e : IntKind.u64.wrap (x : Int) = x := u64_id (by omega) (by omega)
 simp [go_sem, e]
theorem B64_dbl {X Y : Operand} (x : Nat) (h : x < 9223372036854775808) : ((do eqGuard .mul 35 X Y (.int .u64 2) (.int .u64 (x : Nat)); binOp .mul 35 (.int .u64 2) (.int .u64 (x : Nat))) : Sem Value).run Tryz.prog w = .ok (.int .u64 (2 * x : Nat)) w := by
 have e : IntKind.u64.wrap (2 * (x : Int)) = 2 * (x : Int) := u64_id (by omega) (by omega)
 simp [go_sem, e]
theorem B64_inc {X Y : Operand} (x : Nat) (h : x < 18446744073709551615) : ((do eqGuard .add 35 X Y (.int .u64 (x : Nat)) (.int .u64 1); binOp .add 35 (.int .u64 (x : Nat)) (.int .u64 1)) : Sem Value).run Tryz.prog w = .ok (.int .u64 (x + 1 : Nat)) w := by
 have e : IntKind.u64.wrap ((x : Int) + 1) = (x : Int) + 1 := u64_id (by omega) (by omega)
 simp [go_sem, e]
theorem Bl_geq {X Y : Operand} (x y : Int) : ((do eqGuard .geq 2 X Y (.int .i64 x) (.int .i64 y); binOp .geq 2 (.int .i64 x) (.int .i64 y)) : Sem Value).run Tryz.prog w = .ok (.bool (decide (x ≥ y))) w := B_ge Tryz.underlying2 x y
theorem ng_i64 (x : Int) (h0 : -9223372036854775808 < x) (h1 : x < 9223372036854775808) : (Op.unary .neg (.int .i64 x)).run Tryz.prog w = .ok (.int .i64 (-x)) w := by
 have e : IntKind.i64.wrap (-x) = -x := i64_id (by omega) (by omega)
 simp [go_sem, e]
theorem B_catL {X Y : Operand} (a b : List Nat) (h : a.length + b.length ≤ 100000) : ((do eqGuard .add 9 X Y (.string (packL a)) (.string (packL b)); binOp .add 9 (.string (packL a)) (.string (packL b))) : Sem Value).run Tryz.prog w = .ok (.string (packL (a ++ b))) w := by
 rw [← packL_app]
 exact B_cat _ _ (by rw [packL_size, packL_size]; exact h)
end
theorem packL_of (s : ByteArray) : packL (bytesOf s) = s := bytes_inj (packL_bytes bytesOf_lt)
theorem listB_len : ∀ {l : List Int}, l.all inB = true → (listB l).length ≤ 10 * l.length
 | [], _ => by simp [listB]
 | x :: l, h => by
  simp only [List.all_cons, Bool.and_eq_true] at h
  have h1 := listB_len h.2
  have hx : inB x = true := h.1
  unfold inB at hx
  simp only [Bool.and_eq_true, decide_eq_true_eq] at hx
  have h2 := vbytes_le (x := x.toNat) (by omega)
  show (vbytes x.toNat ++ listB l).length ≤ _
  rw [List.length_append, List.length_cons]
  omega
theorem listB_more {l : List Int} {j : Nat} (hj : j < l.length) : listB (l.take (j + 1)) = listB (l.take j) ++ vbytes (l.getD j 0).toNat := by
 unfold listB
 rw [List.take_add_one, List.flatMap_append, List.getElem?_eq_getElem hj, List.getD_eq_getElem?_getD, List.getElem?_eq_getElem hj]
 simp
section
variable {w0 W : World} {L : List Blk} {l : List Int} {v : Value}
set_option maxRecDepth 100000 in
theorem rnum_any {n : Nat} (hn : n < 9223372036854775808) : Calls Tryz.prog 65 #[.int .i64 (n : Nat)] W fun e W' => e = .returned (.string (packL (vbytes n))) ∧ Below W.heap.size W W' := by
 have hL := Live.init W
 go_enter Tryz.func65, Tryz.ntmps65
 refine wp_fr (n := 6) (m := [(0, _)]) ⟨rfl, rfl, by intro p hp; simp only [List.mem_cons, List.not_mem_nil, or_false] at hp; rcases hp with rfl <;> rfl⟩ fun a0 H0 => ?_
 repeat (go_not_at_region 0; go_step)
 refine wp_region_lit ?_
 refine h_o H0 rfl (R_as H0 rfl rfl) (P1 0 rfl) fun _ H1 => ?_
 refine h_end ?_
 repeat (go_not_at_region 1; go_step)
 refine wp_region_lit ?_
 refine h_o H1 rfl (R_mv H1 rfl rfl) (P1 3 rfl) fun _ H2 => ?_
 refine h_o H2 rfl (R_cv H2 rfl rfl (cvi_u64 _ hn)) (P1 4 rfl) fun _ H3 => ?_
 refine h_call H3 rfl (wn rfl) (R_call1 H3 rfl rfl (fun w => by simp [go_sem])) rfl ?_
 refine (rNum_any (n) (n) (Nat.le_refl _) (by omega) _).mono ?_
 rintro e wx ⟨rfl, hb⟩
 replace hL := hL.call hb
 clear hb
 refine ⟨_, rfl, fun a4 HH => ?_⟩
 have H4 := HH _ (P1 5 rfl)
 refine h_o H4 rfl (R_as H4 rfl rfl) (P1 2 rfl) fun _ H5 => ?_
 refine h_end ?_
 repeat (go_not_at_region 999; go_step)
 exact H5.ret1 rfl rfl ⟨rfl, hL.1⟩
theorem rnum_in {x : Int} (hx : inB x = true) : Calls Tryz.prog 65 #[.int .i64 x] W fun e W' => e = .returned (.string (packL (vbytes x.toNat))) ∧ Below W.heap.size W W' := by
 unfold inB at hx
 simp only [Bool.and_eq_true, decide_eq_true_eq] at hx
 have h := rnum_any (W := W) (n := x.toNat) (by omega)
 rw [show ((x.toNat : Nat) : Int) = x by omega] at h
 exact h
set_option maxRecDepth 100000 in
theorem rText_any {s : ByteArray} (hs : s.size ≤ 50000) : Calls Tryz.prog 68 #[.string s] W fun e W' => e = .returned (.string (packL (vbytes s.size ++ bytesOf s))) ∧ Below W.heap.size W W' := by
 have hL := Live.init W
 have hcat : packL (vbytes s.size) ++ s = packL (vbytes s.size ++ bytesOf s) := by rw [← packL_app, packL_of]
 have hlen := vbytes_le (x := s.size) (by omega)
 go_enter Tryz.func68, Tryz.ntmps68
 refine wp_fr (n := 9) (m := [(0, _)]) ⟨rfl, rfl, by intro p hp; simp only [List.mem_cons, List.not_mem_nil, or_false] at hp; rcases hp with rfl <;> rfl⟩ fun a0 H0 => ?_
 repeat (go_not_at_region 0; go_step)
 refine wp_region_lit ?_
 refine h_o H0 rfl (R_as H0 rfl rfl) (P1 0 rfl) fun _ H1 => ?_
 refine h_end ?_
 repeat (go_not_at_region 1; go_step)
 refine wp_region_lit ?_
 refine h_o H1 rfl (R_mv H1 rfl rfl) (P2 3 0 rfl rfl) fun _ H2 => ?_
 refine h_o H2 rfl (R_len H2 rfl rfl Tryz.underlying9) (P2 4 0 rfl rfl) fun _ H3 => ?_
 refine h_o H3 rfl (R_cv H3 rfl rfl (cvi_u64 _ (by omega))) (P2 5 0 rfl rfl) fun _ H4 => ?_
 refine h_call H4 rfl (wn rfl) (R_call1 H4 rfl rfl (fun w => by simp [go_sem])) rfl ?_
 refine (rNum_any (s.size) (s.size) (Nat.le_refl _) (by omega) _).mono ?_
 rintro e wx ⟨rfl, hb⟩
 replace hL := hL.call hb
 clear hb
 refine ⟨_, rfl, fun a5 HH => ?_⟩
 have H5 := HH _ (P2 6 0 rfl rfl)
 refine h_o H5 rfl (R_mv H5 rfl rfl) (P2 7 6 rfl rfl) fun _ H6 => ?_
 refine h_o H6 rfl (R_bin H6 rfl rfl rfl (B_cat _ _ (by rw [packL_size]; omega))) (P1 8 rfl) fun _ H7 => ?_
 refine h_o H7 rfl (R_as H7 rfl rfl) (P1 2 rfl) fun _ H8 => ?_
 refine h_end ?_
 repeat (go_not_at_region 999; go_step)
 exact H8.ret1 rfl rfl ⟨congrArg (fun s => Ending.returned (.string s)) hcat, hL.1⟩
set_option maxRecDepth 100000 in
theorem rZig_any {n : Int} (h0 : -9223372036854775808 ≤ n) (h1 : n < 9223372036854775808) : Calls Tryz.prog 70 #[.int .i64 n] W fun e W' => e = .returned (.int .u64 (zig n : Nat)) ∧ W' = W := by
 go_enter Tryz.func70, Tryz.ntmps70
 refine wp_fr (n := 14) (m := [(0, _)]) ⟨rfl, rfl, by intro p hp; simp only [List.mem_cons, List.not_mem_nil, or_false] at hp; rcases hp with rfl <;> rfl⟩ fun a0 H0 => ?_
 repeat (go_not_at_region 0; go_step)
 refine wp_region_lit ?_
 refine h_o H0 rfl (R_as H0 rfl rfl) (P1 0 rfl) fun _ H1 => ?_
 refine h_end ?_
 by_cases hn : 0 ≤ n
 ·obtain ⟨x, rfl⟩ : ∃ x : Nat, n = x := ⟨n.toNat, by omega⟩
  have hz : zig (x : Int) = 2 * x := by unfold zig; rw [if_pos hn]; omega
  repeat (go_not_at_region 1; go_step)
  refine wp_region_lit ?_
  refine h_o H1 rfl (R_mv H1 rfl rfl) (P2 3 0 rfl rfl) fun _ H2 => ?_
  refine h_o H2 rfl (R_bin H2 rfl rfl rfl (B_to (y := true) (Bl_geq _ _) (decide_eq_true (by omega)))) (P2 4 0 rfl rfl) fun _ H3 => ?_
  refine h_end ?_
  repeat (go_not_at_region 2; go_step)
  refine wp_cond_true (H3.ev (x := .tmp 4) rfl) ?_
  repeat (go_not_at_region 2; go_step)
  refine wp_region_lit ?_
  refine h_o H3 rfl (R_mv H3 rfl rfl) (P1 5 rfl) fun _ H4 => ?_
  refine h_o H4 rfl (R_cv H4 rfl rfl (cvl_u64 _ (by omega))) (P1 6 rfl) fun _ H5 => ?_
  refine h_o H5 rfl (R_bin H5 rfl rfl rfl (B64_dbl _ (by omega))) (P1 7 rfl) fun _ H6 => ?_
  refine h_o H6 rfl (R_as H6 rfl rfl) (P1 2 rfl) fun _ H7 => ?_
  refine h_end ?_
  repeat (go_not_at_region 999; go_step)
  rw [hz]
  exact H7.ret1 rfl rfl ⟨rfl, rfl⟩
 ·obtain ⟨x, hx⟩ : ∃ x : Nat, n + 1 = -(x : Int) := ⟨(-(n + 1)).toNat, by omega⟩
  have hz : zig n = 2 * x + 1 := by unfold zig; rw [if_neg hn]; omega
  repeat (go_not_at_region 1; go_step)
  refine wp_region_lit ?_
  refine h_o H1 rfl (R_mv H1 rfl rfl) (P2 3 0 rfl rfl) fun _ H2 => ?_
  refine h_o H2 rfl (R_bin H2 rfl rfl rfl (B_to (y := false) (Bl_geq _ _) (decide_eq_false (by omega)))) (P2 4 0 rfl rfl) fun _ H3 => ?_
  refine h_end ?_
  repeat (go_not_at_region 3; go_step)
  refine wp_cond_false (H3.ev (x := .tmp 4) rfl) ?_
  repeat (go_not_at_region 3; go_step)
  refine wp_region_lit ?_
  refine h_o H3 rfl (R_mv H3 rfl rfl) (P1 8 rfl) fun _ H4 => ?_
  refine h_o H4 rfl (R_bin H4 rfl rfl rfl (B_add Tryz.underlying2 _ _ (by omega) (by omega))) (P1 9 rfl) fun _ H5 => ?_
  refine h_o H5 rfl (R_un H5 rfl rfl (by rw [hx]; exact ng_i64 _ (by omega) (by omega))) (P1 10 rfl) fun _ H6 => ?_
  refine h_o H6 rfl (R_cv H6 rfl rfl (by rw [Int.neg_neg]; exact cvl_u64 x (by omega))) (P1 11 rfl) fun _ H7 => ?_
  refine h_o H7 rfl (R_bin H7 rfl rfl rfl (B64_dbl _ (by omega))) (P1 12 rfl) fun _ H8 => ?_
  refine h_o H8 rfl (R_bin H8 rfl rfl rfl (B64_inc _ (by omega))) (P1 13 rfl) fun _ H9 => ?_
  refine h_o H9 rfl (R_as H9 rfl rfl) (P1 2 rfl) fun _ H10 => ?_
  refine h_end ?_
  repeat (go_not_at_region 999; go_step)
  rw [hz]
  exact H10.ret1 rfl rfl ⟨rfl, rfl⟩
set_option maxRecDepth 100000 in
theorem rlist_any (hv : Rd W v l) (hb : l.all inB = true) (hl : l.length ≤ 1024) : Calls Tryz.prog 66 #[v] W fun e W' => e = .returned (.string (packL (vbytes l.length ++ listB l))) ∧ Below W.heap.size W W' := by
 have hL := Live.init W
 obtain ⟨A, c, rfl⟩ := hv.slc
 have K1 : ∀ {w}, Below W.heap.size W w → Rd w (.slice A l.length c) l := fun hb => hv.kept fun k hk => hb.block k hk
 have hlen := vbytes_le (x := l.length) (by omega)
 go_enter Tryz.func66, Tryz.ntmps66
 refine wp_fr (n := 22) (m := [(0, _)]) ⟨rfl, rfl, by intro p hp; simp only [List.mem_cons, List.not_mem_nil, or_false] at hp; rcases hp with rfl <;> rfl⟩ fun a0 H0 => ?_
 repeat (go_not_at_region 0; go_step)
 refine wp_region_lit ?_
 refine h_o H0 rfl (R_as H0 rfl rfl) (P1 0 rfl) fun _ H1 => ?_
 refine h_end ?_
 repeat (go_not_at_region 1; go_step)
 refine wp_region_lit ?_
 refine h_o H1 rfl (R_mv H1 rfl rfl) (P2 5 0 rfl rfl) fun _ H2 => ?_
 refine h_o H2 rfl (R_lenS H2 rfl rfl Tryz.underlying26) (P2 6 0 rfl rfl) fun _ H3 => ?_
 refine h_call H3 rfl (wn rfl) (R_call1 H3 rfl rfl (fun w => by simp [go_sem])) rfl ?_
 refine (rnum_any (n := l.length) (by omega)).mono ?_
 rintro e wx ⟨rfl, hb⟩
 replace hL := hL.call hb
 clear hb
 refine ⟨_, rfl, fun a4 HH => ?_⟩
 have H4 := HH _ (P2 7 0 rfl rfl)
 refine h_o H4 rfl (R_as H4 rfl rfl) (P2 3 0 rfl rfl) fun _ H5 => ?_
 refine h_end ?_
 repeat (go_not_at_region 2; go_step)
 refine wp_region_lit ?_
 refine h_o H5 rfl (R_as H5 rfl rfl) (P3 4 3 0 rfl rfl rfl) fun _ H6 => ?_
 refine h_end ?_
 repeat (go_not_at_region 3; go_step)
 obtain ⟨I, hI⟩ : ∃ I : Nat → Act → World → Prop, ∀ n a' w', I n a' w' ↔ ∃ j : Nat, n = l.length - j ∧ j ≤ l.length ∧ Fr a' 22 [(0, .slice A l.length c), (3, .string (packL (vbytes l.length ++ listB (l.take j)))), (4, .int .i64 (j : Nat))] ∧ Live W [] w' := ⟨_, fun _ _ _ => Iff.rfl⟩
 have HI := Lib.hid hI
 clear hI
 refine wp_loop_ghost I l.length ((HI.out _ _ _).2 ⟨0, rfl, Nat.zero_le _, ?_, hL⟩) ?_
 ·have e : vbytes l.length = vbytes l.length ++ listB (l.take 0) := by simp [listB]
  rw [← e]
  exact H6.pick _ (P3 0 3 4 rfl rfl rfl)
 clear hL
 intro n a1 w1 hi
 obtain ⟨j, rfl, hj, H0, hL⟩ := (HI.out _ _ _).1 hi
 clear hi
 by_cases hjl : j < l.length
 ·repeat (go_not_at_region 3; go_step)
  refine wp_region_lit ?_
  refine h_o H0 rfl (R_mv H0 rfl rfl) (P4 8 0 3 4 rfl rfl rfl rfl) fun _ H1 => ?_
  refine h_o H1 rfl (R_mv H1 rfl rfl) (P5 9 8 0 3 4 rfl rfl rfl rfl rfl) fun _ H2 => ?_
  refine h_o H2 rfl (R_lenS H2 rfl rfl Tryz.underlying26) (P5 10 8 0 3 4 rfl rfl rfl rfl rfl) fun _ H3 => ?_
  refine h_o H3 rfl (R_bin H3 rfl rfl rfl (B_to (y := true) (B_lt Tryz.underlying3 _ _) (decide_eq_true (by omega)))) (P4 11 0 3 4 rfl rfl rfl rfl) fun _ H4 => ?_
  refine h_end ?_
  repeat (go_not_at_region 5; go_step)
  refine wp_cond_true (H4.ev (x := .tmp 11) rfl) ?_
  obtain ⟨ad, rfl, hx⟩ := (K1 hL.1).elem hjl
  have hbj : inB (l.getD j 0) = true := by
   rw [List.getD_eq_getElem?_getD, List.getElem?_eq_getElem hjl]
   exact List.all_eq_true.1 hb _ (List.getElem_mem _)
  have ht : (l.take j).all inB = true := List.all_eq_true.2 fun x hx => List.all_eq_true.1 hb x (List.mem_of_mem_take hx)
  have hlB := listB_len ht
  have hlt : (l.take j).length ≤ 1024 := by rw [List.length_take]; omega
  have hvb : (vbytes (l.getD j 0).toNat).length ≤ 10 := vbytes_le (by unfold inB at hbj; simp only [Bool.and_eq_true, decide_eq_true_eq] at hbj; omega)
  repeat (go_not_at_region 5; go_step)
  refine wp_region_lit ?_
  refine h_o H4 rfl (R_mv H4 rfl rfl) (P4 14 0 3 4 rfl rfl rfl rfl) fun _ H5 => ?_
  refine h_o H5 rfl (R_mv H5 rfl rfl) (P5 15 14 0 3 4 rfl rfl rfl rfl rfl) fun _ H6 => ?_
  refine h_o H6 rfl (R_mv H6 rfl rfl) (P6 16 15 14 0 3 4 rfl rfl rfl rfl rfl rfl) fun _ H7 => ?_
  refine h_o H7 rfl (R_ixa H7 rfl rfl rfl (ix_at hjl)) (P5 17 14 0 3 4 rfl rfl rfl rfl rfl) fun _ H8 => ?_
  refine h_o H8 rfl (R_ld H8 rfl rfl (ld_int hx)) (P5 18 14 0 3 4 rfl rfl rfl rfl rfl) fun _ H9 => ?_
  refine h_call H9 rfl (wn rfl) (R_call1 H9 rfl rfl (fun w => by simp [go_sem])) rfl ?_
  refine (rnum_in hbj).mono ?_
  rintro e wx ⟨rfl, hb⟩
  replace hL := hL.call hb
  clear hb
  refine ⟨_, rfl, fun a10 HH => ?_⟩
  have H10 := HH _ (P5 19 14 0 3 4 rfl rfl rfl rfl rfl)
  refine h_o H10 rfl (R_bin H10 rfl rfl rfl (B_catL _ _ (by rw [List.length_append]; omega))) (P4 20 0 3 4 rfl rfl rfl rfl) fun _ H11 => ?_
  refine h_o H11 rfl (R_as H11 rfl rfl) (P3 3 0 4 rfl rfl rfl) fun _ H12 => ?_
  refine h_end ?_
  repeat (go_not_at_region 4; go_step)
  refine wp_region_lit ?_
  refine h_o H12 rfl (R_mv H12 rfl rfl) (P4 12 3 0 4 rfl rfl rfl rfl) fun _ H13 => ?_
  refine h_o H13 rfl (R_bin H13 rfl rfl rfl (B_add Tryz.underlying3 _ _ (by omega) (by omega))) (P4 13 3 0 4 rfl rfl rfl rfl) fun _ H14 => ?_
  refine h_o H14 rfl (R_as H14 rfl rfl) (P3 4 3 0 rfl rfl rfl) fun _ H15 => ?_
  refine h_end ?_
  repeat (go_not_at_region 999; go_step)
  refine ⟨l.length - (j + 1), by omega, (HI.out _ _ _).2 ⟨j + 1, rfl, hjl, ?_, hL⟩⟩
  rw [listB_more hjl, ← List.append_assoc]
  exact H15.pick _ (P3 0 3 4 rfl rfl rfl)
 ·repeat (go_not_at_region 3; go_step)
  refine wp_region_lit ?_
  refine h_o H0 rfl (R_mv H0 rfl rfl) (P4 8 0 3 4 rfl rfl rfl rfl) fun _ H1 => ?_
  refine h_o H1 rfl (R_mv H1 rfl rfl) (P5 9 8 0 3 4 rfl rfl rfl rfl rfl) fun _ H2 => ?_
  refine h_o H2 rfl (R_lenS H2 rfl rfl Tryz.underlying26) (P5 10 8 0 3 4 rfl rfl rfl rfl rfl) fun _ H3 => ?_
  refine h_o H3 rfl (R_bin H3 rfl rfl rfl (B_to (y := false) (B_lt Tryz.underlying3 _ _) (decide_eq_false (by omega)))) (P4 11 0 3 4 rfl rfl rfl rfl) fun _ H4 => ?_
  refine h_end ?_
  repeat (go_not_at_region 6; go_step)
  refine wp_cond_false (H4.ev (x := .tmp 11) rfl) ?_
  obtain rfl : j = l.length := by omega
  rw [List.take_length] at H4
  repeat (go_not_at_region 6; go_step)
  refine wp_region_lit ?_
  refine h_o H4 rfl (R_mv H4 rfl rfl) (P1 21 rfl) fun _ H5 => ?_
  refine h_o H5 rfl (R_as H5 rfl rfl) (P1 2 rfl) fun _ H6 => ?_
  refine h_end ?_
  repeat (go_not_at_region 999; go_step)
  exact H6.ret1 rfl rfl ⟨rfl, hL.1⟩
end
end Go.Proofs.YthkeiclhllikjaaGreat.R
