/-
  This seat's types, as a table; the short steps over it.
-/
import Derived.Test.YtnjfjdfjheiocaaGreatFz
set_option linter.unusedSimpArgs false
set_option linter.unusedVariables false
namespace Go.Proofs.YtnjfjdfjheiocaaGreat
def tab : Tab := ⟨[(7, [0, 1, 2, 3]), (8, [0, 1, 2, 3]), (13, [0, 1]), (14, [0, 1]), (18, [0]), (19, [0]), (28, [0]), (29, [0]), (30, [0, 1]), (31, [0, 1]), (34, [0, 4]), (35, [0, 4]), (36, [0, 2]), (37, [0, 2]), (41, [0, 1, 2, 3, 4, 5, 6, 7]), (42, [0, 1, 2, 3, 4, 5, 6, 7]), (54, [0, 1, 2, 3, 4]), (55, [0, 1, 2, 3, 4]), (56, [0, 1, 2]), (57, [0, 1, 2]), (77, [0, 1]), (78, [0, 1]), (92, [0, 1, 2]), (93, [0, 1, 2]), (94, [0, 1, 2]), (110, [0, 1]), (111, [0, 1]), (114, [0, 4]), (115, [0, 4]), (133, [0]), (134, [0]), (150, [0]), (151, [0]), (161, [0, 1]), (162, [0, 1]), (212, [0, 1, 2, 3]), (213, [0, 1, 2, 3]), (224, [0, 1, 2, 3, 4, 5, 6, 7, 8, 9, 10]), (225, [0, 1, 2, 3, 4, 5, 6, 7, 8, 9, 10])], [22, 27, 33, 52, 61, 131, 178], [9, 10, 11], [15, 16, 17, 25, 73, 75, 108, 132, 205, 209, 221], [0, 1, 2, 3, 4, 5, 6, 9, 10, 11, 12, 15, 16, 17, 20, 21, 22, 23, 24, 25, 26, 27, 33, 38, 39, 40, 43, 44, 45, 46, 47, 48, 49, 50, 51, 52, 58, 59, 60, 61, 62, 63, 64, 65, 66, 67, 68, 69, 70, 71, 72, 73, 74, 75, 76, 79, 80, 81, 82, 83, 84, 85, 86, 87, 88, 89, 90, 91, 95, 96, 97, 98, 99, 100, 101, 102, 103, 104, 105, 106, 107, 108, 109, 112, 116, 117, 118, 119, 120, 121, 122, 123, 124, 125, 126, 127, 128, 129, 130, 131, 132, 135, 136, 137, 139, 140, 141, 142, 143, 144, 145, 146, 147, 148, 149, 152, 153, 154, 155, 156, 157, 158, 159, 160, 163, 164, 165, 166, 167, 168, 169, 170, 171, 172, 173, 174, 175, 176, 177, 178, 179, 180, 181, 182, 183, 184, 185, 186, 187, 188, 189, 190, 191, 192, 193, 194, 195, 196, 197, 198, 199, 200, 201, 202, 203, 204, 205, 206, 207, 208, 209, 210, 211, 217, 218, 219, 220, 221, 222, 223, 226], [(7, 4), (8, 4), (13, 2), (14, 2), (18, 1), (19, 1), (28, 1), (29, 1), (30, 2), (31, 2), (32, 4), (34, 5), (35, 5), (36, 7), (37, 7), (41, 8), (42, 8), (53, 4), (54, 8), (55, 8), (56, 10), (57, 10), (77, 2), (78, 2), (92, 3), (93, 3), (94, 3), (110, 2), (111, 2), (113, 4), (114, 8), (115, 8), (133, 1), (134, 1), (138, 3), (150, 1), (151, 1), (161, 2), (162, 2), (212, 4), (213, 4), (214, 0), (215, 0), (216, 0), (224, 11), (225, 11)]⟩
theorem tab_ok : tab.ok Tryz.prog = true := by kernel_rfl
section
variable {ops : Array Oper} {Q : Exit → Act → World → Prop} {md : Region.Mode} {S : World → Prop} {l l' : List Oper} {a : Act} {w w' : World} {n d fuel f : Nat} {v : Value} {m m' m1 : List (Nat × Value)} {e : EOp} {t : TypeId} {p u : Value} {vs : List Value} {R : Ending → World → Prop} {listed : Array Bool} {K : Act → World → Prop}
theorem us (N : Nat) (H : Fr a n m) (h : prun tab ops n N l m = some (l', m')) (k : ∀ a', Fr a' n m' → wpList Tryz.prog ops Q l' a' w) : wpList Tryz.prog ops Q l a w := h_us tab_ok N H h k
theorem uv (N : Nat) (H : Fr a n m) (h : prunE tab ops n N l m (kV n) = some (l', m1, d, e)) (hr : e.run.run Tryz.prog w = .ok v w') (hm : putO m1 d v = some m') (k : ∀ a', Fr a' n m' → wpList Tryz.prog ops Q l' a' w') : wpList Tryz.prog ops Q l a w := h_uv tab_ok N H h hr hm k
theorem un (N : Nat) (H : Fr a n m) (h : prunE tab ops n N l m kN = some (l', m1, e)) (hr : e.run.run Tryz.prog w = .ok v w') (k : ∀ a', Fr a' n m1 → wpList Tryz.prog ops Q l' a' w') : wpList Tryz.prog ops Q l a w := h_un tab_ok N H h hr k
theorem ust (N : Nat) (H : Fr a n m) (h : prunE tab ops n N l m kS = some (l', m1, t, p, v)) (hr : (Instr.storeAt t p v).run Tryz.prog w = .ok () w') (k : ∀ a', Fr a' n m1 → wpList Tryz.prog ops Q l' a' w') : wpList Tryz.prog ops Q l a w := h_ust tab_ok N H h hr k
theorem umu (N : Nat) (H : Fr a n m) (h : prunE tab ops n N l m kM = some (l', m1, t, p, u, v)) (hr : (Instr.mapUpdate t p u v).run Tryz.prog w = .ok () w') (k : ∀ a', Fr a' n m1 → wpList Tryz.prog ops Q l' a' w') : wpList Tryz.prog ops Q l a w := h_umu tab_ok N H h hr k
theorem uc (N : Nat) (H : Fr a n m) (h : prunE tab ops n N l m (kC n) = some (l', m1, d, f, vs)) (hf : fnOk Tryz.prog f = true) (c : Calls Tryz.prog f vs.toArray w R)
    (k : ∀ e w', R e w' → ∃ v, e = .returned v ∧ ∃ m', putO m1 d v = some m' ∧ ∀ a', Fr a' n m' → wpList Tryz.prog ops Q l' a' w') : wpList Tryz.prog ops Q l a w := h_uc tab_ok N H h hf c k
theorem aus (N : Nat) (is : List Nat) (hN : is.length = N) (H : Fr a n m) (h : prunA tab ops n is m some = some m') (ho : (Region.noSelect ops && ordOk md ops is listed) = true) (hS : S w) (hQ : NoPan Q)
    (k : ∀ a', Fr a' n m' → wpAnyH Tryz.prog md ops Q S fuel (setz is listed) a' w) : wpAnyH Tryz.prog md ops Q S (fuel + N) listed a w := a_us tab_ok hQ is hN H h ho hS k
theorem auv (N : Nat) (is : List Nat) (i : Nat) (hN : is.length + 1 = N) (H : Fr a n m) (h : prunA tab ops n is m (kVA ops n i) = some (m1, d, e)) (ho : (Region.noSelect ops && ordOk md ops (is ++ [i]) listed) = true) (hS : S w) (hQ : NoPan Q)
    (hr : ∀ w, S w → e.run.run Tryz.prog w = .ok v w) (hm : putO m1 d v = some m') (k : ∀ a', Fr a' n m' → wpAnyH Tryz.prog md ops Q S fuel (setz (is ++ [i]) listed) a' w) : wpAnyH Tryz.prog md ops Q S (fuel + N) listed a w := a_uv tab_ok hQ is i hN H h ho hS hr hm k
theorem auq (N : Nat) (is : List Nat) (i : Nat) (hN : is.length + 1 = N) (H : Fr a n m) (h : prunA tab ops n is m (kCA ops n i) = some (m1, d, f, vs)) (ho : (Region.noSelect ops && ordOk md ops (is ++ [i]) listed) = true) (hS : S w) (hQ : NoPan Q) (hf : fnOk Tryz.prog f = true)
    (hc : ∀ w, S w → Calls Tryz.prog f vs.toArray w fun e w2 => e = .returned v ∧ w2 = w) (hm : putO m1 d v = some m') (k : ∀ a', Fr a' n m' → wpAnyH Tryz.prog md ops Q S fuel (setz (is ++ [i]) listed) a' w) : wpAnyH Tryz.prog md ops Q S (fuel + N) listed a w := a_uq tab_ok hQ is i hN H h ho hS hf hc hm k
end
section
variable {w : World} {a : Addr} {t k g i : Nat} {v : Value} {cs A : Array Value} {T : TypeId}
theorem ld1 (ht : has tab.ones t = true) (hc : w.cell? a = some v) : (Instr.loadAt t (.pointer (some a))).run Tryz.prog w = .ok v w := z_ld tab_ok ht hc
theorem ldr (ht : rowOf tab.rws t = some cs.size) (hc : ∀ (j : Nat) u, cs[j]? = some u → w.cell? (a.add j) = some u) : (Instr.loadAt t (.pointer (some a))).run Tryz.prog w = .ok (.agg cs) w := z_ldr tab_ok ht rfl hc
theorem ldb (ht : rowOf tab.rws t = some cs.size) (hb : w.heap[g]? = some (.cells cs T (0, 0))) : (Instr.loadAt t (.pointer (some ⟨g, 0, none⟩))).run Tryz.prog w = .ok (.agg cs) w :=
  ldr ht fun j u hu => by rw [show (⟨g, 0, none⟩ : Addr).add j = ⟨g, j, none⟩ from by unfold Addr.add; by_cases hk : j = 0 <;> simp [hk]]; exact (cells_at hb j).trans hu
theorem st1 (ht : has tab.ones t = true) (hb : w.heap[g]? = some (.cells A T (0, 0))) (hi : i < A.size) (hv : v.cells = #[v]) (h1v : v.oneCell' = true) : (Instr.storeAt t (.pointer (some ⟨g, i, none⟩)) v).run Tryz.prog w = .ok () (w.setCell ⟨g, i, none⟩ v) := z_st tab_ok ht hb hi hv h1v
theorem strw (ht : rowOf tab.rws t = some cs.size) (hb : w.heap[g]? = some (.cells A T (0, 0))) (hs : A.size = cs.size) (h1 : cs.all (·.oneCell') = true) : (Instr.storeAt t (.pointer (some ⟨g, 0, none⟩)) (.agg cs)).run Tryz.prog w = .ok () (w.setRow g cs) := by
  simp only [Instr.storeAt, Instr.sureAddr, Sem.run_bind, Sem.run_pure, Result.andThen_ok, run_storeVar_row w g T t A cs hb (Tab.row tab_ok ht).2 hs h1]
end
section
variable {ops : Array Oper} {Q : Exit → Act → World → Prop} {l l' : List Oper} {a : Act} {w w' w0 : World} {n d i : Nat} {v : Value} {m m' m1 : List (Nat × Value)} {e : EOp} {t : TypeId} {p : Value} {K : Act → World → Prop} {L' : List Blk}
theorem uvL (N : Nat) (H : Fr a n m) (h : prunE tab ops n N l m (kV n) = some (l', m1, d, e)) (hr : e.run.run Tryz.prog w = .ok v w') (hL : Live w0 L' w') (hm : putO m1 d v = some m') (k : ∀ a' w', Fr a' n m' → Live w0 L' w' → wpList Tryz.prog ops Q l' a' w') : wpList Tryz.prog ops Q l a w := uv N H h hr hm fun a' H' => k a' w' H' hL
theorem ustL (N : Nat) (H : Fr a n m) (h : prunE tab ops n N l m kS = some (l', m1, t, p, v)) (hr : (Instr.storeAt t p v).run Tryz.prog w = .ok () w') (hL : Live w0 L' w') (k : ∀ a' w', Fr a' n m1 → Live w0 L' w' → wpList Tryz.prog ops Q l' a' w') : wpList Tryz.prog ops Q l a w := ust N H h hr fun a' H' => k a' w' H' hL
theorem ouL (i : Nat) (H : Fr a n m) (h : kVA ops n i m = some (m1, d, e)) (hr : e.run.run Tryz.prog w = .ok v w') (hL : Live w0 L' w') (hm : putO m1 d v = some m') (k : ∀ a' w', Fr a' n m' → Live w0 L' w' → K a' w') : wpOp Tryz.prog ops Q i K a w := o_uv i H h hr hm fun a' H' => k a' w' H' hL
theorem ostL (i : Nat) (H : Fr a n m) (h : kSA ops i m = some (t, p, v)) (hr : (Instr.storeAt t p v).run Tryz.prog w = .ok () w') (hL : Live w0 L' w') (k : ∀ a' w', Fr a' n m → Live w0 L' w' → K a' w') : wpOp Tryz.prog ops Q i K a w := o_ust i H h hr fun a' H' => k a' w' H' hL
theorem Fr.retc {fn : Func} {R : Ending → World → Prop} {s g : Nat} {ty T : TypeId} {cs : Array Value} (H : Fr a n m) (h : fn.results = #[.cell s ty]) (hv : look m s = some (.pointer (some ⟨g, 0, none⟩))) (hg : w.heap[g]? = some (.cells cs T (0, 0))) (ht : rowOf tab.rws ty = some cs.size) (hR : R (.returned (.agg cs)) w) : bodyPost Tryz.prog fn R .ret a w := by
  obtain ⟨⟨d, hu, hd⟩, hi⟩ := Tab.row tab_ok ht
  exact ⟨H.1, _, results_cell_row h _ _ g T cs (0, 0) d (H.getD hv) hg hu (by cases d <;> first | rfl | cases hd) hi, hR⟩
end
theorem i64_idz {n : Int} (h0 : -9223372036854775808 ≤ n) (h1 : n < 9223372036854775808) : IntKind.i64.wrap n = n := by
  simp only [IntKind.wrap, show IntKind.i64.bits = 64 from rfl, show IntKind.i64.signed = true from rfl, Bool.true_and, decide_eq_true_eq, ge_iff_le]
  omega
section
variable {w : World} {t : TypeId} {X Y : Operand} {x y : Int} {k : IntKind}
theorem lt_t (h : x < y) : (EOp.bin .lss t X Y (.int k x) (.int k y)).run.run Tryz.prog w = .ok (.bool true) w := by simp [go_sem, h]
theorem lt_f (h : ¬ x < y) : (EOp.bin .lss t X Y (.int k x) (.int k y)).run.run Tryz.prog w = .ok (.bool false) w := by simp [go_sem, h]
theorem le_t (h : x ≤ y) : (EOp.bin .leq t X Y (.int k x) (.int k y)).run.run Tryz.prog w = .ok (.bool true) w := by simp [go_sem, h]
theorem le_f (h : ¬ x ≤ y) : (EOp.bin .leq t X Y (.int k x) (.int k y)).run.run Tryz.prog w = .ok (.bool false) w := by simp [go_sem, h]
theorem gt_t (h : y < x) : (EOp.bin .gtr t X Y (.int k x) (.int k y)).run.run Tryz.prog w = .ok (.bool true) w := by simp [go_sem, h]
theorem gt_f (h : ¬ y < x) : (EOp.bin .gtr t X Y (.int k x) (.int k y)).run.run Tryz.prog w = .ok (.bool false) w := by simp [go_sem, h]
theorem ge_t (h : y ≤ x) : (EOp.bin .geq t X Y (.int k x) (.int k y)).run.run Tryz.prog w = .ok (.bool true) w := by simp [go_sem, h]
theorem ge_f (h : ¬ y ≤ x) : (EOp.bin .geq t X Y (.int k x) (.int k y)).run.run Tryz.prog w = .ok (.bool false) w := by simp [go_sem, h]
theorem eq_t (h : x = y) : (EOp.bin .eql t X Y (.int k x) (.int k y)).run.run Tryz.prog w = .ok (.bool true) w := by simp [go_sem, h]
theorem eq_f (h : x ≠ y) : (EOp.bin .eql t X Y (.int k x) (.int k y)).run.run Tryz.prog w = .ok (.bool false) w := by simp [go_sem, h]
theorem ne_t (h : x ≠ y) : (EOp.bin .neq t X Y (.int k x) (.int k y)).run.run Tryz.prog w = .ok (.bool true) w := by simp [go_sem, h]
theorem ne_f (h : x = y) : (EOp.bin .neq t X Y (.int k x) (.int k y)).run.run Tryz.prog w = .ok (.bool false) w := by simp [go_sem, h]
theorem add_i (h0 : -9223372036854775808 ≤ x + y) (h1 : x + y < 9223372036854775808) : (EOp.bin .add t X Y (.int .i64 x) (.int .i64 y)).run.run Tryz.prog w = .ok (.int .i64 (x + y)) w := by
  have e : IntKind.i64.wrap (x + y) = x + y := i64_idz h0 h1
  simp [go_sem, e]
theorem sub_i (h0 : -9223372036854775808 ≤ x - y) (h1 : x - y < 9223372036854775808) : (EOp.bin .sub t X Y (.int .i64 x) (.int .i64 y)).run.run Tryz.prog w = .ok (.int .i64 (x - y)) w := by
  have e : IntKind.i64.wrap (x - y) = x - y := i64_idz h0 h1
  simp [go_sem, e]
theorem mul_i (h0 : -9223372036854775808 ≤ x * y) (h1 : x * y < 9223372036854775808) : (EOp.bin .mul t X Y (.int .i64 x) (.int .i64 y)).run.run Tryz.prog w = .ok (.int .i64 (x * y)) w := by
  have e : IntKind.i64.wrap (x * y) = x * y := i64_idz h0 h1
  simp [go_sem, e]
end
theorem Fr.end0 {P : Program} {a : Act} {w : World} {n : Nat} {m : List (Nat × Value)} {fn : Func} {R : Ending → World → Prop} (H : Fr a n m) (h : fn.results = #[]) (hR : R (.returned (.tuple #[])) w) : bodyPost P fn R .normal a w := ⟨H.1, _, by rw [results_none h], hR⟩
end Go.Proofs.YtnjfjdfjheiocaaGreat
