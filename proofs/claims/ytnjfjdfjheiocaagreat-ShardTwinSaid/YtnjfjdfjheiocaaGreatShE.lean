/-
  Codes by sources (seen): plain data, memory, Ask.
-/
import Derived.Test.YtnjfjdfjheiocaaGreatShL
set_option linter.unusedSimpArgs false
set_option linter.unusedVariables false
namespace Go.Proofs.YtnjfjdfjheiocaaGreat
open Go.RowKit
/-! Codes of one source: a list that rises. -/
abbrev Cods := List (Int × Int)
def entC (l : Cods) : Ents := l.map fun p => (p.1, .int .i64 p.2)
def lookC (l : Cods) (k : Int) : Option Int := (l.find? fun p => p.1 == k).map (·.2)
def insC (x : Int × Int) : Cods → Cods
  | [] => [x]
  | y :: r => if x.1 < y.1 then x :: y :: r else y :: insC x r
def delC (l : Cods) (k : Int) : Cods := l.filter fun p => p.1 != k
def putC (l : Cods) (k v : Int) : Cods := insC (k, v) (delC l k)
theorem look_entC (l : Cods) (k : Int) : lookE (entC l) k = (lookC l k).map (Value.int .i64) := by
  unfold lookE lookC entC
  induction l with
  | nil => rfl
  | cons x r ih =>
    simp only [List.map_cons, List.find?_cons]
    cases h : x.1 == k
    · exact ih
    · rfl
theorem ins_entC (x : Int × Int) : ∀ l : Cods, insE (x.1, .int .i64 x.2) (entC l) = entC (insC x l)
  | [] => rfl
  | y :: r => by
    show insE _ ((y.1, _) :: entC r) = entC (if _ then _ else _)
    unfold insE
    by_cases h : x.1 < y.1
    · rw [if_pos h]
      simp only [h, if_true]
      rfl
    · rw [if_neg h]
      simp only [h, if_false]
      rw [ins_entC x r]
      rfl
theorem del_entC (l : Cods) (k : Int) : delE (entC l) k = entC (delC l k) := by
  unfold delE delC entC
  rw [List.filter_map]
  rfl
theorem put_entC (l : Cods) (k v : Int) : putE (entC l) k (.int .i64 v) = entC (putC l k v) := by
  unfold putE putC
  rw [del_entC]
  exact ins_entC (k, v) _
theorem entC_len (l : Cods) : (entC l).length = l.length := List.length_map _
theorem insC_len (x : Int × Int) : ∀ l : Cods, (insC x l).length = l.length + 1
  | [] => rfl
  | y :: r => by
    unfold insC
    split
    · rfl
    · rw [List.length_cons, insC_len x r, List.length_cons]
theorem putC_len (l : Cods) (k v : Int) : (putC l k v).length ≤ l.length + 1 := by
  unfold putC delC
  rw [insC_len]
  have := List.length_filter_le (fun p : Int × Int => p.1 != k) l
  omega
/-! The table in memory: four lows, four maps. -/
def upd {α : Type} (f : Nat → α) (i : Nat) (v : α) : Nat → α := fun j => if j = i then v else f j
theorem upd_at {α : Type} {f : Nat → α} {i : Nat} {v : α} : upd f i v i = v := if_pos rfl
theorem upd_self {α : Type} {f : Nat → α} {i : Nat} : upd f i (f i) = f := by
  funext j
  unfold upd
  split
  · rename_i h; rw [h]
  · rfl
def snP (lo : Nat → Int) (m : Nat → Option Nat) : Array Value := #[.int .i64 (lo 0), .int .i64 (lo 1), .int .i64 (lo 2), .int .i64 (lo 3), .map (m 0), .map (m 1), .map (m 2), .map (m 3)]
abbrev snC (lo : Nat → Int) (bs : Nat → Nat) : Array Value := snP lo fun i => some (bs i)
abbrev snT (bs : Nat → Nat) (cd : Nat → Cods) : List Thg := [mp (bs 0) (entC (cd 0)), mp (bs 1) (entC (cd 1)), mp (bs 2) (entC (cd 2)), mp (bs 3) (entC (cd 3))]
section
variable {lo : Nat → Int} {m : Nat → Option Nat} {bs : Nat → Nat} {cd : Nat → Cods} {i : Nat} {W w w0 : World} {L : List Thg} {g pn o : Nat}
theorem snP_lo (h : i < 4) : (snP lo m)[i]? = some (.int .i64 (lo i)) := by
  match i, h with
  | 0, _ | 1, _ | 2, _ | 3, _ => rfl
theorem snP_mp (h : i < 4) : (snP lo m)[4 + i]? = some (.map (m i)) := by
  match i, h with
  | 0, _ | 1, _ | 2, _ | 3, _ => rfl
theorem snP_setL (h : i < 4) (v : Int) : (snP lo m).setIfInBounds i (.int .i64 v) = snP (upd lo i v) m := by
  match i, h with
  | 0, _ | 1, _ | 2, _ | 3, _ => rfl
theorem snP_setM (h : i < 4) (v : Option Nat) : (snP lo m).setIfInBounds (4 + i) (.map v) = snP lo (upd m i v) := by
  match i, h with
  | 0, _ | 1, _ | 2, _ | 3, _ => rfl
theorem snT_mem (h : i < 4) : mp (bs i) (entC (cd i)) ∈ snT bs cd ++ L := by
  match i, h with
  | 0, _ | 1, _ | 2, _ | 3, _ => simp
/-- One of the maps, ahead of the others. -/
theorem snT_out (h : i < 4) : ∃ R, ∀ (l : Cods) (L : List Thg), (snT bs (upd cd i l) ++ L).Perm (mp (bs i) (entC l) :: (R ++ L)) := by
  match i, h with
  | 0, _ => exact ⟨[mp (bs 1) (entC (cd 1)), mp (bs 2) (entC (cd 2)), mp (bs 3) (entC (cd 3))], fun l L => .refl _⟩
  | 1, _ => exact ⟨[mp (bs 0) (entC (cd 0)), mp (bs 2) (entC (cd 2)), mp (bs 3) (entC (cd 3))], fun l L => .swap _ _ _⟩
  | 2, _ => exact ⟨[mp (bs 0) (entC (cd 0)), mp (bs 1) (entC (cd 1)), mp (bs 3) (entC (cd 3))], fun l L => (List.perm_append_comm (l₁ := [mp (bs 0) (entC (cd 0)), mp (bs 1) (entC (cd 1))]) (l₂ := [mp (bs 2) (entC l)])).append_right (mp (bs 3) (entC (cd 3)) :: L)⟩
  | 3, _ => exact ⟨[mp (bs 0) (entC (cd 0)), mp (bs 1) (entC (cd 1)), mp (bs 2) (entC (cd 2))], fun l L => (List.perm_append_comm (l₁ := [mp (bs 0) (entC (cd 0)), mp (bs 1) (entC (cd 1)), mp (bs 2) (entC (cd 2))]) (l₂ := [mp (bs 3) (entC l)])).append_right L⟩
theorem fs_s0 : (Instr.fieldAt 115 (.pointer (some ⟨g, 0, none⟩)) 0).run Tryz.prog w = .ok (.pointer (some ⟨g, 0, none⟩)) w := by simp [go_sem]
theorem fs_s1 : (Instr.fieldAt 115 (.pointer (some ⟨g, 0, none⟩)) 1).run Tryz.prog w = .ok (.pointer (some ⟨g, 4, none⟩)) w := by simp [go_sem]
theorem ixl (h : i < 4) : (Instr.indexAt 32 (.pointer (some ⟨g, 0, none⟩)) (.int .i64 (i : Nat))).run Tryz.prog w = .ok (.pointer (some ⟨g, i, none⟩)) w := by
  match i, h with
  | 0, _ | 1, _ | 2, _ | 3, _ => simp [go_sem]
theorem ixm (h : i < 4) : (Instr.indexAt 113 (.pointer (some ⟨g, 4, none⟩)) (.int .i64 (i : Nat))).run Tryz.prog w = .ok (.pointer (some ⟨g, 4 + i, none⟩)) w := by
  match i, h with
  | 0, _ | 1, _ | 2, _ | 3, _ => simp [go_sem]
theorem ixm0 : (Instr.indexAt 113 (.pointer (some ⟨g, 4, none⟩)) (.int .i64 0)).run Tryz.prog w = .ok (.pointer (some ⟨g, 4, none⟩)) w := ixm (i := 0) (by decide)
theorem ld_mpi {a : Addr} {b : Option Nat} (h : w.cell? a = some (.map b)) : (Instr.loadAt 112 (.pointer (some a))).run Tryz.prog w = .ok (.map b) w := by simp [go_sem, h]
theorem ld_inn {a : Addr} {z : Int} (h : w.cell? a = some (.int .i64 z)) : (Instr.loadAt 3 (.pointer (some a))).run Tryz.prog w = .ok (.int .i64 z) w := by simp [go_sem, h]
theorem B_pn {A B : Operand} {a : Addr} : ((do eqGuard .eql 75 A B (.pointer (some a)) (.pointer none); binOp .eql 75 (.pointer (some a)) (.pointer none)) : Sem Value).run Tryz.prog w = .ok (.bool false) w := by simp [go_sem]
theorem B_mpi {A B : Operand} {b : Nat} : ((do eqGuard .eql 112 A B (.map (some b)) (.map none); binOp .eql 112 (.map (some b)) (.map none)) : Sem Value).run Tryz.prog w = .ok (.bool false) w := by
  have e := run_eql_map_nil w 112 _ _ (some b) Tryz.underlying112
  simp [eqGuard, e]
theorem B_subI {A B : Operand} (x y : Int) : ((do eqGuard .sub 3 A B (.int .i64 x) (.int .i64 y); binOp .sub 3 (.int .i64 x) (.int .i64 y)) : Sem Value).run Tryz.prog w = .ok (.int .i64 (IntKind.i64.wrap (x - y))) w := by
  simp [go_sem]
theorem zero_int (w : World) : (zeroValue 3).run Tryz.prog w = .ok (.int .i64 0) w := by
  rw [Tryz.zeroValue3]
theorem lookC_run {b : Nat} {l : Cods} {k : Int} (h0 : -9223372036854775808 ≤ k) (h1 : k < 9223372036854775808) (h : MapAt W b (entC l)) : (Instr.lookup 112 (.map (some b)) (.int .i64 k) true).run Tryz.prog W = .ok (.tuple #[.int .i64 ((lookC l k).getD 0), .bool (lookC l k).isSome]) W := by
  rw [lookOk_run h0 h1 Tryz.underlying112 (zero_int W) h, look_entC]
  cases lookC l k <;> rfl
theorem lookC_run1 {b : Nat} {l : Cods} {k : Int} (h0 : -9223372036854775808 ≤ k) (h1 : k < 9223372036854775808) (h : MapAt W b (entC l)) : (Instr.lookup 112 (.map (some b)) (.int .i64 k) false).run Tryz.prog W = .ok (.int .i64 ((lookC l k).getD 0)) W := by
  rw [look_run h0 h1 Tryz.underlying112 (zero_int W) h, look_entC]
  cases lookC l k <;> rfl
/-- What may not be asked. -/
def badB (src seq low : Int) : Bool := decide (src < 0) || decide (src ≥ 4) || decide (low < 1) || decide (low > seq) || decide (seq > 1099511627776) || decide (IntKind.i64.wrap (seq - low) ≥ 16)
theorem badB_no {src seq low : Int} (h : badB src seq low = false) : 0 ≤ src ∧ src < 4 ∧ 1 ≤ low ∧ low ≤ seq ∧ seq ≤ 1099511627776 ∧ seq < low + 16 := by
  unfold badB at h
  simp only [Bool.or_eq_false_iff, decide_eq_false_iff_not] at h
  obtain ⟨⟨⟨⟨⟨h1, h2⟩, h3⟩, h4⟩, h5⟩, h6⟩ := h
  rw [i64_id (by omega) (by omega)] at h6
  omega
def askM (lo : Nat → Int) (cd : Nat → Cods) (src seq low : Int) : Int × Int :=
  if badB src seq low then (0, 0) else if seq < lo src.toNat then (1, 0) else match lookC (cd src.toNat) seq with
    | some n => (2, n)
    | none => (3, 0)
set_option maxRecDepth 100000 in
theorem ask_any {src seq low : Int} (h : LV w0 (bk pn (snC lo bs) 115 :: (snT bs cd ++ L)) W) : Calls Tryz.prog 35 #[.pointer (some ⟨pn, 0, none⟩), .int .i64 src, .int .i64 seq, .int .i64 low] W fun e W' => e = .returned (.tuple #[.int .i64 (askM lo cd src seq low).1, .int .i64 (askM lo cd src seq low).2]) ∧ W' = W := by
  have hc := h.at_
  have hm : ∀ i, i < 4 → MapAt W (bs i) (entC (cd i)) := fun i hi => h.tail.mem_map (snT_mem hi)
  clear h
  obtain ⟨y, hy⟩ : ∃ y, y = askM lo cd src seq low := ⟨_, rfl⟩
  rw [← hy]
  unfold askM at hy
  have hcW : ∀ w', w' = W → w'.heap[pn]? = some (.cells (snC lo bs) 115 (0, 0)) := fun w' e => e ▸ hc
  have hmW : ∀ w', w' = W → ∀ i, i < 4 → MapAt w' (bs i) (entC (cd i)) := fun w' e => e ▸ hm
  clear hc hm
  obtain ⟨E0, hE⟩ : ∃ w1, w1 = W := ⟨_, rfl⟩
  rw [← hE] at hcW hmW ⊢
  have hL : E0 = E0 := rfl
  clear hE
  obtain ⟨f0, hf0⟩ : ∃ b : Bool, b = false := ⟨_, rfl⟩
  obtain ⟨f1, hf1⟩ : ∃ b : Bool, b = false := ⟨_, rfl⟩
  go_enter Tryz.func35, Tryz.ntmps35
  refine wp_fr (n := 70) (m := [(0, _), (1, _), (2, _), (3, _)]) ⟨rfl, rfl, by intro p hp; simp only [List.mem_cons, List.not_mem_nil, or_false] at hp; rcases hp with rfl | rfl | rfl | rfl <;> rfl⟩ fun a0 H0 => ?_
  repeat (go_not_at_region 0; go_step)
  refine wp_region_lit ?_
  refine h_op H0 rfl (wn rfl) (R_as H0 rfl rfl) rfl (P4 0 1 2 3 rfl rfl rfl rfl) fun a1 H1 => ?_
  clear H0
  refine h_op H1 rfl (wn rfl) (R_as H1 rfl rfl) rfl (P4 0 1 2 3 rfl rfl rfl rfl) fun a2 H2 => ?_
  clear H1
  refine h_end ?_
  repeat (go_not_at_region 1; go_step)
  refine wp_region_lit ?_
  refine h_op H2 rfl (wn rfl) (R_mv H2 rfl rfl) rfl (P5 12 0 1 2 3 rfl rfl rfl rfl rfl) fun a3 H3 => ?_
  clear H2
  refine h_op H3 rfl (wn rfl) (R_bin H3 rfl rfl rfl (B_to (y := f0) B_pn hf0.symm)) rfl (P5 13 0 1 2 3 rfl rfl rfl rfl rfl) fun a4 H4 => ?_
  clear H3
  refine h_op H4 rfl (wn rfl) (R_mv H4 rfl rfl) rfl (P5 14 0 1 2 3 rfl rfl rfl rfl rfl) fun a5 H5 => ?_
  clear H4
  replace H5 := H5.pick [(0, .pointer (some ⟨pn, 0, none⟩)), (1, .int .i64 src), (2, .int .i64 seq), (3, .int .i64 low), (14, .bool f0)] (P5 0 1 2 3 14 rfl rfl rfl rfl rfl)
  generalize ht0 : f0 = t0 at H5
  refine wpList_cut [_, _, _, _, _, _, _, _] (R := fun a' w' => Fr a' 70 [(0, .pointer (some ⟨pn, 0, none⟩)), (1, .int .i64 src), (2, .int .i64 seq), (3, .int .i64 low), (22, .bool (t0 || f1))] ∧ w' = E0) ?_ ?_
  · cases t0
    · refine h_op H5 rfl (H5.wt rfl rfl rfl) (R_mv H5 rfl rfl) rfl (P6 15 0 1 2 3 14 rfl rfl rfl rfl rfl rfl) fun a6 H6 => ?_
      clear H5
      refine h_op H6 rfl (H6.wt rfl rfl rfl) (R_nc H6 rfl rfl) rfl (P6 16 0 1 2 3 14 rfl rfl rfl rfl rfl rfl) fun a7 H7 => ?_
      clear H6
      refine h_op H7 rfl (H7.wt rfl rfl rfl) (R_fa H7 rfl rfl fs_s1) rfl (P6 17 0 1 2 3 14 rfl rfl rfl rfl rfl rfl) fun a8 H8 => ?_
      clear H7
      refine h_op H8 rfl (H8.wt rfl rfl rfl) (R_ixa H8 rfl rfl rfl ixm0) rfl (P6 18 0 1 2 3 14 rfl rfl rfl rfl rfl rfl) fun a9 H9 => ?_
      clear H8
      refine h_op H9 rfl (H9.wt rfl rfl rfl) (R_ld H9 rfl rfl (ld_mpi (cells_at (hcW _ hL) 4))) rfl (P6 19 0 1 2 3 14 rfl rfl rfl rfl rfl rfl) fun a10 H10 => ?_
      clear H9
      refine h_op H10 rfl (H10.wt rfl rfl rfl) (R_bin H10 rfl rfl rfl (B_to (y := f1) B_mpi hf1.symm)) rfl (P6 20 0 1 2 3 14 rfl rfl rfl rfl rfl rfl) fun a11 H11 => ?_
      clear H10
      refine h_op H11 rfl (wn rfl) (R_pick H11 rfl rfl rfl) rfl (P5 21 0 1 2 3 rfl rfl rfl rfl rfl) fun a12 H12 => ?_
      clear H11
      refine h_op H12 rfl (wn rfl) (R_mv H12 rfl rfl) rfl (P5 22 0 1 2 3 rfl rfl rfl rfl rfl) fun a13 H13 => ?_
      clear H12
      exact h_end ⟨H13.pick _ (P5 0 1 2 3 22 rfl rfl rfl rfl rfl), hL⟩
    · refine h_skip H5 rfl (H5.wf rfl rfl rfl) rfl (P6 15 0 1 2 3 14 rfl rfl rfl rfl rfl rfl) fun a6 H6 => ?_
      clear H5
      refine h_skip H6 rfl (H6.wf rfl rfl rfl) rfl (P6 16 0 1 2 3 14 rfl rfl rfl rfl rfl rfl) fun a7 H7 => ?_
      clear H6
      refine h_skip H7 rfl (H7.wf rfl rfl rfl) rfl (P6 17 0 1 2 3 14 rfl rfl rfl rfl rfl rfl) fun a8 H8 => ?_
      clear H7
      refine h_skip H8 rfl (H8.wf rfl rfl rfl) rfl (P6 18 0 1 2 3 14 rfl rfl rfl rfl rfl rfl) fun a9 H9 => ?_
      clear H8
      refine h_skip H9 rfl (H9.wf rfl rfl rfl) rfl (P6 19 0 1 2 3 14 rfl rfl rfl rfl rfl rfl) fun a10 H10 => ?_
      clear H9
      refine h_skip H10 rfl (H10.wf rfl rfl rfl) rfl (P6 20 0 1 2 3 14 rfl rfl rfl rfl rfl rfl) fun a11 H11 => ?_
      clear H10
      refine h_op H11 rfl (wn rfl) (R_pick H11 rfl rfl rfl) rfl (P5 21 0 1 2 3 rfl rfl rfl rfl rfl) fun a12 H12 => ?_
      clear H11
      refine h_op H12 rfl (wn rfl) (R_mv H12 rfl rfl) rfl (P5 22 0 1 2 3 rfl rfl rfl rfl rfl) fun a13 H13 => ?_
      clear H12
      exact h_end ⟨H13.pick _ (P5 0 1 2 3 22 rfl rfl rfl rfl rfl), hL⟩
  clear hL H5
  rintro a14 wx ⟨H14, hL⟩
  generalize ht1 : (t0 || f1) = t1 at H14
  refine wpList_cut [_, _, _, _] (R := fun a' w' => Fr a' 70 [(0, .pointer (some ⟨pn, 0, none⟩)), (1, .int .i64 src), (2, .int .i64 seq), (3, .int .i64 low), (26, .bool (t1 || (decide (src < 0))))] ∧ w' = E0) ?_ ?_
  · cases t1
    · refine h_op H14 rfl (H14.wt rfl rfl rfl) (R_mv H14 rfl rfl) rfl (P6 23 0 1 2 3 22 rfl rfl rfl rfl rfl rfl) fun a15 H15 => ?_
      clear H14
      refine h_op H15 rfl (H15.wt rfl rfl rfl) (R_bin H15 rfl rfl rfl (B_lt Tryz.underlying3 _ _)) rfl (P6 24 0 1 2 3 22 rfl rfl rfl rfl rfl rfl) fun a16 H16 => ?_
      clear H15
      refine h_op H16 rfl (wn rfl) (R_pick H16 rfl rfl rfl) rfl (P5 25 0 1 2 3 rfl rfl rfl rfl rfl) fun a17 H17 => ?_
      clear H16
      refine h_op H17 rfl (wn rfl) (R_mv H17 rfl rfl) rfl (P5 26 0 1 2 3 rfl rfl rfl rfl rfl) fun a18 H18 => ?_
      clear H17
      exact h_end ⟨H18.pick _ (P5 0 1 2 3 26 rfl rfl rfl rfl rfl), hL⟩
    · refine h_skip H14 rfl (H14.wf rfl rfl rfl) rfl (P6 23 0 1 2 3 22 rfl rfl rfl rfl rfl rfl) fun a15 H15 => ?_
      clear H14
      refine h_skip H15 rfl (H15.wf rfl rfl rfl) rfl (P6 24 0 1 2 3 22 rfl rfl rfl rfl rfl rfl) fun a16 H16 => ?_
      clear H15
      refine h_op H16 rfl (wn rfl) (R_pick H16 rfl rfl rfl) rfl (P5 25 0 1 2 3 rfl rfl rfl rfl rfl) fun a17 H17 => ?_
      clear H16
      refine h_op H17 rfl (wn rfl) (R_mv H17 rfl rfl) rfl (P5 26 0 1 2 3 rfl rfl rfl rfl rfl) fun a18 H18 => ?_
      clear H17
      exact h_end ⟨H18.pick _ (P5 0 1 2 3 26 rfl rfl rfl rfl rfl), hL⟩
  clear hL H14
  rintro a19 wx ⟨H19, hL⟩
  generalize ht2 : (t1 || (decide (src < 0))) = t2 at H19
  refine wpList_cut [_, _, _, _] (R := fun a' w' => Fr a' 70 [(0, .pointer (some ⟨pn, 0, none⟩)), (1, .int .i64 src), (2, .int .i64 seq), (3, .int .i64 low), (30, .bool (t2 || (decide (src ≥ 4))))] ∧ w' = E0) ?_ ?_
  · cases t2
    · refine h_op H19 rfl (H19.wt rfl rfl rfl) (R_mv H19 rfl rfl) rfl (P6 27 0 1 2 3 26 rfl rfl rfl rfl rfl rfl) fun a20 H20 => ?_
      clear H19
      refine h_op H20 rfl (H20.wt rfl rfl rfl) (R_bin H20 rfl rfl rfl (B_ge Tryz.underlying3 _ _)) rfl (P6 28 0 1 2 3 26 rfl rfl rfl rfl rfl rfl) fun a21 H21 => ?_
      clear H20
      refine h_op H21 rfl (wn rfl) (R_pick H21 rfl rfl rfl) rfl (P5 29 0 1 2 3 rfl rfl rfl rfl rfl) fun a22 H22 => ?_
      clear H21
      refine h_op H22 rfl (wn rfl) (R_mv H22 rfl rfl) rfl (P5 30 0 1 2 3 rfl rfl rfl rfl rfl) fun a23 H23 => ?_
      clear H22
      exact h_end ⟨H23.pick _ (P5 0 1 2 3 30 rfl rfl rfl rfl rfl), hL⟩
    · refine h_skip H19 rfl (H19.wf rfl rfl rfl) rfl (P6 27 0 1 2 3 26 rfl rfl rfl rfl rfl rfl) fun a20 H20 => ?_
      clear H19
      refine h_skip H20 rfl (H20.wf rfl rfl rfl) rfl (P6 28 0 1 2 3 26 rfl rfl rfl rfl rfl rfl) fun a21 H21 => ?_
      clear H20
      refine h_op H21 rfl (wn rfl) (R_pick H21 rfl rfl rfl) rfl (P5 29 0 1 2 3 rfl rfl rfl rfl rfl) fun a22 H22 => ?_
      clear H21
      refine h_op H22 rfl (wn rfl) (R_mv H22 rfl rfl) rfl (P5 30 0 1 2 3 rfl rfl rfl rfl rfl) fun a23 H23 => ?_
      clear H22
      exact h_end ⟨H23.pick _ (P5 0 1 2 3 30 rfl rfl rfl rfl rfl), hL⟩
  clear hL H19
  rintro a24 wx ⟨H24, hL⟩
  generalize ht3 : (t2 || (decide (src ≥ 4))) = t3 at H24
  refine wpList_cut [_, _, _, _] (R := fun a' w' => Fr a' 70 [(0, .pointer (some ⟨pn, 0, none⟩)), (1, .int .i64 src), (2, .int .i64 seq), (3, .int .i64 low), (34, .bool (t3 || (decide (low < 1))))] ∧ w' = E0) ?_ ?_
  · cases t3
    · refine h_op H24 rfl (H24.wt rfl rfl rfl) (R_mv H24 rfl rfl) rfl (P6 31 0 1 2 3 30 rfl rfl rfl rfl rfl rfl) fun a25 H25 => ?_
      clear H24
      refine h_op H25 rfl (H25.wt rfl rfl rfl) (R_bin H25 rfl rfl rfl (B_lt Tryz.underlying3 _ _)) rfl (P6 32 0 1 2 3 30 rfl rfl rfl rfl rfl rfl) fun a26 H26 => ?_
      clear H25
      refine h_op H26 rfl (wn rfl) (R_pick H26 rfl rfl rfl) rfl (P5 33 0 1 2 3 rfl rfl rfl rfl rfl) fun a27 H27 => ?_
      clear H26
      refine h_op H27 rfl (wn rfl) (R_mv H27 rfl rfl) rfl (P5 34 0 1 2 3 rfl rfl rfl rfl rfl) fun a28 H28 => ?_
      clear H27
      exact h_end ⟨H28.pick _ (P5 0 1 2 3 34 rfl rfl rfl rfl rfl), hL⟩
    · refine h_skip H24 rfl (H24.wf rfl rfl rfl) rfl (P6 31 0 1 2 3 30 rfl rfl rfl rfl rfl rfl) fun a25 H25 => ?_
      clear H24
      refine h_skip H25 rfl (H25.wf rfl rfl rfl) rfl (P6 32 0 1 2 3 30 rfl rfl rfl rfl rfl rfl) fun a26 H26 => ?_
      clear H25
      refine h_op H26 rfl (wn rfl) (R_pick H26 rfl rfl rfl) rfl (P5 33 0 1 2 3 rfl rfl rfl rfl rfl) fun a27 H27 => ?_
      clear H26
      refine h_op H27 rfl (wn rfl) (R_mv H27 rfl rfl) rfl (P5 34 0 1 2 3 rfl rfl rfl rfl rfl) fun a28 H28 => ?_
      clear H27
      exact h_end ⟨H28.pick _ (P5 0 1 2 3 34 rfl rfl rfl rfl rfl), hL⟩
  clear hL H24
  rintro a29 wx ⟨H29, hL⟩
  generalize ht4 : (t3 || (decide (low < 1))) = t4 at H29
  refine wpList_cut [_, _, _, _, _] (R := fun a' w' => Fr a' 70 [(0, .pointer (some ⟨pn, 0, none⟩)), (1, .int .i64 src), (2, .int .i64 seq), (3, .int .i64 low), (39, .bool (t4 || (decide (low > seq))))] ∧ w' = E0) ?_ ?_
  · cases t4
    · refine h_op H29 rfl (H29.wt rfl rfl rfl) (R_mv H29 rfl rfl) rfl (P6 35 0 1 2 3 34 rfl rfl rfl rfl rfl rfl) fun a30 H30 => ?_
      clear H29
      refine h_op H30 rfl (H30.wt rfl rfl rfl) (R_mv H30 rfl rfl) rfl (P7 36 35 0 1 2 3 34 rfl rfl rfl rfl rfl rfl rfl) fun a31 H31 => ?_
      clear H30
      refine h_op H31 rfl (H31.wt rfl rfl rfl) (R_bin H31 rfl rfl rfl (B_gt Tryz.underlying3 _ _)) rfl (P6 37 0 1 2 3 34 rfl rfl rfl rfl rfl rfl) fun a32 H32 => ?_
      clear H31
      refine h_op H32 rfl (wn rfl) (R_pick H32 rfl rfl rfl) rfl (P5 38 0 1 2 3 rfl rfl rfl rfl rfl) fun a33 H33 => ?_
      clear H32
      refine h_op H33 rfl (wn rfl) (R_mv H33 rfl rfl) rfl (P5 39 0 1 2 3 rfl rfl rfl rfl rfl) fun a34 H34 => ?_
      clear H33
      exact h_end ⟨H34.pick _ (P5 0 1 2 3 39 rfl rfl rfl rfl rfl), hL⟩
    · refine h_skip H29 rfl (H29.wf rfl rfl rfl) rfl (P6 35 0 1 2 3 34 rfl rfl rfl rfl rfl rfl) fun a30 H30 => ?_
      clear H29
      refine h_skip H30 rfl (H30.wf rfl rfl rfl) rfl (P7 36 35 0 1 2 3 34 rfl rfl rfl rfl rfl rfl rfl) fun a31 H31 => ?_
      clear H30
      refine h_skip H31 rfl (H31.wf rfl rfl rfl) rfl (P6 37 0 1 2 3 34 rfl rfl rfl rfl rfl rfl) fun a32 H32 => ?_
      clear H31
      refine h_op H32 rfl (wn rfl) (R_pick H32 rfl rfl rfl) rfl (P5 38 0 1 2 3 rfl rfl rfl rfl rfl) fun a33 H33 => ?_
      clear H32
      refine h_op H33 rfl (wn rfl) (R_mv H33 rfl rfl) rfl (P5 39 0 1 2 3 rfl rfl rfl rfl rfl) fun a34 H34 => ?_
      clear H33
      exact h_end ⟨H34.pick _ (P5 0 1 2 3 39 rfl rfl rfl rfl rfl), hL⟩
  clear hL H29
  rintro a35 wx ⟨H35, hL⟩
  generalize ht5 : (t4 || (decide (low > seq))) = t5 at H35
  refine wpList_cut [_, _, _, _] (R := fun a' w' => Fr a' 70 [(0, .pointer (some ⟨pn, 0, none⟩)), (1, .int .i64 src), (2, .int .i64 seq), (3, .int .i64 low), (43, .bool (t5 || (decide (seq > 1099511627776))))] ∧ w' = E0) ?_ ?_
  · cases t5
    · refine h_op H35 rfl (H35.wt rfl rfl rfl) (R_mv H35 rfl rfl) rfl (P6 40 0 1 2 3 39 rfl rfl rfl rfl rfl rfl) fun a36 H36 => ?_
      clear H35
      refine h_op H36 rfl (H36.wt rfl rfl rfl) (R_bin H36 rfl rfl rfl (B_gt Tryz.underlying3 _ _)) rfl (P6 41 0 1 2 3 39 rfl rfl rfl rfl rfl rfl) fun a37 H37 => ?_
      clear H36
      refine h_op H37 rfl (wn rfl) (R_pick H37 rfl rfl rfl) rfl (P5 42 0 1 2 3 rfl rfl rfl rfl rfl) fun a38 H38 => ?_
      clear H37
      refine h_op H38 rfl (wn rfl) (R_mv H38 rfl rfl) rfl (P5 43 0 1 2 3 rfl rfl rfl rfl rfl) fun a39 H39 => ?_
      clear H38
      exact h_end ⟨H39.pick _ (P5 0 1 2 3 43 rfl rfl rfl rfl rfl), hL⟩
    · refine h_skip H35 rfl (H35.wf rfl rfl rfl) rfl (P6 40 0 1 2 3 39 rfl rfl rfl rfl rfl rfl) fun a36 H36 => ?_
      clear H35
      refine h_skip H36 rfl (H36.wf rfl rfl rfl) rfl (P6 41 0 1 2 3 39 rfl rfl rfl rfl rfl rfl) fun a37 H37 => ?_
      clear H36
      refine h_op H37 rfl (wn rfl) (R_pick H37 rfl rfl rfl) rfl (P5 42 0 1 2 3 rfl rfl rfl rfl rfl) fun a38 H38 => ?_
      clear H37
      refine h_op H38 rfl (wn rfl) (R_mv H38 rfl rfl) rfl (P5 43 0 1 2 3 rfl rfl rfl rfl rfl) fun a39 H39 => ?_
      clear H38
      exact h_end ⟨H39.pick _ (P5 0 1 2 3 43 rfl rfl rfl rfl rfl), hL⟩
  clear hL H35
  rintro a40 wx ⟨H40, hL⟩
  generalize ht6 : (t5 || (decide (seq > 1099511627776))) = t6 at H40
  refine wpList_cut [_, _, _, _, _] (R := fun a' w' => Fr a' 70 [(0, .pointer (some ⟨pn, 0, none⟩)), (1, .int .i64 src), (2, .int .i64 seq), (3, .int .i64 low), (48, .bool (t6 || (decide (IntKind.i64.wrap (seq - low) ≥ 16))))] ∧ w' = E0) ?_ ?_
  · cases t6
    · refine h_op H40 rfl (H40.wt rfl rfl rfl) (R_mv H40 rfl rfl) rfl (P6 44 0 1 2 3 43 rfl rfl rfl rfl rfl rfl) fun a41 H41 => ?_
      clear H40
      refine h_op H41 rfl (H41.wt rfl rfl rfl) (R_mv H41 rfl rfl) rfl (P7 45 44 0 1 2 3 43 rfl rfl rfl rfl rfl rfl rfl) fun a42 H42 => ?_
      clear H41
      refine h_op H42 rfl (H42.wt rfl rfl rfl) (R_bin H42 rfl rfl rfl (B_subI _ _)) rfl (P6 46 0 1 2 3 43 rfl rfl rfl rfl rfl rfl) fun a43 H43 => ?_
      clear H42
      refine h_op H43 rfl (H43.wt rfl rfl rfl) (R_bin H43 rfl rfl rfl (B_ge Tryz.underlying3 _ _)) rfl (P6 47 0 1 2 3 43 rfl rfl rfl rfl rfl rfl) fun a44 H44 => ?_
      clear H43
      refine h_op H44 rfl (wn rfl) (R_pick H44 rfl rfl rfl) rfl (P5 48 0 1 2 3 rfl rfl rfl rfl rfl) fun a45 H45 => ?_
      clear H44
      exact h_end ⟨H45.pick _ (P5 0 1 2 3 48 rfl rfl rfl rfl rfl), hL⟩
    · refine h_skip H40 rfl (H40.wf rfl rfl rfl) rfl (P6 44 0 1 2 3 43 rfl rfl rfl rfl rfl rfl) fun a41 H41 => ?_
      clear H40
      refine h_skip H41 rfl (H41.wf rfl rfl rfl) rfl (P7 45 44 0 1 2 3 43 rfl rfl rfl rfl rfl rfl rfl) fun a42 H42 => ?_
      clear H41
      refine h_skip H42 rfl (H42.wf rfl rfl rfl) rfl (P6 46 0 1 2 3 43 rfl rfl rfl rfl rfl rfl) fun a43 H43 => ?_
      clear H42
      refine h_skip H43 rfl (H43.wf rfl rfl rfl) rfl (P6 47 0 1 2 3 43 rfl rfl rfl rfl rfl rfl) fun a44 H44 => ?_
      clear H43
      refine h_op H44 rfl (wn rfl) (R_pick H44 rfl rfl rfl) rfl (P5 48 0 1 2 3 rfl rfl rfl rfl rfl) fun a45 H45 => ?_
      clear H44
      exact h_end ⟨H45.pick _ (P5 0 1 2 3 48 rfl rfl rfl rfl rfl), hL⟩
  clear hL H40
  rintro a46 wx ⟨H46, hL⟩
  generalize ht7 : (t6 || (decide (IntKind.i64.wrap (seq - low) ≥ 16))) = t7 at H46
  have e2 : badB src seq low = t7 := by rw [← ht7, ← ht6, ← ht5, ← ht4, ← ht3, ← ht2, ← ht1, ← ht0, hf0, hf1]; rfl
  rw [e2] at hy
  cases t7
  rotate_left
  · repeat (go_not_at_region 2; go_step)
    refine wp_cond_true (H46.ev (x := .tmp 48) rfl) ?_
    repeat (go_not_at_region 2; go_step)
    refine wp_region_lit ?_
    refine h_op H46 rfl (wn rfl) (R_as H46 rfl rfl) rfl (P1 8 rfl) fun a47 H47 => ?_
    clear H46
    refine h_op H47 rfl (wn rfl) (R_as H47 rfl rfl) rfl (P2 9 8 rfl rfl) fun a48 H48 => ?_
    clear H47
    refine h_end ?_
    repeat (go_not_at_region 999; go_step)
    subst hy
    exact H48.ret2 rfl rfl rfl ⟨rfl, hL⟩
  obtain ⟨b0, b1, b2, b3, b4, b5⟩ := badB_no e2
  obtain ⟨i, rfl⟩ := Int.eq_ofNat_of_zero_le b0
  have hi : i < 4 := by omega
  rw [if_neg (by decide), show (Int.toNat (i : Int)) = i from rfl] at hy
  repeat (go_not_at_region 3; go_step)
  refine wp_cond_false (H46.ev (x := .tmp 48) rfl) ?_
  repeat (go_not_at_region 3; go_step)
  refine wp_region_lit ?_
  refine h_op H46 rfl (wn rfl) (R_mv H46 rfl rfl) rfl (P4 49 0 1 2 rfl rfl rfl rfl) fun a47 H47 => ?_
  clear H46
  refine h_op H47 rfl (wn rfl) (R_mv H47 rfl rfl) rfl (P5 50 49 0 1 2 rfl rfl rfl rfl rfl) fun a48 H48 => ?_
  clear H47
  refine h_op H48 rfl (wn rfl) (R_mv H48 rfl rfl) rfl (P6 51 50 49 0 1 2 rfl rfl rfl rfl rfl rfl) fun a49 H49 => ?_
  clear H48
  refine h_op H49 rfl (wn rfl) (R_nc H49 rfl rfl) rfl (P6 52 51 49 0 1 2 rfl rfl rfl rfl rfl rfl) fun a50 H50 => ?_
  clear H49
  refine h_op H50 rfl (wn rfl) (R_fa H50 rfl rfl fs_s0) rfl (P6 53 51 49 0 1 2 rfl rfl rfl rfl rfl rfl) fun a51 H51 => ?_
  clear H50
  refine h_op H51 rfl (wn rfl) (R_ixa H51 rfl rfl rfl (ixl hi)) rfl (P5 54 49 0 1 2 rfl rfl rfl rfl rfl) fun a52 H52 => ?_
  clear H51
  refine h_op H52 rfl (wn rfl) (R_ld H52 rfl rfl (ld_inn ((cells_at (hcW _ hL) i).trans (snP_lo hi)))) rfl (P5 55 49 0 1 2 rfl rfl rfl rfl rfl) fun a53 H53 => ?_
  clear H52
  refine h_op H53 rfl (wn rfl) (R_bin H53 rfl rfl rfl (B_lt Tryz.underlying3 _ _)) rfl (P4 56 0 1 2 rfl rfl rfl rfl) fun a54 H54 => ?_
  clear H53
  refine h_end ?_
  by_cases hlo : seq < lo i
  · rw [decide_eq_true hlo] at H54
    rw [if_pos hlo] at hy
    repeat (go_not_at_region 4; go_step)
    refine wp_cond_true (H54.ev (x := .tmp 56) rfl) ?_
    repeat (go_not_at_region 4; go_step)
    refine wp_region_lit ?_
    refine h_op H54 rfl (wn rfl) (R_as H54 rfl rfl) rfl (P1 8 rfl) fun a55 H55 => ?_
    clear H54
    refine h_op H55 rfl (wn rfl) (R_as H55 rfl rfl) rfl (P2 9 8 rfl rfl) fun a56 H56 => ?_
    clear H55
    refine h_end ?_
    repeat (go_not_at_region 999; go_step)
    subst hy
    exact H56.ret2 rfl rfl rfl ⟨rfl, hL⟩
  rw [decide_eq_false hlo] at H54
  rw [if_neg hlo] at hy
  repeat (go_not_at_region 5; go_step)
  refine wp_cond_false (H54.ev (x := .tmp 56) rfl) ?_
  repeat (go_not_at_region 5; go_step)
  refine wp_region_lit ?_
  refine h_op H54 rfl (wn rfl) (R_mv H54 rfl rfl) rfl (P3 58 1 2 rfl rfl rfl) fun a55 H55 => ?_
  clear H54
  refine h_op H55 rfl (wn rfl) (R_mv H55 rfl rfl) rfl (P3 59 58 2 rfl rfl rfl) fun a56 H56 => ?_
  clear H55
  refine h_op H56 rfl (wn rfl) (R_nc H56 rfl rfl) rfl (P3 60 59 2 rfl rfl rfl) fun a57 H57 => ?_
  clear H56
  refine h_op H57 rfl (wn rfl) (R_fa H57 rfl rfl fs_s1) rfl (P3 61 59 2 rfl rfl rfl) fun a58 H58 => ?_
  clear H57
  refine h_op H58 rfl (wn rfl) (R_ixa H58 rfl rfl rfl (ixm hi)) rfl (P2 62 2 rfl rfl) fun a59 H59 => ?_
  clear H58
  refine h_op H59 rfl (wn rfl) (R_ld H59 rfl rfl (ld_mpi ((cells_at (hcW _ hL) (4 + i)).trans (snP_mp hi)))) rfl (P2 63 2 rfl rfl) fun a60 H60 => ?_
  clear H59
  refine h_op H60 rfl (wn rfl) (R_mv H60 rfl rfl) rfl (P2 64 63 rfl rfl) fun a61 H61 => ?_
  clear H60
  refine h_op H61 rfl (wn rfl) (R_lk H61 rfl rfl rfl (lookC_run (by omega) (by omega) (hmW _ hL i hi))) rfl (P1 65 rfl) fun a62 H62 => ?_
  clear H61
  refine h_op H62 rfl (wn rfl) (R_mv H62 rfl rfl) rfl (P1 57 rfl) fun a63 H63 => ?_
  clear H62
  refine h_op H63 rfl (wn rfl) (R_ext H63 rfl rfl rfl) rfl (P2 66 57 rfl rfl) fun a64 H64 => ?_
  clear H63
  refine h_op H64 rfl (wn rfl) (R_ext H64 rfl rfl rfl) rfl (P2 67 66 rfl rfl) fun a65 H65 => ?_
  clear H64
  refine h_op H65 rfl (wn rfl) (R_as H65 rfl rfl) rfl (P2 10 67 rfl rfl) fun a66 H66 => ?_
  clear H65
  refine h_op H66 rfl (wn rfl) (R_as H66 rfl rfl) rfl (P2 11 10 rfl rfl) fun a67 H67 => ?_
  clear H66
  refine h_end ?_
  cases hlk : lookC (cd i) seq with
  | none =>
    rw [hlk] at hy H67
    repeat (go_not_at_region 6; go_step)
    repeat (go_not_at_region 6; go_step)
    refine wp_region_lit ?_
    refine h_op H67 rfl (wn rfl) (R_mv H67 rfl rfl) rfl (P1 68 rfl) fun a68 H68 => ?_
    clear H67
    refine h_end ?_
    repeat (go_not_at_region 8; go_step)
    refine wp_cond_false (H68.ev (x := .tmp 68) rfl) ?_
    repeat (go_not_at_region 8; go_step)
    refine wp_region_lit ?_
    refine h_op H68 rfl (wn rfl) (R_as H68 rfl rfl) rfl (P1 8 rfl) fun a69 H69 => ?_
    clear H68
    refine h_op H69 rfl (wn rfl) (R_as H69 rfl rfl) rfl (P2 9 8 rfl rfl) fun a70 H70 => ?_
    clear H69
    refine h_end ?_
    repeat (go_not_at_region 999; go_step)
    subst hy
    exact H70.ret2 rfl rfl rfl ⟨rfl, hL⟩
  | some nn =>
    rw [hlk] at hy H67
    repeat (go_not_at_region 6; go_step)
    repeat (go_not_at_region 6; go_step)
    refine wp_region_lit ?_
    refine h_op H67 rfl (wn rfl) (R_mv H67 rfl rfl) rfl (P2 68 10 rfl rfl) fun a68 H68 => ?_
    clear H67
    refine h_end ?_
    repeat (go_not_at_region 7; go_step)
    refine wp_cond_true (H68.ev (x := .tmp 68) rfl) ?_
    repeat (go_not_at_region 7; go_step)
    refine wp_region_lit ?_
    refine h_op H68 rfl (wn rfl) (R_mv H68 rfl rfl) rfl (P1 69 rfl) fun a69 H69 => ?_
    clear H68
    refine h_op H69 rfl (wn rfl) (R_as H69 rfl rfl) rfl (P2 8 69 rfl rfl) fun a70 H70 => ?_
    clear H69
    refine h_op H70 rfl (wn rfl) (R_as H70 rfl rfl) rfl (P2 9 8 rfl rfl) fun a71 H71 => ?_
    clear H70
    refine h_end ?_
    repeat (go_not_at_region 999; go_step)
    subst hy
    exact H71.ret2 rfl rfl rfl ⟨rfl, hL⟩
end
end Go.Proofs.YtnjfjdfjheiocaaGreat
