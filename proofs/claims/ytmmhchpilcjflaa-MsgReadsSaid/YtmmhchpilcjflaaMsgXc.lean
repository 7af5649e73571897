/-
  meterref04.Read: what it reads, by kinds; the kinds up to 5.
-/
import Derived.Test.YtmmhchpilcjflaaMsgXa
import Derived.Test.YtmmhchpilcjflaaMsgRoA
import Derived.Test.YtmmhchpilcjflaaMsgFk
set_option linter.unusedSimpArgs false
set_option linter.unusedVariables false
namespace Go.Proofs.Ytmmhchpilcjflaa
open Go.RowKit

def body1 (s : ByteArray) (n : Nat) (b : Int) : PMsg × Nat × Int :=
  let a0 := itemE s n b
  ({ PMsg.zero with kind := 1, isrc := a0.1.isrc, iseq := a0.1.iseq, ilow := a0.1.ilow, ikind := a0.1.ikind, ikey := a0.1.ikey, ipart := a0.1.ipart, iat := a0.1.iat, iN := a0.1.iN }, a0.2.1, a0.2.2)
def body2 (s : ByteArray) (n : Nat) (b : Int) : PMsg × Nat × Int :=
  let a0 := mostE s n b 2147483647
  let a1 := mostE s a0.2.1 a0.2.2 2147483647
  let a2 := mostE s a1.2.1 a1.2.2 2147483647
  ({ PMsg.zero with kind := 2, isrc := (a0.1 : Nat), iseq := (a1.1 : Nat), code := (a2.1 : Nat) }, a2.2.1, a2.2.2)
def body3 (s : ByteArray) (n : Nat) (b : Int) : PMsg × Nat × Int :=
  let a0 := mostE s n b 2147483647
  let a1 := mostE s a0.2.1 a0.2.2 2147483647
  let a2 := tabE s a1.2.1 a1.2.2
  ({ PMsg.zero with kind := 3, isrc := (a0.1 : Nat), iseq := (a1.1 : Nat), epoch := a2.1.1, nodes := a2.1.2.1, owner := a2.1.2.2 }, a2.2.1, a2.2.2)
def body4 (s : ByteArray) (n : Nat) (b : Int) : PMsg × Nat × Int :=
  let a0 := mostE s n b 2147483647
  let a1 := mostE s a0.2.1 a0.2.2 2147483647
  let a2 := mostE s a1.2.1 a1.2.2 2147483647
  ({ PMsg.zero with kind := 4, move := (a0.1 : Nat), part := (a1.1 : Nat), «to» := (a2.1 : Nat) }, a2.2.1, a2.2.2)
def body5 (s : ByteArray) (n : Nat) (b : Int) : PMsg × Nat × Int :=
  let a0 := mostE s n b 2147483647
  let a1 := mostE s a0.2.1 a0.2.2 2147483647
  let a2 := mostE s a1.2.1 a1.2.2 2147483647
  let a3 := mostE s a2.2.1 a2.2.2 2147483647
  let a4 := textE s a3.2.1 a3.2.2 1024
  ({ PMsg.zero with kind := 5, move := (a0.1 : Nat), part := (a1.1 : Nat), n := (a2.1 : Nat), count := (a3.1 : Nat), data := a4.1 }, a4.2.1, a4.2.2)
def body6 (s : ByteArray) (n : Nat) (b : Int) : PMsg × Nat × Int :=
  let a0 := mostE s n b 2147483647
  let a1 := mostE s a0.2.1 a0.2.2 2147483647
  let a2 := mostE s a1.2.1 a1.2.2 2147483647
  let a3 := listE s a2.2.1 a2.2.2 1024
  ({ PMsg.zero with kind := 6, move := (a0.1 : Nat), part := (a1.1 : Nat), n := (a2.1 : Nat), set := a3.1 }, a3.2.1, a3.2.2)
def body7 (s : ByteArray) (n : Nat) (b : Int) : PMsg × Nat × Int :=
  let a0 := mostE s n b 2147483647
  let a1 := mostE s a0.2.1 a0.2.2 2147483647
  let a2 := mostE s a1.2.1 a1.2.2 2147483647
  let a3 := itemE s a2.2.1 a2.2.2
  ({ PMsg.zero with kind := 7, move := (a0.1 : Nat), part := (a1.1 : Nat), n := (a2.1 : Nat), isrc := a3.1.isrc, iseq := a3.1.iseq, ilow := a3.1.ilow, ikind := a3.1.ikind, ikey := a3.1.ikey, ipart := a3.1.ipart, iat := a3.1.iat, iN := a3.1.iN }, a3.2.1, a3.2.2)
def body8 (s : ByteArray) (n : Nat) (b : Int) : PMsg × Nat × Int :=
  let a0 := mostE s n b 2147483647
  let a1 := mostE s a0.2.1 a0.2.2 2147483647
  let a2 := mostE s a1.2.1 a1.2.2 2147483647
  ({ PMsg.zero with kind := 8, move := (a0.1 : Nat), part := (a1.1 : Nat), n := (a2.1 : Nat) }, a2.2.1, a2.2.2)
def body9 (s : ByteArray) (n : Nat) (b : Int) : PMsg × Nat × Int :=
  let a0 := mostE s n b 2147483647
  let a1 := mostE s a0.2.1 a0.2.2 2147483647
  let a2 := mostE s a1.2.1 a1.2.2 2147483647
  let a3 := numE s a2.2.1 a2.2.2
  let a4 := numE s a3.2.1 a3.2.2
  ({ PMsg.zero with kind := 9, move := (a0.1 : Nat), part := (a1.1 : Nat), n := (a2.1 : Nat), at_ := zag a3.1, digest := a4.1 }, a4.2.1, a4.2.2)
def body10 (s : ByteArray) (n : Nat) (b : Int) : PMsg × Nat × Int :=
  let a0 := mostE s n b 2147483647
  let a1 := mostE s a0.2.1 a0.2.2 2147483647
  let a2 := mostE s a1.2.1 a1.2.2 2147483647
  ({ PMsg.zero with kind := 10, move := (a0.1 : Nat), part := (a1.1 : Nat), code := (a2.1 : Nat) }, a2.2.1, a2.2.2)
def body11 (s : ByteArray) (n : Nat) (b : Int) : PMsg × Nat × Int :=
  let a0 := mostE s n b 2147483647
  let a1 := mostE s a0.2.1 a0.2.2 2147483647
  let a2 := tabE s a1.2.1 a1.2.2
  ({ PMsg.zero with kind := 11, move := (a0.1 : Nat), part := (a1.1 : Nat), epoch := a2.1.1, nodes := a2.1.2.1, owner := a2.1.2.2 }, a2.2.1, a2.2.2)
def body12 (s : ByteArray) (n : Nat) (b : Int) : PMsg × Nat × Int :=
  let a0 := mostE s n b 2147483647
  let a1 := mostE s a0.2.1 a0.2.2 2147483647
  ({ PMsg.zero with kind := 12, move := (a0.1 : Nat), part := (a1.1 : Nat) }, a1.2.1, a1.2.2)
def body13 (s : ByteArray) (n : Nat) (b : Int) : PMsg × Nat × Int :=
  let a0 := mostE s n b 2147483647
  let a1 := mostE s a0.2.1 a0.2.2 2147483647
  ({ PMsg.zero with kind := 13, move := (a0.1 : Nat), part := (a1.1 : Nat) }, a1.2.1, a1.2.2)
def body14 (s : ByteArray) (n : Nat) (b : Int) : PMsg × Nat × Int :=
  let a0 := tabE s n b
  ({ PMsg.zero with kind := 14, epoch := a0.1.1, nodes := a0.1.2.1, owner := a0.1.2.2 }, a0.2.1, a0.2.2)
/-- What a kind's fields are read as; the place behind; the fault. -/
def bodyE (s : ByteArray) (c n : Nat) (b : Int) : PMsg × Nat × Int :=
  match c with
  | 1 => body1 s n b
  | 2 => body2 s n b
  | 3 => body3 s n b
  | 4 => body4 s n b
  | 5 => body5 s n b
  | 6 => body6 s n b
  | 7 => body7 s n b
  | 8 => body8 s n b
  | 9 => body9 s n b
  | 10 => body10 s n b
  | 11 => body11 s n b
  | 12 => body12 s n b
  | 13 => body13 s n b
  | 14 => body14 s n b
  | _ => (.zero, n, b)
/-- What a text is read as; the fault. -/
def msgE (s : ByteArray) : PMsg × Int :=
  if (byteE s 0 0).2.2 ≠ 0 then (.zero, (byteE s 0 0).2.2) else if (byteE s 0 0).1 < 1 ∨ 14 < (byteE s 0 0).1 then (.zero, 10)
  else if (bodyE s (byteE s 0 0).1 (byteE s 0 0).2.1 (byteE s 0 0).2.2).2.2 ≠ 0 then (.zero, (bodyE s (byteE s 0 0).1 (byteE s 0 0).2.1 (byteE s 0 0).2.2).2.2)
  else if (bodyE s (byteE s 0 0).1 (byteE s 0 0).2.1 (byteE s 0 0).2.2).2.1 < s.size then (.zero, 8) else ((bodyE s (byteE s 0 0).1 (byteE s 0 0).2.1 (byteE s 0 0).2.2).1, 0)
theorem msgE_body {s : ByteArray} {c : Nat} {r : PMsg × Nat × Int} (hK : byteE s 0 0 = (c, 1, 0)) (h1 : 1 ≤ c) (h2 : c ≤ 14) (hr : bodyE s c 1 0 = r) : msgE s = if r.2.2 ≠ 0 then (.zero, r.2.2) else if r.2.1 < s.size then (.zero, 8) else (r.1, 0) := by
  unfold msgE
  rw [hK]
  simp only [ne_eq, not_true_eq_false, if_false]
  rw [if_neg (by omega), hr]
theorem o_stL {P : Program} {ops : Array Oper} {Q : Exit → Act → World → Prop} {o : Oper} {a : Act} {w w' : World} {n : Nat} {m : List (Nat × Value)} {K : Act → World → Prop} {w0 : World} (L' : List Blk) (i : Nat) (H : Fr a n m) (hi : ops[i]? = some o) (hd : o.dst = none) (hg : Region.wanted o (yielded ops a.tmps) = true) (hr : (execOp a.eval o).run P w = .ok .skip w')
    (hL : Live w0 L' w') (k : ∀ a' w', Fr a' n m → Live w0 L' w' → K a' w') : wpOp P ops Q i K a w := by
  unfold wpOp
  simp only [hi, hg, if_true]
  refine .inl ?_
  unfold Oper.wp
  rw [hr]
  simp only [Oper.upon, hd]
  exact k _ _ H hL
theorem Live.swap3 {w0 w : World} {L : List Blk} {p q r : Blk} (h : Live w0 (p :: q :: r :: L) w) : Live w0 (p :: r :: q :: L) w := h.perm ((List.Perm.swap r q L).cons p)
theorem bd_in {w : World} {s : ByteArray} : (Instr.build 85 #[(0, .string s)]).run Try.prog w = .ok (.agg (rcells s 0 0)) w := by
  simp [go_sem]
theorem bx_in {w : World} {s : ByteArray} {n : Nat} {b : Int} : (Instr.box 85 (.agg (rcells s n b))).run Try.prog w = .ok (.pointer (some ⟨w.heap.size, 0, none⟩)) (w.alloc (.cells (rcells s n b) 85)) := by
  simp [go_sem]
theorem refread_results {tmps : Array Value} {w : World} {g : Nat} {cs : Array Value} {x : Value} (hp : tmps.getD 2 undef = .pointer (some ⟨g, 0, none⟩)) (hx : tmps.getD 3 undef = x) (hg : w.heap[g]? = some (.cells cs 29 (0, 0))) (hs : cs.size = 22) :
    (results Try.f23 tmps).run Try.prog w = .ok (.tuple #[.agg cs, x]) w := by
  rw [results_cell_tmp (p := 2) (u := 3) (ty := 29) rfl, hp, hx]
  have h := run_loadVar_row (P := Try.prog) w g 29 29 cs (0, 0) _ hg Try.underlying29 rfl (by rw [info29, hs])
  simp [asAddr, h]
theorem rd_nul (w : World) : Rd w (.slice none 0 0) [] := .inl ⟨rfl, rfl⟩
/-- What meterref04.Read leaves. -/
def ReadQ (w0 : World) (L : List Blk) (r : PMsg × Int) (e : Ending) (W' : World) : Prop :=
  ∃ vo vs Ro Rs, e = .returned (.tuple #[.agg (mcells r.1 vo vs), .int .i64 r.2]) ∧ Slot w0 vo r.1.owner Ro ∧ Slot w0 vs r.1.set Rs ∧ Live w0 (Ro ++ (Rs ++ L)) W'
theorem ReadQ.zero {w0 W' : World} {L : List Blk} {e : Ending} {f : Int} (he : e = .returned (.tuple #[.agg zcells, .int .i64 f])) (h : Live w0 L W') : ReadQ w0 L (.zero, f) e W' :=
  ⟨.slice none 0 0, .slice none 0 0, [], [], he, .inl ⟨rd_nul _, rfl⟩, .inl ⟨rd_nul _, rfl⟩, h⟩
section
variable {w0 W : World} {L : List Blk} {s : ByteArray} {k : Nat}
set_option maxRecDepth 100000 in
set_option maxHeartbeats 8000000 in
theorem rread_none (hs : s.size < 140737488351233) (hL : Live w0 L W) (hK : byteE s 0 0 = (0, 0, 7)) : Calls Try.prog 23 #[.string s] W fun e W' => ReadQ w0 L (msgE s) e W' := by
  obtain ⟨Y, hY⟩ : ∃ Y, Y = msgE s := ⟨_, rfl⟩
  rw [← hY]
  unfold msgE at hY
  rw [hK] at hY
  rw [if_pos (by decide)] at hY
  go_enter Try.func23, Try.ntmps23
  refine wp_fr (n := 137) (m := [(0, _)]) ⟨rfl, rfl, by intro p hp; simp only [List.mem_cons, List.not_mem_nil, or_false] at hp; rcases hp with rfl <;> rfl⟩ fun a0 H0 => ?_
  repeat (go_not_at_region 0; go_step)
  refine wp_region_lit ?_
  refine h_opL ((W.heap.size, zcells, 29) :: L) H0 rfl (wn rfl) (R_alloc rfl al_row) (hL.alloc _ _) rfl (P2 2 0 rfl rfl) fun a1 w1 H1 hL' => ?_
  replace hL := hL'
  clear H0 hL'
  refine h_op H1 rfl (wn rfl) (R_as H1 rfl rfl) rfl (P2 2 0 rfl rfl) fun a2 H2 => ?_
  clear H1
  refine h_end ?_
  repeat (go_not_at_region 1; go_step)
  refine wp_region_lit ?_
  refine h_op H2 rfl (wn rfl) (R_mv H2 rfl rfl) rfl (P3 6 2 0 rfl rfl rfl) fun a3 H3 => ?_
  clear H2
  refine h_op H3 rfl (wn rfl) (R_bd1 H3 rfl rfl bd_in) rfl (P3 7 2 0 rfl rfl rfl) fun a4 H4 => ?_
  clear H3
  refine h_opL ((w1.heap.size, rcells s 0 0, 85) :: (W.heap.size, zcells, 29) :: L) H4 rfl (wn rfl) (R_box H4 rfl rfl bx_in) (hL.alloc _ _) rfl (P3 8 2 0 rfl rfl rfl) fun a5 w5 H5 hL' => ?_
  replace hL := hL'
  clear H4 hL'
  refine h_op H5 rfl (wn rfl) (R_as H5 rfl rfl) rfl (P3 4 2 0 rfl rfl rfl) fun a6 H6 => ?_
  clear H5
  refine h_end ?_
  repeat (go_not_at_region 2; go_step)
  refine wp_region_lit ?_
  refine h_opL ((w5.heap.size, zcells, 29) :: (W.heap.size, zcells, 29) :: (w1.heap.size, rcells s 0 0, 85) :: L) H6 rfl (wn rfl) (R_alloc rfl al_row) ((hL.alloc _ _).swap3) rfl (P4 5 4 2 0 rfl rfl rfl rfl) fun a7 w7 H7 hL' => ?_
  replace hL := hL'
  clear H6 hL'
  refine h_end ?_
  repeat (go_not_at_region 3; go_step)
  have hM := inByte_any hs (Nat.zero_le _) hL.third
  rw [hK] at hM
  simp only at hM
  refine wp_region_lit ?_
  refine h_op H7 rfl (wn rfl) (R_mv H7 rfl rfl) rfl (P5 9 5 4 2 0 rfl rfl rfl rfl rfl) fun a8 H8 => ?_
  clear H7
  refine h_call H8 rfl (wn rfl) (R_call1 H8 rfl rfl (fun w => by simp [go_sem])) rfl ?_
  refine hM.mono ?_
  rintro e w9 ⟨rfl, hL2⟩
  replace hL := hL2.back3
  clear hL2 hM
  refine ⟨_, rfl, fun a9 HH => ?_⟩
  have H9 := HH _ (P5 10 5 4 2 0 rfl rfl rfl rfl rfl)
  clear HH H8
  refine h_op H9 rfl (wn rfl) (R_fa H9 rfl rfl (fa29_0 _ _)) rfl (P6 11 10 5 4 2 0 rfl rfl rfl rfl rfl rfl) fun a10 H10 => ?_
  clear H9
  refine h_stL ((w5.heap.size, mcells { PMsg.zero with kind := 0 } (.slice none 0 0) (.slice none 0 0), 29) :: (W.heap.size, zcells, 29) :: (w1.heap.size, rcells s 0 7, 85) :: L) H10 rfl (wn rfl) (R_st H10 rfl rfl rfl (st_u8c hL rfl)) (hL.put 0 _) fun a11 w11 H11 hL' => ?_
  replace hL := hL'
  clear H10 hL'
  refine h_end ?_
  repeat (go_not_at_region 4; go_step)
  refine wp_region_lit ?_
  refine h_op H11 rfl (wn rfl) (R_mv H11 rfl rfl) rfl (P5 12 5 4 2 0 rfl rfl rfl rfl rfl) fun a12 H12 => ?_
  clear H11
  refine h_op H12 rfl (wn rfl) (R_nc H12 rfl rfl) rfl (P5 13 5 4 2 0 rfl rfl rfl rfl rfl) fun a13 H13 => ?_
  clear H12
  refine h_op H13 rfl (wn rfl) (R_fa H13 rfl rfl (fr_2 _ _)) rfl (P5 14 5 4 2 0 rfl rfl rfl rfl rfl) fun a14 H14 => ?_
  clear H13
  refine h_op H14 rfl (wn rfl) (R_ld H14 rfl rfl (ld_int (hL.third.cell 2))) rfl (P5 15 5 4 2 0 rfl rfl rfl rfl rfl) fun a15 H15 => ?_
  clear H14
  refine h_op H15 rfl (wn rfl) (R_bin H15 rfl rfl rfl (B_to (y := true) (B_ne Try.underlying3 _ _) rfl)) rfl (P5 16 5 4 2 0 rfl rfl rfl rfl rfl) fun a16 H16 => ?_
  clear H15
  refine h_end ?_
  repeat (go_not_at_region 5; go_step)
  refine wp_cond_true (H16.ev (x := .tmp 16) rfl) ?_
  repeat (go_not_at_region 5; go_step)
  refine wp_region_held_drew (S := fun w' => Live w0 ((w5.heap.size, mcells { PMsg.zero with kind := 0 } (.slice none 0 0) (.slice none 0 0), 29) :: (W.heap.size, zcells, 29) :: (w1.heap.size, rcells s 0 7, 85) :: L) w') (by kernel_rfl) hL.drew (fun hL' => ?_)
  replace hL := hL'
  clear hL'
  refine a_op 0 H16 rfl rfl (by kernel_rfl) (by kernel_rfl) (by kernel_rfl) (fun _ _ _ h => h) (wn rfl) (fun w hL => R_build rfl bd_row) hL rfl (P3 17 4 2 rfl rfl rfl) fun a17 H17 => ?_
  clear H16
  refine a_op 1 H17 rfl rfl (by kernel_rfl) (by kernel_rfl) (by kernel_rfl) (fun _ _ _ h => h) (wn rfl) (fun w hL => R_mv H17 rfl rfl) hL rfl (P3 18 17 2 rfl rfl rfl) fun a18 H18 => ?_
  clear H17
  refine a_op 2 H18 rfl rfl (by kernel_rfl) (by kernel_rfl) (by kernel_rfl) (fun _ _ _ h => h) (wn rfl) (fun w hL => R_nc H18 rfl rfl) hL rfl (P3 19 17 2 rfl rfl rfl) fun a19 H19 => ?_
  clear H18
  refine a_op 3 H19 rfl rfl (by kernel_rfl) (by kernel_rfl) (by kernel_rfl) (fun _ _ _ h => h) (wn rfl) (fun w hL => R_fa H19 rfl rfl (fr_2 _ _)) hL rfl (P3 20 17 2 rfl rfl rfl) fun a20 H20 => ?_
  clear H19
  refine a_op 4 H20 rfl rfl (by kernel_rfl) (by kernel_rfl) (by kernel_rfl) (fun _ _ _ h => h) (wn rfl) (fun w hL => R_ld H20 rfl rfl (ld_int (hL.third.cell 2))) hL rfl (P3 21 17 2 rfl rfl rfl) fun a21 H21 => ?_
  clear H20
  refine a_all1 5 (by kernel_rfl) ?_
  refine o_stL ((w5.heap.size, mcells { PMsg.zero with kind := 0 } (.slice none 0 0) (.slice none 0 0), 29) :: (W.heap.size, zcells, 29) :: (w1.heap.size, rcells s 0 7, 85) :: L) 5 H21 rfl rfl (wn rfl) (R_st H21 rfl rfl rfl (st_row (m2 := .zero) (m := .zero) (vo2 := .slice none 0 0) (vs2 := .slice none 0 0) (vo := .slice none 0 0) (vs := .slice none 0 0) (hL.mem_at (by simp)) (mcells_one rfl rfl))) ((hL.swap.row _).swap) fun a22 w22 H22 hL' => ⟨hL', ?_⟩
  replace hL := hL'
  clear H21 hL'
  refine a_op 6 H22 rfl rfl (by kernel_rfl) (by kernel_rfl) (by kernel_rfl) (fun _ _ _ h => h) (wn rfl) (fun w hL => R_as H22 rfl rfl) hL rfl (P2 3 2 rfl rfl) fun a23 H23 => ?_
  clear H22
  refine wpAnyH_done (by kernel_rfl) ?_ _
  repeat (go_not_at_region 999; go_step)
  refine bodyPost_ret (v := .tuple #[.agg zcells, .int .i64 7]) (refread_results (H23.getD rfl) (H23.getD rfl) hL.swap.at_ rfl) H23.1 ?_
  rw [hY]
  exact .zero rfl hL.tail.tail.tail
set_option maxRecDepth 100000 in
set_option maxHeartbeats 8000000 in
theorem rread_0 (hs : s.size < 140737488351233) (hL : Live w0 L W) (hK : byteE s 0 0 = (0, 1, 0)) : Calls Try.prog 23 #[.string s] W fun e W' => ReadQ w0 L (msgE s) e W' := by
  obtain ⟨Y, hY⟩ : ∃ Y, Y = msgE s := ⟨_, rfl⟩
  rw [← hY]
  unfold msgE at hY
  rw [hK] at hY
  rw [if_neg (show ¬ (0 : Int) ≠ 0 by decide), if_pos (.inl (by decide))] at hY
  go_enter Try.func23, Try.ntmps23
  refine wp_fr (n := 137) (m := [(0, _)]) ⟨rfl, rfl, by intro p hp; simp only [List.mem_cons, List.not_mem_nil, or_false] at hp; rcases hp with rfl <;> rfl⟩ fun a0 H0 => ?_
  repeat (go_not_at_region 0; go_step)
  refine wp_region_lit ?_
  refine h_opL ((W.heap.size, zcells, 29) :: L) H0 rfl (wn rfl) (R_alloc rfl al_row) (hL.alloc _ _) rfl (P2 2 0 rfl rfl) fun a1 w1 H1 hL' => ?_
  replace hL := hL'
  clear H0 hL'
  refine h_op H1 rfl (wn rfl) (R_as H1 rfl rfl) rfl (P2 2 0 rfl rfl) fun a2 H2 => ?_
  clear H1
  refine h_end ?_
  repeat (go_not_at_region 1; go_step)
  refine wp_region_lit ?_
  refine h_op H2 rfl (wn rfl) (R_mv H2 rfl rfl) rfl (P3 6 2 0 rfl rfl rfl) fun a3 H3 => ?_
  clear H2
  refine h_op H3 rfl (wn rfl) (R_bd1 H3 rfl rfl bd_in) rfl (P3 7 2 0 rfl rfl rfl) fun a4 H4 => ?_
  clear H3
  refine h_opL ((w1.heap.size, rcells s 0 0, 85) :: (W.heap.size, zcells, 29) :: L) H4 rfl (wn rfl) (R_box H4 rfl rfl bx_in) (hL.alloc _ _) rfl (P3 8 2 0 rfl rfl rfl) fun a5 w5 H5 hL' => ?_
  replace hL := hL'
  clear H4 hL'
  refine h_op H5 rfl (wn rfl) (R_as H5 rfl rfl) rfl (P3 4 2 0 rfl rfl rfl) fun a6 H6 => ?_
  clear H5
  refine h_end ?_
  repeat (go_not_at_region 2; go_step)
  refine wp_region_lit ?_
  refine h_opL ((w5.heap.size, zcells, 29) :: (W.heap.size, zcells, 29) :: (w1.heap.size, rcells s 0 0, 85) :: L) H6 rfl (wn rfl) (R_alloc rfl al_row) ((hL.alloc _ _).swap3) rfl (P4 5 4 2 0 rfl rfl rfl rfl) fun a7 w7 H7 hL' => ?_
  replace hL := hL'
  clear H6 hL'
  refine h_end ?_
  repeat (go_not_at_region 3; go_step)
  have hM := inByte_any hs (Nat.zero_le _) hL.third
  rw [hK] at hM
  simp only at hM
  refine wp_region_lit ?_
  refine h_op H7 rfl (wn rfl) (R_mv H7 rfl rfl) rfl (P5 9 5 4 2 0 rfl rfl rfl rfl rfl) fun a8 H8 => ?_
  clear H7
  refine h_call H8 rfl (wn rfl) (R_call1 H8 rfl rfl (fun w => by simp [go_sem])) rfl ?_
  refine hM.mono ?_
  rintro e w9 ⟨rfl, hL2⟩
  replace hL := hL2.back3
  clear hL2 hM
  refine ⟨_, rfl, fun a9 HH => ?_⟩
  have H9 := HH _ (P5 10 5 4 2 0 rfl rfl rfl rfl rfl)
  clear HH H8
  refine h_op H9 rfl (wn rfl) (R_fa H9 rfl rfl (fa29_0 _ _)) rfl (P6 11 10 5 4 2 0 rfl rfl rfl rfl rfl rfl) fun a10 H10 => ?_
  clear H9
  refine h_stL ((w5.heap.size, mcells { PMsg.zero with kind := 0 } (.slice none 0 0) (.slice none 0 0), 29) :: (W.heap.size, zcells, 29) :: (w1.heap.size, rcells s 1 0, 85) :: L) H10 rfl (wn rfl) (R_st H10 rfl rfl rfl (st_u8c hL rfl)) (hL.put 0 _) fun a11 w11 H11 hL' => ?_
  replace hL := hL'
  clear H10 hL'
  refine h_end ?_
  repeat (go_not_at_region 4; go_step)
  refine wp_region_lit ?_
  refine h_op H11 rfl (wn rfl) (R_mv H11 rfl rfl) rfl (P5 12 5 4 2 0 rfl rfl rfl rfl rfl) fun a12 H12 => ?_
  clear H11
  refine h_op H12 rfl (wn rfl) (R_nc H12 rfl rfl) rfl (P5 13 5 4 2 0 rfl rfl rfl rfl rfl) fun a13 H13 => ?_
  clear H12
  refine h_op H13 rfl (wn rfl) (R_fa H13 rfl rfl (fr_2 _ _)) rfl (P5 14 5 4 2 0 rfl rfl rfl rfl rfl) fun a14 H14 => ?_
  clear H13
  refine h_op H14 rfl (wn rfl) (R_ld H14 rfl rfl (ld_int (hL.third.cell 2))) rfl (P5 15 5 4 2 0 rfl rfl rfl rfl rfl) fun a15 H15 => ?_
  clear H14
  refine h_op H15 rfl (wn rfl) (R_bin H15 rfl rfl rfl (B_to (y := false) (B_ne Try.underlying3 _ _) (by decide))) rfl (P5 16 5 4 2 0 rfl rfl rfl rfl rfl) fun a16 H16 => ?_
  clear H15
  refine h_end ?_
  repeat (go_not_at_region 6; go_step)
  refine wp_cond_false (H16.ev (x := .tmp 16) rfl) ?_
  repeat (go_not_at_region 6; go_step)
  refine wp_region_lit ?_
  refine h_op H16 rfl (wn rfl) (R_fa H16 rfl rfl (fa29_0 _ _)) rfl (P5 22 5 4 2 0 rfl rfl rfl rfl rfl) fun a17 H17 => ?_
  clear H16
  refine h_op H17 rfl (wn rfl) (R_ld H17 rfl rfl (ld_u8k (c := 0) (hL.cell 0) rfl)) rfl (P5 23 5 4 2 0 rfl rfl rfl rfl rfl) fun a18 H18 => ?_
  clear H17
  refine h_op H18 rfl (wn rfl) (R_bin H18 rfl rfl rfl (B_to (y := true) (B8_lt _ _) (by decide))) rfl (P5 24 5 4 2 0 rfl rfl rfl rfl rfl) fun a19 H19 => ?_
  clear H18
  refine h_op H19 rfl (wn rfl) (R_mv H19 rfl rfl) rfl (P5 25 5 4 2 0 rfl rfl rfl rfl rfl) fun a20 H20 => ?_
  clear H19
  refine h_skip H20 rfl (H20.wf rfl rfl rfl) rfl (P6 26 25 5 4 2 0 rfl rfl rfl rfl rfl rfl) fun a21 H21 => ?_
  clear H20
  refine h_skip H21 rfl (H21.wf rfl rfl rfl) rfl (P6 27 25 5 4 2 0 rfl rfl rfl rfl rfl rfl) fun a22 H22 => ?_
  clear H21
  refine h_skip H22 rfl (H22.wf rfl rfl rfl) rfl (P6 28 25 5 4 2 0 rfl rfl rfl rfl rfl rfl) fun a23 H23 => ?_
  clear H22
  refine h_op H23 rfl (wn rfl) (R_pick H23 rfl rfl rfl) rfl (P5 29 5 4 2 0 rfl rfl rfl rfl rfl) fun a24 H24 => ?_
  clear H23
  refine h_end ?_
  repeat (go_not_at_region 7; go_step)
  refine wp_cond_true (H24.ev (x := .tmp 29) rfl) ?_
  repeat (go_not_at_region 7; go_step)
  repeat (go_not_at_region 7; go_step)
  refine wp_region_lit ?_
  refine h_op H24 rfl (wn rfl) (R_build rfl bd_row) rfl (P2 30 2 rfl rfl) fun a25 H25 => ?_
  clear H24
  refine h_stL ((w5.heap.size, mcells { PMsg.zero with kind := 0 } (.slice none 0 0) (.slice none 0 0), 29) :: (W.heap.size, zcells, 29) :: (w1.heap.size, rcells s 1 0, 85) :: L) H25 rfl (wn rfl) (R_st H25 rfl rfl rfl (st_row (m2 := .zero) (m := .zero) (vo2 := .slice none 0 0) (vs2 := .slice none 0 0) (vo := .slice none 0 0) (vs := .slice none 0 0) (hL.mem_at (by simp)) (mcells_one rfl rfl))) ((hL.swap.row _).swap) fun a26 w26 H26 hL' => ?_
  replace hL := hL'
  clear H25 hL'
  refine h_op H26 rfl (wn rfl) (R_as H26 rfl rfl) rfl (P2 3 2 rfl rfl) fun a27 H27 => ?_
  clear H26
  refine h_end ?_
  repeat (go_not_at_region 999; go_step)
  refine bodyPost_ret (v := .tuple #[.agg zcells, .int .i64 10]) (refread_results (H27.getD rfl) (H27.getD rfl) hL.swap.at_ rfl) H27.1 ?_
  rw [hY]
  exact .zero rfl hL.tail.tail.tail
set_option maxRecDepth 100000 in
set_option maxHeartbeats 8000000 in
theorem rread_big (hs : s.size < 140737488351233) (hL : Live w0 L W) (hK : byteE s 0 0 = (k, 1, 0)) (hk : 14 < k) : Calls Try.prog 23 #[.string s] W fun e W' => ReadQ w0 L (msgE s) e W' := by
  obtain ⟨Y, hY⟩ : ∃ Y, Y = msgE s := ⟨_, rfl⟩
  rw [← hY]
  unfold msgE at hY
  rw [hK] at hY
  rw [if_neg (show ¬ (0 : Int) ≠ 0 by decide), if_pos (.inr hk)] at hY
  go_enter Try.func23, Try.ntmps23
  refine wp_fr (n := 137) (m := [(0, _)]) ⟨rfl, rfl, by intro p hp; simp only [List.mem_cons, List.not_mem_nil, or_false] at hp; rcases hp with rfl <;> rfl⟩ fun a0 H0 => ?_
  repeat (go_not_at_region 0; go_step)
  refine wp_region_lit ?_
  refine h_opL ((W.heap.size, zcells, 29) :: L) H0 rfl (wn rfl) (R_alloc rfl al_row) (hL.alloc _ _) rfl (P2 2 0 rfl rfl) fun a1 w1 H1 hL' => ?_
  replace hL := hL'
  clear H0 hL'
  refine h_op H1 rfl (wn rfl) (R_as H1 rfl rfl) rfl (P2 2 0 rfl rfl) fun a2 H2 => ?_
  clear H1
  refine h_end ?_
  repeat (go_not_at_region 1; go_step)
  refine wp_region_lit ?_
  refine h_op H2 rfl (wn rfl) (R_mv H2 rfl rfl) rfl (P3 6 2 0 rfl rfl rfl) fun a3 H3 => ?_
  clear H2
  refine h_op H3 rfl (wn rfl) (R_bd1 H3 rfl rfl bd_in) rfl (P3 7 2 0 rfl rfl rfl) fun a4 H4 => ?_
  clear H3
  refine h_opL ((w1.heap.size, rcells s 0 0, 85) :: (W.heap.size, zcells, 29) :: L) H4 rfl (wn rfl) (R_box H4 rfl rfl bx_in) (hL.alloc _ _) rfl (P3 8 2 0 rfl rfl rfl) fun a5 w5 H5 hL' => ?_
  replace hL := hL'
  clear H4 hL'
  refine h_op H5 rfl (wn rfl) (R_as H5 rfl rfl) rfl (P3 4 2 0 rfl rfl rfl) fun a6 H6 => ?_
  clear H5
  refine h_end ?_
  repeat (go_not_at_region 2; go_step)
  refine wp_region_lit ?_
  refine h_opL ((w5.heap.size, zcells, 29) :: (W.heap.size, zcells, 29) :: (w1.heap.size, rcells s 0 0, 85) :: L) H6 rfl (wn rfl) (R_alloc rfl al_row) ((hL.alloc _ _).swap3) rfl (P4 5 4 2 0 rfl rfl rfl rfl) fun a7 w7 H7 hL' => ?_
  replace hL := hL'
  clear H6 hL'
  refine h_end ?_
  repeat (go_not_at_region 3; go_step)
  have hM := inByte_any hs (Nat.zero_le _) hL.third
  rw [hK] at hM
  simp only at hM
  refine wp_region_lit ?_
  refine h_op H7 rfl (wn rfl) (R_mv H7 rfl rfl) rfl (P5 9 5 4 2 0 rfl rfl rfl rfl rfl) fun a8 H8 => ?_
  clear H7
  refine h_call H8 rfl (wn rfl) (R_call1 H8 rfl rfl (fun w => by simp [go_sem])) rfl ?_
  refine hM.mono ?_
  rintro e w9 ⟨rfl, hL2⟩
  replace hL := hL2.back3
  clear hL2 hM
  refine ⟨_, rfl, fun a9 HH => ?_⟩
  have H9 := HH _ (P5 10 5 4 2 0 rfl rfl rfl rfl rfl)
  clear HH H8
  refine h_op H9 rfl (wn rfl) (R_fa H9 rfl rfl (fa29_0 _ _)) rfl (P6 11 10 5 4 2 0 rfl rfl rfl rfl rfl rfl) fun a10 H10 => ?_
  clear H9
  refine h_stL ((w5.heap.size, mcells { PMsg.zero with kind := k } (.slice none 0 0) (.slice none 0 0), 29) :: (W.heap.size, zcells, 29) :: (w1.heap.size, rcells s 1 0, 85) :: L) H10 rfl (wn rfl) (R_st H10 rfl rfl rfl (st_u8c hL rfl)) (hL.put 0 _) fun a11 w11 H11 hL' => ?_
  replace hL := hL'
  clear H10 hL'
  refine h_end ?_
  repeat (go_not_at_region 4; go_step)
  refine wp_region_lit ?_
  refine h_op H11 rfl (wn rfl) (R_mv H11 rfl rfl) rfl (P5 12 5 4 2 0 rfl rfl rfl rfl rfl) fun a12 H12 => ?_
  clear H11
  refine h_op H12 rfl (wn rfl) (R_nc H12 rfl rfl) rfl (P5 13 5 4 2 0 rfl rfl rfl rfl rfl) fun a13 H13 => ?_
  clear H12
  refine h_op H13 rfl (wn rfl) (R_fa H13 rfl rfl (fr_2 _ _)) rfl (P5 14 5 4 2 0 rfl rfl rfl rfl rfl) fun a14 H14 => ?_
  clear H13
  refine h_op H14 rfl (wn rfl) (R_ld H14 rfl rfl (ld_int (hL.third.cell 2))) rfl (P5 15 5 4 2 0 rfl rfl rfl rfl rfl) fun a15 H15 => ?_
  clear H14
  refine h_op H15 rfl (wn rfl) (R_bin H15 rfl rfl rfl (B_to (y := false) (B_ne Try.underlying3 _ _) (by decide))) rfl (P5 16 5 4 2 0 rfl rfl rfl rfl rfl) fun a16 H16 => ?_
  clear H15
  refine h_end ?_
  repeat (go_not_at_region 6; go_step)
  refine wp_cond_false (H16.ev (x := .tmp 16) rfl) ?_
  repeat (go_not_at_region 6; go_step)
  refine wp_region_lit ?_
  refine h_op H16 rfl (wn rfl) (R_fa H16 rfl rfl (fa29_0 _ _)) rfl (P5 22 5 4 2 0 rfl rfl rfl rfl rfl) fun a17 H17 => ?_
  clear H16
  refine h_op H17 rfl (wn rfl) (R_ld H17 rfl rfl (ld_u8k (c := k) (hL.cell 0) rfl)) rfl (P5 23 5 4 2 0 rfl rfl rfl rfl rfl) fun a18 H18 => ?_
  clear H17
  refine h_op H18 rfl (wn rfl) (R_bin H18 rfl rfl rfl (B_to (y := false) (B8_lt _ _) (decide_eq_false (by omega)))) rfl (P5 24 5 4 2 0 rfl rfl rfl rfl rfl) fun a19 H19 => ?_
  clear H18
  refine h_op H19 rfl (wn rfl) (R_mv H19 rfl rfl) rfl (P5 25 5 4 2 0 rfl rfl rfl rfl rfl) fun a20 H20 => ?_
  clear H19
  refine h_op H20 rfl (H20.wt rfl rfl rfl) (R_fa H20 rfl rfl (fa29_0 _ _)) rfl (P6 26 25 5 4 2 0 rfl rfl rfl rfl rfl rfl) fun a21 H21 => ?_
  clear H20
  refine h_op H21 rfl (H21.wt rfl rfl rfl) (R_ld H21 rfl rfl (ld_u8k (c := k) (hL.cell 0) rfl)) rfl (P6 27 25 5 4 2 0 rfl rfl rfl rfl rfl rfl) fun a22 H22 => ?_
  clear H21
  refine h_op H22 rfl (H22.wt rfl rfl rfl) (R_bin H22 rfl rfl rfl (B_to (y := true) (B8_gt _ _) (decide_eq_true (by omega)))) rfl (P6 28 25 5 4 2 0 rfl rfl rfl rfl rfl rfl) fun a23 H23 => ?_
  clear H22
  refine h_op H23 rfl (wn rfl) (R_pick H23 rfl rfl rfl) rfl (P5 29 5 4 2 0 rfl rfl rfl rfl rfl) fun a24 H24 => ?_
  clear H23
  refine h_end ?_
  repeat (go_not_at_region 7; go_step)
  refine wp_cond_true (H24.ev (x := .tmp 29) rfl) ?_
  repeat (go_not_at_region 7; go_step)
  repeat (go_not_at_region 7; go_step)
  refine wp_region_lit ?_
  refine h_op H24 rfl (wn rfl) (R_build rfl bd_row) rfl (P2 30 2 rfl rfl) fun a25 H25 => ?_
  clear H24
  refine h_stL ((w5.heap.size, mcells { PMsg.zero with kind := k } (.slice none 0 0) (.slice none 0 0), 29) :: (W.heap.size, zcells, 29) :: (w1.heap.size, rcells s 1 0, 85) :: L) H25 rfl (wn rfl) (R_st H25 rfl rfl rfl (st_row (m2 := .zero) (m := .zero) (vo2 := .slice none 0 0) (vs2 := .slice none 0 0) (vo := .slice none 0 0) (vs := .slice none 0 0) (hL.mem_at (by simp)) (mcells_one rfl rfl))) ((hL.swap.row _).swap) fun a26 w26 H26 hL' => ?_
  replace hL := hL'
  clear H25 hL'
  refine h_op H26 rfl (wn rfl) (R_as H26 rfl rfl) rfl (P2 3 2 rfl rfl) fun a27 H27 => ?_
  clear H26
  refine h_end ?_
  repeat (go_not_at_region 999; go_step)
  refine bodyPost_ret (v := .tuple #[.agg zcells, .int .i64 10]) (refread_results (H27.getD rfl) (H27.getD rfl) hL.swap.at_ rfl) H27.1 ?_
  rw [hY]
  exact .zero rfl hL.tail.tail.tail
set_option maxRecDepth 100000 in
set_option maxHeartbeats 8000000 in
theorem rread_1 (hs : s.size < 140737488351233) (hL : Live w0 L W) (hK : byteE s 0 0 = (1, 1, 0)) : Calls Try.prog 23 #[.string s] W fun e W' => ReadQ w0 L (msgE s) e W' := by
  obtain ⟨Y, hY⟩ : ∃ Y, Y = msgE s := ⟨_, rfl⟩
  rw [← hY]
  obtain ⟨r, hr⟩ : ∃ r, r = body1 s 1 0 := ⟨_, rfl⟩
  rw [msgE_body hK (by decide) (by decide) (show bodyE s 1 1 0 = r from hr.symm)] at hY
  unfold body1 at hr
  simp only at hr
  go_enter Try.func23, Try.ntmps23
  refine wp_fr (n := 137) (m := [(0, _)]) ⟨rfl, rfl, by intro p hp; simp only [List.mem_cons, List.not_mem_nil, or_false] at hp; rcases hp with rfl <;> rfl⟩ fun a0 H0 => ?_
  repeat (go_not_at_region 0; go_step)
  refine wp_region_lit ?_
  refine h_opL ((W.heap.size, zcells, 29) :: L) H0 rfl (wn rfl) (R_alloc rfl al_row) (hL.alloc _ _) rfl (P2 2 0 rfl rfl) fun a1 w1 H1 hL' => ?_
  replace hL := hL'
  clear H0 hL'
  refine h_op H1 rfl (wn rfl) (R_as H1 rfl rfl) rfl (P2 2 0 rfl rfl) fun a2 H2 => ?_
  clear H1
  refine h_end ?_
  repeat (go_not_at_region 1; go_step)
  refine wp_region_lit ?_
  refine h_op H2 rfl (wn rfl) (R_mv H2 rfl rfl) rfl (P3 6 2 0 rfl rfl rfl) fun a3 H3 => ?_
  clear H2
  refine h_op H3 rfl (wn rfl) (R_bd1 H3 rfl rfl bd_in) rfl (P3 7 2 0 rfl rfl rfl) fun a4 H4 => ?_
  clear H3
  refine h_opL ((w1.heap.size, rcells s 0 0, 85) :: (W.heap.size, zcells, 29) :: L) H4 rfl (wn rfl) (R_box H4 rfl rfl bx_in) (hL.alloc _ _) rfl (P3 8 2 0 rfl rfl rfl) fun a5 w5 H5 hL' => ?_
  replace hL := hL'
  clear H4 hL'
  refine h_op H5 rfl (wn rfl) (R_as H5 rfl rfl) rfl (P3 4 2 0 rfl rfl rfl) fun a6 H6 => ?_
  clear H5
  refine h_end ?_
  repeat (go_not_at_region 2; go_step)
  refine wp_region_lit ?_
  refine h_opL ((w5.heap.size, zcells, 29) :: (W.heap.size, zcells, 29) :: (w1.heap.size, rcells s 0 0, 85) :: L) H6 rfl (wn rfl) (R_alloc rfl al_row) ((hL.alloc _ _).swap3) rfl (P4 5 4 2 0 rfl rfl rfl rfl) fun a7 w7 H7 hL' => ?_
  replace hL := hL'
  clear H6 hL'
  refine h_end ?_
  repeat (go_not_at_region 3; go_step)
  have hM := inByte_any hs (Nat.zero_le _) hL.third
  rw [hK] at hM
  simp only at hM
  refine wp_region_lit ?_
  refine h_op H7 rfl (wn rfl) (R_mv H7 rfl rfl) rfl (P5 9 5 4 2 0 rfl rfl rfl rfl rfl) fun a8 H8 => ?_
  clear H7
  refine h_call H8 rfl (wn rfl) (R_call1 H8 rfl rfl (fun w => by simp [go_sem])) rfl ?_
  refine hM.mono ?_
  rintro e w9 ⟨rfl, hL2⟩
  replace hL := hL2.back3
  clear hL2 hM
  refine ⟨_, rfl, fun a9 HH => ?_⟩
  have H9 := HH _ (P5 10 5 4 2 0 rfl rfl rfl rfl rfl)
  clear HH H8
  refine h_op H9 rfl (wn rfl) (R_fa H9 rfl rfl (fa29_0 _ _)) rfl (P6 11 10 5 4 2 0 rfl rfl rfl rfl rfl rfl) fun a10 H10 => ?_
  clear H9
  refine h_stL ((w5.heap.size, mcells { PMsg.zero with kind := 1 } (.slice none 0 0) (.slice none 0 0), 29) :: (W.heap.size, zcells, 29) :: (w1.heap.size, rcells s 1 0, 85) :: L) H10 rfl (wn rfl) (R_st H10 rfl rfl rfl (st_u8c hL rfl)) (hL.put 0 _) fun a11 w11 H11 hL' => ?_
  replace hL := hL'
  clear H10 hL'
  refine h_end ?_
  repeat (go_not_at_region 4; go_step)
  refine wp_region_lit ?_
  refine h_op H11 rfl (wn rfl) (R_mv H11 rfl rfl) rfl (P5 12 5 4 2 0 rfl rfl rfl rfl rfl) fun a12 H12 => ?_
  clear H11
  refine h_op H12 rfl (wn rfl) (R_nc H12 rfl rfl) rfl (P5 13 5 4 2 0 rfl rfl rfl rfl rfl) fun a13 H13 => ?_
  clear H12
  refine h_op H13 rfl (wn rfl) (R_fa H13 rfl rfl (fr_2 _ _)) rfl (P5 14 5 4 2 0 rfl rfl rfl rfl rfl) fun a14 H14 => ?_
  clear H13
  refine h_op H14 rfl (wn rfl) (R_ld H14 rfl rfl (ld_int (hL.third.cell 2))) rfl (P5 15 5 4 2 0 rfl rfl rfl rfl rfl) fun a15 H15 => ?_
  clear H14
  refine h_op H15 rfl (wn rfl) (R_bin H15 rfl rfl rfl (B_to (y := false) (B_ne Try.underlying3 _ _) (by decide))) rfl (P5 16 5 4 2 0 rfl rfl rfl rfl rfl) fun a16 H16 => ?_
  clear H15
  refine h_end ?_
  repeat (go_not_at_region 6; go_step)
  refine wp_cond_false (H16.ev (x := .tmp 16) rfl) ?_
  repeat (go_not_at_region 6; go_step)
  refine wp_region_lit ?_
  refine h_op H16 rfl (wn rfl) (R_fa H16 rfl rfl (fa29_0 _ _)) rfl (P5 22 5 4 2 0 rfl rfl rfl rfl rfl) fun a17 H17 => ?_
  clear H16
  refine h_op H17 rfl (wn rfl) (R_ld H17 rfl rfl (ld_u8k (c := 1) (hL.cell 0) rfl)) rfl (P5 23 5 4 2 0 rfl rfl rfl rfl rfl) fun a18 H18 => ?_
  clear H17
  refine h_op H18 rfl (wn rfl) (R_bin H18 rfl rfl rfl (B_to (y := false) (B8_lt _ _) (by decide))) rfl (P5 24 5 4 2 0 rfl rfl rfl rfl rfl) fun a19 H19 => ?_
  clear H18
  refine h_op H19 rfl (wn rfl) (R_mv H19 rfl rfl) rfl (P5 25 5 4 2 0 rfl rfl rfl rfl rfl) fun a20 H20 => ?_
  clear H19
  refine h_op H20 rfl (H20.wt rfl rfl rfl) (R_fa H20 rfl rfl (fa29_0 _ _)) rfl (P6 26 25 5 4 2 0 rfl rfl rfl rfl rfl rfl) fun a21 H21 => ?_
  clear H20
  refine h_op H21 rfl (H21.wt rfl rfl rfl) (R_ld H21 rfl rfl (ld_u8k (c := 1) (hL.cell 0) rfl)) rfl (P6 27 25 5 4 2 0 rfl rfl rfl rfl rfl rfl) fun a22 H22 => ?_
  clear H21
  refine h_op H22 rfl (H22.wt rfl rfl rfl) (R_bin H22 rfl rfl rfl (B_to (y := false) (B8_gt _ _) (by decide))) rfl (P6 28 25 5 4 2 0 rfl rfl rfl rfl rfl rfl) fun a23 H23 => ?_
  clear H22
  refine h_op H23 rfl (wn rfl) (R_pick H23 rfl rfl rfl) rfl (P5 29 5 4 2 0 rfl rfl rfl rfl rfl) fun a24 H24 => ?_
  clear H23
  refine h_end ?_
  repeat (go_not_at_region 8; go_step)
  refine wp_cond_false (H24.ev (x := .tmp 29) rfl) ?_
  repeat (go_not_at_region 8; go_step)
  refine wp_region_lit ?_
  refine h_op H24 rfl (wn rfl) (R_fa H24 rfl rfl (fa29_0 _ _)) rfl (P5 31 5 4 2 0 rfl rfl rfl rfl rfl) fun a25 H25 => ?_
  clear H24
  refine h_op H25 rfl (wn rfl) (R_ld H25 rfl rfl (ld_u8k (c := 1) (hL.cell 0) rfl)) rfl (P5 32 5 4 2 0 rfl rfl rfl rfl rfl) fun a26 H26 => ?_
  clear H25
  refine h_op H26 rfl (wn rfl) (R_bin H26 rfl rfl rfl (B_to (y := false) (B8_ge _ _) (by decide))) rfl (P5 33 5 4 2 0 rfl rfl rfl rfl rfl) fun a27 H27 => ?_
  clear H26
  refine h_op H27 rfl (wn rfl) (R_mv H27 rfl rfl) rfl (P5 34 5 4 2 0 rfl rfl rfl rfl rfl) fun a28 H28 => ?_
  clear H27
  refine h_skip H28 rfl (H28.wf rfl rfl rfl) rfl (P6 35 34 5 4 2 0 rfl rfl rfl rfl rfl rfl) fun a29 H29 => ?_
  clear H28
  refine h_skip H29 rfl (H29.wf rfl rfl rfl) rfl (P6 36 34 5 4 2 0 rfl rfl rfl rfl rfl rfl) fun a30 H30 => ?_
  clear H29
  refine h_skip H30 rfl (H30.wf rfl rfl rfl) rfl (P6 37 34 5 4 2 0 rfl rfl rfl rfl rfl rfl) fun a31 H31 => ?_
  clear H30
  refine h_op H31 rfl (wn rfl) (R_pick H31 rfl rfl rfl) rfl (P5 38 5 4 2 0 rfl rfl rfl rfl rfl) fun a32 H32 => ?_
  clear H31
  refine h_end ?_
  repeat (go_not_at_region 11; go_step)
  refine wp_cond_false (H32.ev (x := .tmp 38) rfl) ?_
  repeat (go_not_at_region 11; go_step)
  refine wp_region_lit ?_
  refine h_op H32 rfl (wn rfl) (R_fa H32 rfl rfl (fa29_0 _ _)) rfl (P5 45 5 4 2 0 rfl rfl rfl rfl rfl) fun a33 H33 => ?_
  clear H32
  refine h_op H33 rfl (wn rfl) (R_ld H33 rfl rfl (ld_u8k (c := 1) (hL.cell 0) rfl)) rfl (P5 46 5 4 2 0 rfl rfl rfl rfl rfl) fun a34 H34 => ?_
  clear H33
  refine h_end ?_
  repeat (go_not_at_region 12; go_step)
  refine wp_region_lit ?_
  refine h_op H34 rfl (wn rfl) (R_bin H34 rfl rfl rfl (B_to (y := true) (B8_eq _ _) (by decide))) rfl (P6 48 46 5 4 2 0 rfl rfl rfl rfl rfl rfl) fun a35 H35 => ?_
  clear H34
  refine h_op H35 rfl (wn rfl) (R_as H35 rfl rfl) rfl (P6 47 46 5 4 2 0 rfl rfl rfl rfl rfl rfl) fun a36 H36 => ?_
  clear H35
  refine h_end ?_
  repeat (go_not_at_region 13; go_step)
  repeat (refine wp_cond_true (H36.ev (x := .tmp 47) rfl) ?_; repeat (go_not_at_region 13; go_step))
  repeat (go_not_at_region 13; go_step)
  have hM := rdItem_any hs (show 1 ≤ s.size by have h := byteE_le (b := 0) (Nat.zero_le s.size); rw [hK] at h; exact h) hL.third
  have hle0 := itemE_le (b := 0) (show 1 ≤ s.size by have h := byteE_le (b := 0) (Nat.zero_le s.size); rw [hK] at h; exact h)
  generalize itemE s 1 0 = q0 at hM hle0 hr
  obtain ⟨x0, n0, b0⟩ := q0
  simp only at hM hle0 hr
  refine wp_region_lit ?_
  refine h_op H36 rfl (wn rfl) (R_mv H36 rfl rfl) rfl (P6 49 46 5 4 2 0 rfl rfl rfl rfl rfl rfl) fun a37 H37 => ?_
  clear H36
  refine h_call H37 rfl (wn rfl) (R_call1 H37 rfl rfl (fun w => by simp [go_sem])) rfl ?_
  refine hM.mono ?_
  rintro e w38 ⟨rfl, hL2⟩
  replace hL := hL2.back3
  clear hL2 hM
  refine ⟨_, rfl, fun a38 HH => ?_⟩
  have H38 := HH _ (P6 50 46 5 4 2 0 rfl rfl rfl rfl rfl rfl)
  clear HH H37
  refine h_op H38 rfl (wn rfl) (R_fa H38 rfl rfl (fa29_9 _ _)) rfl (P7 51 50 46 5 4 2 0 rfl rfl rfl rfl rfl rfl rfl) fun a39 H39 => ?_
  clear H38
  refine h_stL ((w5.heap.size, mcells { PMsg.zero with kind := 1, isrc := x0.isrc, iseq := x0.iseq, ilow := x0.ilow, ikind := x0.ikind, ikey := x0.ikey, ipart := x0.ipart, iat := x0.iat, iN := x0.iN } (.slice none 0 0) (.slice none 0 0), 29) :: (W.heap.size, zcells, 29) :: (w1.heap.size, rcells s n0 b0, 85) :: L) H39 rfl (wn rfl) (R_st H39 rfl rfl rfl (st_itemM hL)) (hL.itemM x0.isrc x0.iseq x0.ilow x0.ikind x0.ikey x0.ipart x0.iat x0.iN) fun a40 w40 H40 hL' => ?_
  replace hL := hL'
  clear H39 hL'
  refine h_end ?_
  repeat (go_not_at_region 26; go_step)
  refine wp_region_lit ?_
  refine h_op H40 rfl (wn rfl) (R_fa H40 rfl rfl (fa29_0 _ _)) rfl (P5 77 5 4 2 0 rfl rfl rfl rfl rfl) fun a41 H41 => ?_
  clear H40
  refine h_op H41 rfl (wn rfl) (R_ld H41 rfl rfl (ld_u8k (c := 1) (hL.cell 0) rfl)) rfl (P5 78 5 4 2 0 rfl rfl rfl rfl rfl) fun a42 H42 => ?_
  clear H41
  refine h_end ?_
  repeat (go_not_at_region 27; go_step)
  refine wp_region_lit ?_
  refine h_op H42 rfl (wn rfl) (R_bin H42 rfl rfl rfl (B_to (y := false) (B8_eq _ _) (by decide))) rfl (P6 80 78 5 4 2 0 rfl rfl rfl rfl rfl rfl) fun a43 H43 => ?_
  clear H42
  refine h_op H43 rfl (wn rfl) (R_as H43 rfl rfl) rfl (P6 79 78 5 4 2 0 rfl rfl rfl rfl rfl rfl) fun a44 H44 => ?_
  clear H43
  refine h_end ?_
  repeat (go_not_at_region 28; go_step)
  refine wp_cond_false (H44.ev (x := .tmp 79) rfl) ?_
  repeat (go_not_at_region 28; go_step)
  repeat (go_not_at_region 28; go_step)
  refine wp_region_lit ?_
  refine h_op H44 rfl (wn rfl) (R_bin H44 rfl rfl rfl (B_to (y := false) (B8_eq _ _) (by decide))) rfl (P7 81 79 78 5 4 2 0 rfl rfl rfl rfl rfl rfl rfl) fun a45 H45 => ?_
  clear H44
  refine h_op H45 rfl (wn rfl) (R_as H45 rfl rfl) rfl (P6 79 78 5 4 2 0 rfl rfl rfl rfl rfl rfl) fun a46 H46 => ?_
  clear H45
  refine h_end ?_
  repeat (go_not_at_region 30; go_step)
  refine wp_cond_false (H46.ev (x := .tmp 79) rfl) ?_
  repeat (go_not_at_region 30; go_step)
  repeat (go_not_at_region 30; go_step)
  refine wp_region_lit ?_
  refine h_op H46 rfl (wn rfl) (R_bin H46 rfl rfl rfl (B_to (y := false) (B8_eq _ _) (by decide))) rfl (P6 86 78 5 4 2 0 rfl rfl rfl rfl rfl rfl) fun a47 H47 => ?_
  clear H46
  refine h_op H47 rfl (wn rfl) (R_as H47 rfl rfl) rfl (P6 85 78 5 4 2 0 rfl rfl rfl rfl rfl rfl) fun a48 H48 => ?_
  clear H47
  refine h_end ?_
  repeat (go_not_at_region 31; go_step)
  refine wp_cond_false (H48.ev (x := .tmp 85) rfl) ?_
  repeat (go_not_at_region 31; go_step)
  repeat (go_not_at_region 31; go_step)
  refine wp_region_lit ?_
  refine h_op H48 rfl (wn rfl) (R_bin H48 rfl rfl rfl (B_to (y := false) (B8_eq _ _) (by decide))) rfl (P7 87 85 78 5 4 2 0 rfl rfl rfl rfl rfl rfl rfl) fun a49 H49 => ?_
  clear H48
  refine h_op H49 rfl (wn rfl) (R_as H49 rfl rfl) rfl (P6 85 78 5 4 2 0 rfl rfl rfl rfl rfl rfl) fun a50 H50 => ?_
  clear H49
  refine h_end ?_
  repeat (go_not_at_region 32; go_step)
  refine wp_cond_false (H50.ev (x := .tmp 85) rfl) ?_
  repeat (go_not_at_region 32; go_step)
  repeat (go_not_at_region 32; go_step)
  refine wp_region_lit ?_
  refine h_op H50 rfl (wn rfl) (R_bin H50 rfl rfl rfl (B_to (y := false) (B8_eq _ _) (by decide))) rfl (P7 88 85 78 5 4 2 0 rfl rfl rfl rfl rfl rfl rfl) fun a51 H51 => ?_
  clear H50
  refine h_op H51 rfl (wn rfl) (R_as H51 rfl rfl) rfl (P6 85 78 5 4 2 0 rfl rfl rfl rfl rfl rfl) fun a52 H52 => ?_
  clear H51
  refine h_end ?_
  repeat (go_not_at_region 34; go_step)
  refine wp_cond_false (H52.ev (x := .tmp 85) rfl) ?_
  repeat (go_not_at_region 34; go_step)
  repeat (go_not_at_region 34; go_step)
  refine wp_region_lit ?_
  refine h_op H52 rfl (wn rfl) (R_bin H52 rfl rfl rfl (B_to (y := false) (B8_eq _ _) (by decide))) rfl (P6 93 78 5 4 2 0 rfl rfl rfl rfl rfl rfl) fun a53 H53 => ?_
  clear H52
  refine h_op H53 rfl (wn rfl) (R_as H53 rfl rfl) rfl (P6 92 78 5 4 2 0 rfl rfl rfl rfl rfl rfl) fun a54 H54 => ?_
  clear H53
  refine h_end ?_
  repeat (go_not_at_region 37; go_step)
  refine wp_cond_false (H54.ev (x := .tmp 92) rfl) ?_
  repeat (go_not_at_region 37; go_step)
  repeat (go_not_at_region 37; go_step)
  refine wp_region_lit ?_
  refine h_op H54 rfl (wn rfl) (R_bin H54 rfl rfl rfl (B_to (y := false) (B8_eq _ _) (by decide))) rfl (P6 101 78 5 4 2 0 rfl rfl rfl rfl rfl rfl) fun a55 H55 => ?_
  clear H54
  refine h_op H55 rfl (wn rfl) (R_as H55 rfl rfl) rfl (P6 100 78 5 4 2 0 rfl rfl rfl rfl rfl rfl) fun a56 H56 => ?_
  clear H55
  refine h_end ?_
  repeat (go_not_at_region 39; go_step)
  refine wp_cond_false (H56.ev (x := .tmp 100) rfl) ?_
  repeat (go_not_at_region 39; go_step)
  repeat (go_not_at_region 39; go_step)
  refine wp_region_lit ?_
  refine h_op H56 rfl (wn rfl) (R_bin H56 rfl rfl rfl (B_to (y := false) (B8_eq _ _) (by decide))) rfl (P6 106 78 5 4 2 0 rfl rfl rfl rfl rfl rfl) fun a57 H57 => ?_
  clear H56
  refine h_op H57 rfl (wn rfl) (R_as H57 rfl rfl) rfl (P6 105 78 5 4 2 0 rfl rfl rfl rfl rfl rfl) fun a58 H58 => ?_
  clear H57
  refine h_end ?_
  repeat (go_not_at_region 41; go_step)
  refine wp_cond_false (H58.ev (x := .tmp 105) rfl) ?_
  repeat (go_not_at_region 41; go_step)
  repeat (go_not_at_region 41; go_step)
  refine wp_region_lit ?_
  refine h_op H58 rfl (wn rfl) (R_bin H58 rfl rfl rfl (B_to (y := false) (B8_eq _ _) (by decide))) rfl (P6 111 78 5 4 2 0 rfl rfl rfl rfl rfl rfl) fun a59 H59 => ?_
  clear H58
  refine h_op H59 rfl (wn rfl) (R_as H59 rfl rfl) rfl (P6 110 78 5 4 2 0 rfl rfl rfl rfl rfl rfl) fun a60 H60 => ?_
  clear H59
  refine h_end ?_
  repeat (go_not_at_region 44; go_step)
  refine wp_cond_false (H60.ev (x := .tmp 110) rfl) ?_
  repeat (go_not_at_region 44; go_step)
  subst hr
  simp only at hY
  by_cases hb : b0 ≠ 0
  · rw [if_pos hb] at hY
    repeat (go_not_at_region 44; go_step)
    refine wp_region_lit ?_
    refine h_op H60 rfl (wn rfl) (R_mv H60 rfl rfl) rfl (P5 118 5 4 2 0 rfl rfl rfl rfl rfl) fun a61 H61 => ?_
    clear H60
    refine h_op H61 rfl (wn rfl) (R_nc H61 rfl rfl) rfl (P5 119 5 4 2 0 rfl rfl rfl rfl rfl) fun a62 H62 => ?_
    clear H61
    refine h_op H62 rfl (wn rfl) (R_fa H62 rfl rfl (fr_2 _ _)) rfl (P5 120 5 4 2 0 rfl rfl rfl rfl rfl) fun a63 H63 => ?_
    clear H62
    refine h_op H63 rfl (wn rfl) (R_ld H63 rfl rfl (ld_int (hL.third.cell 2))) rfl (P5 121 5 4 2 0 rfl rfl rfl rfl rfl) fun a64 H64 => ?_
    clear H63
    refine h_op H64 rfl (wn rfl) (R_bin H64 rfl rfl rfl (B_to (y := true) (B_ne Try.underlying3 _ _) (bne_iff_ne.2 hb))) rfl (P5 122 5 4 2 0 rfl rfl rfl rfl rfl) fun a65 H65 => ?_
    clear H64
    refine h_end ?_
    repeat (go_not_at_region 45; go_step)
    refine wp_cond_true (H65.ev (x := .tmp 122) rfl) ?_
    repeat (go_not_at_region 45; go_step)
    refine wp_region_held_drew (S := fun w' => Live w0 ((w5.heap.size, mcells { PMsg.zero with kind := 1, isrc := x0.isrc, iseq := x0.iseq, ilow := x0.ilow, ikind := x0.ikind, ikey := x0.ikey, ipart := x0.ipart, iat := x0.iat, iN := x0.iN } (.slice none 0 0) (.slice none 0 0), 29) :: (W.heap.size, zcells, 29) :: (w1.heap.size, rcells s n0 b0, 85) :: L) w') (by kernel_rfl) hL.drew (fun hL' => ?_)
    replace hL := hL'
    clear hL'
    refine a_op 0 H65 rfl rfl (by kernel_rfl) (by kernel_rfl) (by kernel_rfl) (fun _ _ _ h => h) (wn rfl) (fun w hL => R_build rfl bd_row) hL rfl (P3 123 4 2 rfl rfl rfl) fun a66 H66 => ?_
    clear H65
    refine a_op 1 H66 rfl rfl (by kernel_rfl) (by kernel_rfl) (by kernel_rfl) (fun _ _ _ h => h) (wn rfl) (fun w hL => R_mv H66 rfl rfl) hL rfl (P3 124 123 2 rfl rfl rfl) fun a67 H67 => ?_
    clear H66
    refine a_op 2 H67 rfl rfl (by kernel_rfl) (by kernel_rfl) (by kernel_rfl) (fun _ _ _ h => h) (wn rfl) (fun w hL => R_nc H67 rfl rfl) hL rfl (P3 125 123 2 rfl rfl rfl) fun a68 H68 => ?_
    clear H67
    refine a_op 3 H68 rfl rfl (by kernel_rfl) (by kernel_rfl) (by kernel_rfl) (fun _ _ _ h => h) (wn rfl) (fun w hL => R_fa H68 rfl rfl (fr_2 _ _)) hL rfl (P3 126 123 2 rfl rfl rfl) fun a69 H69 => ?_
    clear H68
    refine a_op 4 H69 rfl rfl (by kernel_rfl) (by kernel_rfl) (by kernel_rfl) (fun _ _ _ h => h) (wn rfl) (fun w hL => R_ld H69 rfl rfl (ld_int (hL.third.cell 2))) hL rfl (P3 127 123 2 rfl rfl rfl) fun a70 H70 => ?_
    clear H69
    refine a_all1 5 (by kernel_rfl) ?_
    refine o_stL ((w5.heap.size, mcells { PMsg.zero with kind := 1, isrc := x0.isrc, iseq := x0.iseq, ilow := x0.ilow, ikind := x0.ikind, ikey := x0.ikey, ipart := x0.ipart, iat := x0.iat, iN := x0.iN } (.slice none 0 0) (.slice none 0 0), 29) :: (W.heap.size, zcells, 29) :: (w1.heap.size, rcells s n0 b0, 85) :: L) 5 H70 rfl rfl (wn rfl) (R_st H70 rfl rfl rfl (st_row (m2 := .zero) (m := .zero) (vo2 := .slice none 0 0) (vs2 := .slice none 0 0) (vo := .slice none 0 0) (vs := .slice none 0 0) (hL.mem_at (by simp)) (mcells_one rfl rfl))) ((hL.swap.row _).swap) fun a71 w71 H71 hL' => ⟨hL', ?_⟩
    replace hL := hL'
    clear H70 hL'
    refine a_op 6 H71 rfl rfl (by kernel_rfl) (by kernel_rfl) (by kernel_rfl) (fun _ _ _ h => h) (wn rfl) (fun w hL => R_as H71 rfl rfl) hL rfl (P2 3 2 rfl rfl) fun a72 H72 => ?_
    clear H71
    refine wpAnyH_done (by kernel_rfl) ?_ _
    repeat (go_not_at_region 999; go_step)
    refine bodyPost_ret (v := .tuple #[.agg zcells, .int .i64 b0]) (refread_results (H72.getD rfl) (H72.getD rfl) hL.swap.at_ rfl) H72.1 ?_
    rw [hY]
    exact .zero rfl hL.tail.tail.tail
  obtain rfl : b0 = 0 := Decidable.not_not.1 hb
  rw [if_neg hb] at hY
  clear hb
  repeat (go_not_at_region 44; go_step)
  refine wp_region_lit ?_
  refine h_op H60 rfl (wn rfl) (R_mv H60 rfl rfl) rfl (P5 118 5 4 2 0 rfl rfl rfl rfl rfl) fun a61 H61 => ?_
  clear H60
  refine h_op H61 rfl (wn rfl) (R_nc H61 rfl rfl) rfl (P5 119 5 4 2 0 rfl rfl rfl rfl rfl) fun a62 H62 => ?_
  clear H61
  refine h_op H62 rfl (wn rfl) (R_fa H62 rfl rfl (fr_2 _ _)) rfl (P5 120 5 4 2 0 rfl rfl rfl rfl rfl) fun a63 H63 => ?_
  clear H62
  refine h_op H63 rfl (wn rfl) (R_ld H63 rfl rfl (ld_int (hL.third.cell 2))) rfl (P5 121 5 4 2 0 rfl rfl rfl rfl rfl) fun a64 H64 => ?_
  clear H63
  refine h_op H64 rfl (wn rfl) (R_bin H64 rfl rfl rfl (B_to (y := false) (B_ne Try.underlying3 _ _) (by decide))) rfl (P5 122 5 4 2 0 rfl rfl rfl rfl rfl) fun a65 H65 => ?_
  clear H64
  refine h_end ?_
  repeat (go_not_at_region 46; go_step)
  refine wp_cond_false (H65.ev (x := .tmp 122) rfl) ?_
  by_cases hn : n0 < s.size
  · rw [if_pos hn] at hY
    repeat (go_not_at_region 46; go_step)
    repeat (go_not_at_region 46; go_step)
    refine wp_region_lit ?_
    refine h_op H65 rfl (wn rfl) (R_mv H65 rfl rfl) rfl (P5 128 5 4 2 0 rfl rfl rfl rfl rfl) fun a66 H66 => ?_
    clear H65
    refine h_op H66 rfl (wn rfl) (R_nc H66 rfl rfl) rfl (P5 129 5 4 2 0 rfl rfl rfl rfl rfl) fun a67 H67 => ?_
    clear H66
    refine h_op H67 rfl (wn rfl) (R_fa H67 rfl rfl (fr_1 _ _)) rfl (P5 130 5 4 2 0 rfl rfl rfl rfl rfl) fun a68 H68 => ?_
    clear H67
    refine h_op H68 rfl (wn rfl) (R_ld H68 rfl rfl (ld_int (hL.third.cell 1))) rfl (P5 131 5 4 2 0 rfl rfl rfl rfl rfl) fun a69 H69 => ?_
    clear H68
    refine h_op H69 rfl (wn rfl) (R_mv H69 rfl rfl) rfl (P6 132 131 5 4 2 0 rfl rfl rfl rfl rfl rfl) fun a70 H70 => ?_
    clear H69
    refine h_op H70 rfl (wn rfl) (R_len H70 rfl rfl Try.underlying9) rfl (P6 133 131 5 4 2 0 rfl rfl rfl rfl rfl rfl) fun a71 H71 => ?_
    clear H70
    refine h_op H71 rfl (wn rfl) (R_bin H71 rfl rfl rfl (B_to (y := true) (B_lt Try.underlying3 _ _) (decide_eq_true (by omega)))) rfl (P5 134 5 4 2 0 rfl rfl rfl rfl rfl) fun a72 H72 => ?_
    clear H71
    refine h_end ?_
    repeat (go_not_at_region 47; go_step)
    refine wp_cond_true (H72.ev (x := .tmp 134) rfl) ?_
    repeat (go_not_at_region 47; go_step)
    repeat (go_not_at_region 47; go_step)
    refine wp_region_lit ?_
    refine h_op H72 rfl (wn rfl) (R_build rfl bd_row) rfl (P2 135 2 rfl rfl) fun a73 H73 => ?_
    clear H72
    refine h_stL ((w5.heap.size, mcells { PMsg.zero with kind := 1, isrc := x0.isrc, iseq := x0.iseq, ilow := x0.ilow, ikind := x0.ikind, ikey := x0.ikey, ipart := x0.ipart, iat := x0.iat, iN := x0.iN } (.slice none 0 0) (.slice none 0 0), 29) :: (W.heap.size, zcells, 29) :: (w1.heap.size, rcells s n0 0, 85) :: L) H73 rfl (wn rfl) (R_st H73 rfl rfl rfl (st_row (m2 := .zero) (m := .zero) (vo2 := .slice none 0 0) (vs2 := .slice none 0 0) (vo := .slice none 0 0) (vs := .slice none 0 0) (hL.mem_at (by simp)) (mcells_one rfl rfl))) ((hL.swap.row _).swap) fun a74 w74 H74 hL' => ?_
    replace hL := hL'
    clear H73 hL'
    refine h_op H74 rfl (wn rfl) (R_as H74 rfl rfl) rfl (P2 3 2 rfl rfl) fun a75 H75 => ?_
    clear H74
    refine h_end ?_
    repeat (go_not_at_region 999; go_step)
    refine bodyPost_ret (v := .tuple #[.agg zcells, .int .i64 8]) (refread_results (H75.getD rfl) (H75.getD rfl) hL.swap.at_ rfl) H75.1 ?_
    rw [hY]
    exact .zero rfl hL.tail.tail.tail
  rw [if_neg hn] at hY
  repeat (go_not_at_region 46; go_step)
  repeat (go_not_at_region 46; go_step)
  refine wp_region_lit ?_
  refine h_op H65 rfl (wn rfl) (R_mv H65 rfl rfl) rfl (P5 128 5 4 2 0 rfl rfl rfl rfl rfl) fun a66 H66 => ?_
  clear H65
  refine h_op H66 rfl (wn rfl) (R_nc H66 rfl rfl) rfl (P5 129 5 4 2 0 rfl rfl rfl rfl rfl) fun a67 H67 => ?_
  clear H66
  refine h_op H67 rfl (wn rfl) (R_fa H67 rfl rfl (fr_1 _ _)) rfl (P5 130 5 4 2 0 rfl rfl rfl rfl rfl) fun a68 H68 => ?_
  clear H67
  refine h_op H68 rfl (wn rfl) (R_ld H68 rfl rfl (ld_int (hL.third.cell 1))) rfl (P5 131 5 4 2 0 rfl rfl rfl rfl rfl) fun a69 H69 => ?_
  clear H68
  refine h_op H69 rfl (wn rfl) (R_mv H69 rfl rfl) rfl (P6 132 131 5 4 2 0 rfl rfl rfl rfl rfl rfl) fun a70 H70 => ?_
  clear H69
  refine h_op H70 rfl (wn rfl) (R_len H70 rfl rfl Try.underlying9) rfl (P6 133 131 5 4 2 0 rfl rfl rfl rfl rfl rfl) fun a71 H71 => ?_
  clear H70
  refine h_op H71 rfl (wn rfl) (R_bin H71 rfl rfl rfl (B_to (y := false) (B_lt Try.underlying3 _ _) (decide_eq_false (by omega)))) rfl (P5 134 5 4 2 0 rfl rfl rfl rfl rfl) fun a72 H72 => ?_
  clear H71
  refine h_end ?_
  repeat (go_not_at_region 48; go_step)
  refine wp_cond_false (H72.ev (x := .tmp 134) rfl) ?_
  repeat (go_not_at_region 48; go_step)
  repeat (go_not_at_region 48; go_step)
  refine wp_region_lit ?_
  refine h_op H72 rfl (wn rfl) (R_ld H72 rfl rfl (ld_row hL.at_)) rfl (P2 136 2 rfl rfl) fun a73 H73 => ?_
  clear H72
  refine h_stL ((W.heap.size, mcells { PMsg.zero with kind := 1, isrc := x0.isrc, iseq := x0.iseq, ilow := x0.ilow, ikind := x0.ikind, ikey := x0.ikey, ipart := x0.ipart, iat := x0.iat, iN := x0.iN } (.slice none 0 0) (.slice none 0 0), 29) :: (w5.heap.size, mcells { PMsg.zero with kind := 1, isrc := x0.isrc, iseq := x0.iseq, ilow := x0.ilow, ikind := x0.ikind, ikey := x0.ikey, ipart := x0.ipart, iat := x0.iat, iN := x0.iN } (.slice none 0 0) (.slice none 0 0), 29) :: (w1.heap.size, rcells s n0 0, 85) :: L) H73 rfl (wn rfl) (R_st H73 rfl rfl rfl (st_row (m2 := .zero) (vo2 := .slice none 0 0) (vs2 := .slice none 0 0) (hL.mem_at (by simp)) (mcells_one rfl rfl))) (hL.swap.row _) fun a74 w74 H74 hL' => ?_
  replace hL := hL'
  clear H73 hL'
  refine h_op H74 rfl (wn rfl) (R_as H74 rfl rfl) rfl (P2 3 2 rfl rfl) fun a75 H75 => ?_
  clear H74
  refine h_end ?_
  repeat (go_not_at_region 999; go_step)
  refine bodyPost_ret (v := .tuple #[.agg (mcells { PMsg.zero with kind := 1, isrc := x0.isrc, iseq := x0.iseq, ilow := x0.ilow, ikind := x0.ikind, ikey := x0.ikey, ipart := x0.ipart, iat := x0.iat, iN := x0.iN } (.slice none 0 0) (.slice none 0 0)), .int .i64 0]) (refread_results (H75.getD rfl) (H75.getD rfl) hL.at_ rfl) H75.1 ?_
  rw [hY]
  exact ⟨(.slice none 0 0), (.slice none 0 0), [], [], rfl, .inl ⟨rd_nul _, rfl⟩, .inl ⟨rd_nul _, rfl⟩, hL.tail.tail.tail⟩
set_option maxRecDepth 100000 in
set_option maxHeartbeats 8000000 in
theorem rread_2 (hs : s.size < 140737488351233) (hL : Live w0 L W) (hK : byteE s 0 0 = (2, 1, 0)) : Calls Try.prog 23 #[.string s] W fun e W' => ReadQ w0 L (msgE s) e W' := by
  obtain ⟨Y, hY⟩ : ∃ Y, Y = msgE s := ⟨_, rfl⟩
  rw [← hY]
  obtain ⟨r, hr⟩ : ∃ r, r = body2 s 1 0 := ⟨_, rfl⟩
  rw [msgE_body hK (by decide) (by decide) (show bodyE s 2 1 0 = r from hr.symm)] at hY
  unfold body2 at hr
  simp only at hr
  go_enter Try.func23, Try.ntmps23
  refine wp_fr (n := 137) (m := [(0, _)]) ⟨rfl, rfl, by intro p hp; simp only [List.mem_cons, List.not_mem_nil, or_false] at hp; rcases hp with rfl <;> rfl⟩ fun a0 H0 => ?_
  repeat (go_not_at_region 0; go_step)
  refine wp_region_lit ?_
  refine h_opL ((W.heap.size, zcells, 29) :: L) H0 rfl (wn rfl) (R_alloc rfl al_row) (hL.alloc _ _) rfl (P2 2 0 rfl rfl) fun a1 w1 H1 hL' => ?_
  replace hL := hL'
  clear H0 hL'
  refine h_op H1 rfl (wn rfl) (R_as H1 rfl rfl) rfl (P2 2 0 rfl rfl) fun a2 H2 => ?_
  clear H1
  refine h_end ?_
  repeat (go_not_at_region 1; go_step)
  refine wp_region_lit ?_
  refine h_op H2 rfl (wn rfl) (R_mv H2 rfl rfl) rfl (P3 6 2 0 rfl rfl rfl) fun a3 H3 => ?_
  clear H2
  refine h_op H3 rfl (wn rfl) (R_bd1 H3 rfl rfl bd_in) rfl (P3 7 2 0 rfl rfl rfl) fun a4 H4 => ?_
  clear H3
  refine h_opL ((w1.heap.size, rcells s 0 0, 85) :: (W.heap.size, zcells, 29) :: L) H4 rfl (wn rfl) (R_box H4 rfl rfl bx_in) (hL.alloc _ _) rfl (P3 8 2 0 rfl rfl rfl) fun a5 w5 H5 hL' => ?_
  replace hL := hL'
  clear H4 hL'
  refine h_op H5 rfl (wn rfl) (R_as H5 rfl rfl) rfl (P3 4 2 0 rfl rfl rfl) fun a6 H6 => ?_
  clear H5
  refine h_end ?_
  repeat (go_not_at_region 2; go_step)
  refine wp_region_lit ?_
  refine h_opL ((w5.heap.size, zcells, 29) :: (W.heap.size, zcells, 29) :: (w1.heap.size, rcells s 0 0, 85) :: L) H6 rfl (wn rfl) (R_alloc rfl al_row) ((hL.alloc _ _).swap3) rfl (P4 5 4 2 0 rfl rfl rfl rfl) fun a7 w7 H7 hL' => ?_
  replace hL := hL'
  clear H6 hL'
  refine h_end ?_
  repeat (go_not_at_region 3; go_step)
  have hM := inByte_any hs (Nat.zero_le _) hL.third
  rw [hK] at hM
  simp only at hM
  refine wp_region_lit ?_
  refine h_op H7 rfl (wn rfl) (R_mv H7 rfl rfl) rfl (P5 9 5 4 2 0 rfl rfl rfl rfl rfl) fun a8 H8 => ?_
  clear H7
  refine h_call H8 rfl (wn rfl) (R_call1 H8 rfl rfl (fun w => by simp [go_sem])) rfl ?_
  refine hM.mono ?_
  rintro e w9 ⟨rfl, hL2⟩
  replace hL := hL2.back3
  clear hL2 hM
  refine ⟨_, rfl, fun a9 HH => ?_⟩
  have H9 := HH _ (P5 10 5 4 2 0 rfl rfl rfl rfl rfl)
  clear HH H8
  refine h_op H9 rfl (wn rfl) (R_fa H9 rfl rfl (fa29_0 _ _)) rfl (P6 11 10 5 4 2 0 rfl rfl rfl rfl rfl rfl) fun a10 H10 => ?_
  clear H9
  refine h_stL ((w5.heap.size, mcells { PMsg.zero with kind := 2 } (.slice none 0 0) (.slice none 0 0), 29) :: (W.heap.size, zcells, 29) :: (w1.heap.size, rcells s 1 0, 85) :: L) H10 rfl (wn rfl) (R_st H10 rfl rfl rfl (st_u8c hL rfl)) (hL.put 0 _) fun a11 w11 H11 hL' => ?_
  replace hL := hL'
  clear H10 hL'
  refine h_end ?_
  repeat (go_not_at_region 4; go_step)
  refine wp_region_lit ?_
  refine h_op H11 rfl (wn rfl) (R_mv H11 rfl rfl) rfl (P5 12 5 4 2 0 rfl rfl rfl rfl rfl) fun a12 H12 => ?_
  clear H11
  refine h_op H12 rfl (wn rfl) (R_nc H12 rfl rfl) rfl (P5 13 5 4 2 0 rfl rfl rfl rfl rfl) fun a13 H13 => ?_
  clear H12
  refine h_op H13 rfl (wn rfl) (R_fa H13 rfl rfl (fr_2 _ _)) rfl (P5 14 5 4 2 0 rfl rfl rfl rfl rfl) fun a14 H14 => ?_
  clear H13
  refine h_op H14 rfl (wn rfl) (R_ld H14 rfl rfl (ld_int (hL.third.cell 2))) rfl (P5 15 5 4 2 0 rfl rfl rfl rfl rfl) fun a15 H15 => ?_
  clear H14
  refine h_op H15 rfl (wn rfl) (R_bin H15 rfl rfl rfl (B_to (y := false) (B_ne Try.underlying3 _ _) (by decide))) rfl (P5 16 5 4 2 0 rfl rfl rfl rfl rfl) fun a16 H16 => ?_
  clear H15
  refine h_end ?_
  repeat (go_not_at_region 6; go_step)
  refine wp_cond_false (H16.ev (x := .tmp 16) rfl) ?_
  repeat (go_not_at_region 6; go_step)
  refine wp_region_lit ?_
  refine h_op H16 rfl (wn rfl) (R_fa H16 rfl rfl (fa29_0 _ _)) rfl (P5 22 5 4 2 0 rfl rfl rfl rfl rfl) fun a17 H17 => ?_
  clear H16
  refine h_op H17 rfl (wn rfl) (R_ld H17 rfl rfl (ld_u8k (c := 2) (hL.cell 0) rfl)) rfl (P5 23 5 4 2 0 rfl rfl rfl rfl rfl) fun a18 H18 => ?_
  clear H17
  refine h_op H18 rfl (wn rfl) (R_bin H18 rfl rfl rfl (B_to (y := false) (B8_lt _ _) (by decide))) rfl (P5 24 5 4 2 0 rfl rfl rfl rfl rfl) fun a19 H19 => ?_
  clear H18
  refine h_op H19 rfl (wn rfl) (R_mv H19 rfl rfl) rfl (P5 25 5 4 2 0 rfl rfl rfl rfl rfl) fun a20 H20 => ?_
  clear H19
  refine h_op H20 rfl (H20.wt rfl rfl rfl) (R_fa H20 rfl rfl (fa29_0 _ _)) rfl (P6 26 25 5 4 2 0 rfl rfl rfl rfl rfl rfl) fun a21 H21 => ?_
  clear H20
  refine h_op H21 rfl (H21.wt rfl rfl rfl) (R_ld H21 rfl rfl (ld_u8k (c := 2) (hL.cell 0) rfl)) rfl (P6 27 25 5 4 2 0 rfl rfl rfl rfl rfl rfl) fun a22 H22 => ?_
  clear H21
  refine h_op H22 rfl (H22.wt rfl rfl rfl) (R_bin H22 rfl rfl rfl (B_to (y := false) (B8_gt _ _) (by decide))) rfl (P6 28 25 5 4 2 0 rfl rfl rfl rfl rfl rfl) fun a23 H23 => ?_
  clear H22
  refine h_op H23 rfl (wn rfl) (R_pick H23 rfl rfl rfl) rfl (P5 29 5 4 2 0 rfl rfl rfl rfl rfl) fun a24 H24 => ?_
  clear H23
  refine h_end ?_
  repeat (go_not_at_region 8; go_step)
  refine wp_cond_false (H24.ev (x := .tmp 29) rfl) ?_
  repeat (go_not_at_region 8; go_step)
  refine wp_region_lit ?_
  refine h_op H24 rfl (wn rfl) (R_fa H24 rfl rfl (fa29_0 _ _)) rfl (P5 31 5 4 2 0 rfl rfl rfl rfl rfl) fun a25 H25 => ?_
  clear H24
  refine h_op H25 rfl (wn rfl) (R_ld H25 rfl rfl (ld_u8k (c := 2) (hL.cell 0) rfl)) rfl (P5 32 5 4 2 0 rfl rfl rfl rfl rfl) fun a26 H26 => ?_
  clear H25
  refine h_op H26 rfl (wn rfl) (R_bin H26 rfl rfl rfl (B_to (y := false) (B8_ge _ _) (by decide))) rfl (P5 33 5 4 2 0 rfl rfl rfl rfl rfl) fun a27 H27 => ?_
  clear H26
  refine h_op H27 rfl (wn rfl) (R_mv H27 rfl rfl) rfl (P5 34 5 4 2 0 rfl rfl rfl rfl rfl) fun a28 H28 => ?_
  clear H27
  refine h_skip H28 rfl (H28.wf rfl rfl rfl) rfl (P6 35 34 5 4 2 0 rfl rfl rfl rfl rfl rfl) fun a29 H29 => ?_
  clear H28
  refine h_skip H29 rfl (H29.wf rfl rfl rfl) rfl (P6 36 34 5 4 2 0 rfl rfl rfl rfl rfl rfl) fun a30 H30 => ?_
  clear H29
  refine h_skip H30 rfl (H30.wf rfl rfl rfl) rfl (P6 37 34 5 4 2 0 rfl rfl rfl rfl rfl rfl) fun a31 H31 => ?_
  clear H30
  refine h_op H31 rfl (wn rfl) (R_pick H31 rfl rfl rfl) rfl (P5 38 5 4 2 0 rfl rfl rfl rfl rfl) fun a32 H32 => ?_
  clear H31
  refine h_end ?_
  repeat (go_not_at_region 11; go_step)
  refine wp_cond_false (H32.ev (x := .tmp 38) rfl) ?_
  repeat (go_not_at_region 11; go_step)
  refine wp_region_lit ?_
  refine h_op H32 rfl (wn rfl) (R_fa H32 rfl rfl (fa29_0 _ _)) rfl (P5 45 5 4 2 0 rfl rfl rfl rfl rfl) fun a33 H33 => ?_
  clear H32
  refine h_op H33 rfl (wn rfl) (R_ld H33 rfl rfl (ld_u8k (c := 2) (hL.cell 0) rfl)) rfl (P5 46 5 4 2 0 rfl rfl rfl rfl rfl) fun a34 H34 => ?_
  clear H33
  refine h_end ?_
  repeat (go_not_at_region 12; go_step)
  refine wp_region_lit ?_
  refine h_op H34 rfl (wn rfl) (R_bin H34 rfl rfl rfl (B_to (y := false) (B8_eq _ _) (by decide))) rfl (P6 48 46 5 4 2 0 rfl rfl rfl rfl rfl rfl) fun a35 H35 => ?_
  clear H34
  refine h_op H35 rfl (wn rfl) (R_as H35 rfl rfl) rfl (P6 47 46 5 4 2 0 rfl rfl rfl rfl rfl rfl) fun a36 H36 => ?_
  clear H35
  refine h_end ?_
  repeat (go_not_at_region 14; go_step)
  refine wp_cond_false (H36.ev (x := .tmp 47) rfl) ?_
  repeat (go_not_at_region 14; go_step)
  repeat (go_not_at_region 14; go_step)
  refine wp_region_lit ?_
  refine h_op H36 rfl (wn rfl) (R_bin H36 rfl rfl rfl (B_to (y := true) (B8_eq _ _) (by decide))) rfl (P6 53 46 5 4 2 0 rfl rfl rfl rfl rfl rfl) fun a37 H37 => ?_
  clear H36
  refine h_op H37 rfl (wn rfl) (R_as H37 rfl rfl) rfl (P6 52 46 5 4 2 0 rfl rfl rfl rfl rfl rfl) fun a38 H38 => ?_
  clear H37
  refine h_end ?_
  repeat (go_not_at_region 16; go_step)
  repeat (refine wp_cond_true (H38.ev (x := .tmp 52) rfl) ?_; repeat (go_not_at_region 16; go_step))
  repeat (go_not_at_region 16; go_step)
  have hM := inMost_any (m := 2147483647) (by decide) hs (show 1 ≤ s.size by have h := byteE_le (b := 0) (Nat.zero_le s.size); rw [hK] at h; exact h) hL.third
  have hle0 := mostE_le (m := 2147483647) (b := 0) (show 1 ≤ s.size by have h := byteE_le (b := 0) (Nat.zero_le s.size); rw [hK] at h; exact h)
  generalize mostE s 1 0 2147483647 = q0 at hM hle0 hr
  obtain ⟨x0, n0, b0⟩ := q0
  simp only at hM hle0 hr
  refine wp_region_lit ?_
  refine h_op H38 rfl (wn rfl) (R_mv H38 rfl rfl) rfl (P6 55 46 5 4 2 0 rfl rfl rfl rfl rfl rfl) fun a39 H39 => ?_
  clear H38
  refine h_call H39 rfl (wn rfl) (R_call2 H39 rfl rfl rfl (fun w => by simp [go_sem])) rfl ?_
  refine hM.mono ?_
  rintro e w40 ⟨rfl, hL2⟩
  replace hL := hL2.back3
  clear hL2 hM
  refine ⟨_, rfl, fun a40 HH => ?_⟩
  have H40 := HH _ (P6 56 46 5 4 2 0 rfl rfl rfl rfl rfl rfl)
  clear HH H39
  refine h_op H40 rfl (wn rfl) (R_fa H40 rfl rfl (fa29_9 _ _)) rfl (P7 57 56 46 5 4 2 0 rfl rfl rfl rfl rfl rfl rfl) fun a41 H41 => ?_
  clear H40
  refine h_op H41 rfl (wn rfl) (R_fa H41 rfl rfl (fa24_0 _ _)) rfl (P7 58 56 46 5 4 2 0 rfl rfl rfl rfl rfl rfl rfl) fun a42 H42 => ?_
  clear H41
  refine h_stL ((w5.heap.size, mcells { PMsg.zero with kind := 2, isrc := (x0 : Nat) } (.slice none 0 0) (.slice none 0 0), 29) :: (W.heap.size, zcells, 29) :: (w1.heap.size, rcells s n0 b0, 85) :: L) H42 rfl (wn rfl) (R_st H42 rfl rfl rfl (st_int hL rfl)) (hL.put 9 _) fun a43 w43 H43 hL' => ?_
  replace hL := hL'
  clear H42 hL'
  refine h_end ?_
  repeat (go_not_at_region 17; go_step)
  have hM := inMost_any (m := 2147483647) (by decide) hs hle0 hL.third
  have hle1 := mostE_le (m := 2147483647) (b := b0) hle0
  generalize mostE s n0 b0 2147483647 = q1 at hM hle1 hr
  obtain ⟨x1, n1, b1⟩ := q1
  simp only at hM hle1 hr
  refine wp_region_lit ?_
  refine h_op H43 rfl (wn rfl) (R_mv H43 rfl rfl) rfl (P6 59 46 5 4 2 0 rfl rfl rfl rfl rfl rfl) fun a44 H44 => ?_
  clear H43
  refine h_call H44 rfl (wn rfl) (R_call2 H44 rfl rfl rfl (fun w => by simp [go_sem])) rfl ?_
  refine hM.mono ?_
  rintro e w45 ⟨rfl, hL2⟩
  replace hL := hL2.back3
  clear hL2 hM
  refine ⟨_, rfl, fun a45 HH => ?_⟩
  have H45 := HH _ (P6 60 46 5 4 2 0 rfl rfl rfl rfl rfl rfl)
  clear HH H44
  refine h_op H45 rfl (wn rfl) (R_fa H45 rfl rfl (fa29_9 _ _)) rfl (P7 61 60 46 5 4 2 0 rfl rfl rfl rfl rfl rfl rfl) fun a46 H46 => ?_
  clear H45
  refine h_op H46 rfl (wn rfl) (R_fa H46 rfl rfl (fa24_1 _ _)) rfl (P7 62 60 46 5 4 2 0 rfl rfl rfl rfl rfl rfl rfl) fun a47 H47 => ?_
  clear H46
  refine h_stL ((w5.heap.size, mcells { PMsg.zero with kind := 2, isrc := (x0 : Nat), iseq := (x1 : Nat) } (.slice none 0 0) (.slice none 0 0), 29) :: (W.heap.size, zcells, 29) :: (w1.heap.size, rcells s n1 b1, 85) :: L) H47 rfl (wn rfl) (R_st H47 rfl rfl rfl (st_int hL rfl)) (hL.put 10 _) fun a48 w48 H48 hL' => ?_
  replace hL := hL'
  clear H47 hL'
  refine h_end ?_
  repeat (go_not_at_region 26; go_step)
  refine wp_region_lit ?_
  refine h_op H48 rfl (wn rfl) (R_fa H48 rfl rfl (fa29_0 _ _)) rfl (P5 77 5 4 2 0 rfl rfl rfl rfl rfl) fun a49 H49 => ?_
  clear H48
  refine h_op H49 rfl (wn rfl) (R_ld H49 rfl rfl (ld_u8k (c := 2) (hL.cell 0) rfl)) rfl (P5 78 5 4 2 0 rfl rfl rfl rfl rfl) fun a50 H50 => ?_
  clear H49
  refine h_end ?_
  repeat (go_not_at_region 27; go_step)
  refine wp_region_lit ?_
  refine h_op H50 rfl (wn rfl) (R_bin H50 rfl rfl rfl (B_to (y := true) (B8_eq _ _) (by decide))) rfl (P6 80 78 5 4 2 0 rfl rfl rfl rfl rfl rfl) fun a51 H51 => ?_
  clear H50
  refine h_op H51 rfl (wn rfl) (R_as H51 rfl rfl) rfl (P6 79 78 5 4 2 0 rfl rfl rfl rfl rfl rfl) fun a52 H52 => ?_
  clear H51
  refine h_end ?_
  repeat (go_not_at_region 29; go_step)
  repeat (refine wp_cond_true (H52.ev (x := .tmp 79) rfl) ?_; repeat (go_not_at_region 29; go_step))
  repeat (go_not_at_region 29; go_step)
  have hM := inMost_any (m := 2147483647) (by decide) hs hle1 hL.third
  have hle2 := mostE_le (m := 2147483647) (b := b1) hle1
  generalize mostE s n1 b1 2147483647 = q2 at hM hle2 hr
  obtain ⟨x2, n2, b2⟩ := q2
  simp only at hM hle2 hr
  refine wp_region_lit ?_
  refine h_op H52 rfl (wn rfl) (R_mv H52 rfl rfl) rfl (P6 82 78 5 4 2 0 rfl rfl rfl rfl rfl rfl) fun a53 H53 => ?_
  clear H52
  refine h_call H53 rfl (wn rfl) (R_call2 H53 rfl rfl rfl (fun w => by simp [go_sem])) rfl ?_
  refine hM.mono ?_
  rintro e w54 ⟨rfl, hL2⟩
  replace hL := hL2.back3
  clear hL2 hM
  refine ⟨_, rfl, fun a54 HH => ?_⟩
  have H54 := HH _ (P6 83 78 5 4 2 0 rfl rfl rfl rfl rfl rfl)
  clear HH H53
  refine h_op H54 rfl (wn rfl) (R_fa H54 rfl rfl (fa29_6 _ _)) rfl (P7 84 83 78 5 4 2 0 rfl rfl rfl rfl rfl rfl rfl) fun a55 H55 => ?_
  clear H54
  refine h_stL ((w5.heap.size, mcells { PMsg.zero with kind := 2, isrc := (x0 : Nat), iseq := (x1 : Nat), code := (x2 : Nat) } (.slice none 0 0) (.slice none 0 0), 29) :: (W.heap.size, zcells, 29) :: (w1.heap.size, rcells s n2 b2, 85) :: L) H55 rfl (wn rfl) (R_st H55 rfl rfl rfl (st_int hL rfl)) (hL.put 6 _) fun a56 w56 H56 hL' => ?_
  replace hL := hL'
  clear H55 hL'
  refine h_end ?_
  subst hr
  simp only at hY
  by_cases hb : b2 ≠ 0
  · rw [if_pos hb] at hY
    repeat (go_not_at_region 44; go_step)
    refine wp_region_lit ?_
    refine h_op H56 rfl (wn rfl) (R_mv H56 rfl rfl) rfl (P5 118 5 4 2 0 rfl rfl rfl rfl rfl) fun a57 H57 => ?_
    clear H56
    refine h_op H57 rfl (wn rfl) (R_nc H57 rfl rfl) rfl (P5 119 5 4 2 0 rfl rfl rfl rfl rfl) fun a58 H58 => ?_
    clear H57
    refine h_op H58 rfl (wn rfl) (R_fa H58 rfl rfl (fr_2 _ _)) rfl (P5 120 5 4 2 0 rfl rfl rfl rfl rfl) fun a59 H59 => ?_
    clear H58
    refine h_op H59 rfl (wn rfl) (R_ld H59 rfl rfl (ld_int (hL.third.cell 2))) rfl (P5 121 5 4 2 0 rfl rfl rfl rfl rfl) fun a60 H60 => ?_
    clear H59
    refine h_op H60 rfl (wn rfl) (R_bin H60 rfl rfl rfl (B_to (y := true) (B_ne Try.underlying3 _ _) (bne_iff_ne.2 hb))) rfl (P5 122 5 4 2 0 rfl rfl rfl rfl rfl) fun a61 H61 => ?_
    clear H60
    refine h_end ?_
    repeat (go_not_at_region 45; go_step)
    refine wp_cond_true (H61.ev (x := .tmp 122) rfl) ?_
    repeat (go_not_at_region 45; go_step)
    refine wp_region_held_drew (S := fun w' => Live w0 ((w5.heap.size, mcells { PMsg.zero with kind := 2, isrc := (x0 : Nat), iseq := (x1 : Nat), code := (x2 : Nat) } (.slice none 0 0) (.slice none 0 0), 29) :: (W.heap.size, zcells, 29) :: (w1.heap.size, rcells s n2 b2, 85) :: L) w') (by kernel_rfl) hL.drew (fun hL' => ?_)
    replace hL := hL'
    clear hL'
    refine a_op 0 H61 rfl rfl (by kernel_rfl) (by kernel_rfl) (by kernel_rfl) (fun _ _ _ h => h) (wn rfl) (fun w hL => R_build rfl bd_row) hL rfl (P3 123 4 2 rfl rfl rfl) fun a62 H62 => ?_
    clear H61
    refine a_op 1 H62 rfl rfl (by kernel_rfl) (by kernel_rfl) (by kernel_rfl) (fun _ _ _ h => h) (wn rfl) (fun w hL => R_mv H62 rfl rfl) hL rfl (P3 124 123 2 rfl rfl rfl) fun a63 H63 => ?_
    clear H62
    refine a_op 2 H63 rfl rfl (by kernel_rfl) (by kernel_rfl) (by kernel_rfl) (fun _ _ _ h => h) (wn rfl) (fun w hL => R_nc H63 rfl rfl) hL rfl (P3 125 123 2 rfl rfl rfl) fun a64 H64 => ?_
    clear H63
    refine a_op 3 H64 rfl rfl (by kernel_rfl) (by kernel_rfl) (by kernel_rfl) (fun _ _ _ h => h) (wn rfl) (fun w hL => R_fa H64 rfl rfl (fr_2 _ _)) hL rfl (P3 126 123 2 rfl rfl rfl) fun a65 H65 => ?_
    clear H64
    refine a_op 4 H65 rfl rfl (by kernel_rfl) (by kernel_rfl) (by kernel_rfl) (fun _ _ _ h => h) (wn rfl) (fun w hL => R_ld H65 rfl rfl (ld_int (hL.third.cell 2))) hL rfl (P3 127 123 2 rfl rfl rfl) fun a66 H66 => ?_
    clear H65
    refine a_all1 5 (by kernel_rfl) ?_
    refine o_stL ((w5.heap.size, mcells { PMsg.zero with kind := 2, isrc := (x0 : Nat), iseq := (x1 : Nat), code := (x2 : Nat) } (.slice none 0 0) (.slice none 0 0), 29) :: (W.heap.size, zcells, 29) :: (w1.heap.size, rcells s n2 b2, 85) :: L) 5 H66 rfl rfl (wn rfl) (R_st H66 rfl rfl rfl (st_row (m2 := .zero) (m := .zero) (vo2 := .slice none 0 0) (vs2 := .slice none 0 0) (vo := .slice none 0 0) (vs := .slice none 0 0) (hL.mem_at (by simp)) (mcells_one rfl rfl))) ((hL.swap.row _).swap) fun a67 w67 H67 hL' => ⟨hL', ?_⟩
    replace hL := hL'
    clear H66 hL'
    refine a_op 6 H67 rfl rfl (by kernel_rfl) (by kernel_rfl) (by kernel_rfl) (fun _ _ _ h => h) (wn rfl) (fun w hL => R_as H67 rfl rfl) hL rfl (P2 3 2 rfl rfl) fun a68 H68 => ?_
    clear H67
    refine wpAnyH_done (by kernel_rfl) ?_ _
    repeat (go_not_at_region 999; go_step)
    refine bodyPost_ret (v := .tuple #[.agg zcells, .int .i64 b2]) (refread_results (H68.getD rfl) (H68.getD rfl) hL.swap.at_ rfl) H68.1 ?_
    rw [hY]
    exact .zero rfl hL.tail.tail.tail
  obtain rfl : b2 = 0 := Decidable.not_not.1 hb
  rw [if_neg hb] at hY
  clear hb
  repeat (go_not_at_region 44; go_step)
  refine wp_region_lit ?_
  refine h_op H56 rfl (wn rfl) (R_mv H56 rfl rfl) rfl (P5 118 5 4 2 0 rfl rfl rfl rfl rfl) fun a57 H57 => ?_
  clear H56
  refine h_op H57 rfl (wn rfl) (R_nc H57 rfl rfl) rfl (P5 119 5 4 2 0 rfl rfl rfl rfl rfl) fun a58 H58 => ?_
  clear H57
  refine h_op H58 rfl (wn rfl) (R_fa H58 rfl rfl (fr_2 _ _)) rfl (P5 120 5 4 2 0 rfl rfl rfl rfl rfl) fun a59 H59 => ?_
  clear H58
  refine h_op H59 rfl (wn rfl) (R_ld H59 rfl rfl (ld_int (hL.third.cell 2))) rfl (P5 121 5 4 2 0 rfl rfl rfl rfl rfl) fun a60 H60 => ?_
  clear H59
  refine h_op H60 rfl (wn rfl) (R_bin H60 rfl rfl rfl (B_to (y := false) (B_ne Try.underlying3 _ _) (by decide))) rfl (P5 122 5 4 2 0 rfl rfl rfl rfl rfl) fun a61 H61 => ?_
  clear H60
  refine h_end ?_
  repeat (go_not_at_region 46; go_step)
  refine wp_cond_false (H61.ev (x := .tmp 122) rfl) ?_
  by_cases hn : n2 < s.size
  · rw [if_pos hn] at hY
    repeat (go_not_at_region 46; go_step)
    repeat (go_not_at_region 46; go_step)
    refine wp_region_lit ?_
    refine h_op H61 rfl (wn rfl) (R_mv H61 rfl rfl) rfl (P5 128 5 4 2 0 rfl rfl rfl rfl rfl) fun a62 H62 => ?_
    clear H61
    refine h_op H62 rfl (wn rfl) (R_nc H62 rfl rfl) rfl (P5 129 5 4 2 0 rfl rfl rfl rfl rfl) fun a63 H63 => ?_
    clear H62
    refine h_op H63 rfl (wn rfl) (R_fa H63 rfl rfl (fr_1 _ _)) rfl (P5 130 5 4 2 0 rfl rfl rfl rfl rfl) fun a64 H64 => ?_
    clear H63
    refine h_op H64 rfl (wn rfl) (R_ld H64 rfl rfl (ld_int (hL.third.cell 1))) rfl (P5 131 5 4 2 0 rfl rfl rfl rfl rfl) fun a65 H65 => ?_
    clear H64
    refine h_op H65 rfl (wn rfl) (R_mv H65 rfl rfl) rfl (P6 132 131 5 4 2 0 rfl rfl rfl rfl rfl rfl) fun a66 H66 => ?_
    clear H65
    refine h_op H66 rfl (wn rfl) (R_len H66 rfl rfl Try.underlying9) rfl (P6 133 131 5 4 2 0 rfl rfl rfl rfl rfl rfl) fun a67 H67 => ?_
    clear H66
    refine h_op H67 rfl (wn rfl) (R_bin H67 rfl rfl rfl (B_to (y := true) (B_lt Try.underlying3 _ _) (decide_eq_true (by omega)))) rfl (P5 134 5 4 2 0 rfl rfl rfl rfl rfl) fun a68 H68 => ?_
    clear H67
    refine h_end ?_
    repeat (go_not_at_region 47; go_step)
    refine wp_cond_true (H68.ev (x := .tmp 134) rfl) ?_
    repeat (go_not_at_region 47; go_step)
    repeat (go_not_at_region 47; go_step)
    refine wp_region_lit ?_
    refine h_op H68 rfl (wn rfl) (R_build rfl bd_row) rfl (P2 135 2 rfl rfl) fun a69 H69 => ?_
    clear H68
    refine h_stL ((w5.heap.size, mcells { PMsg.zero with kind := 2, isrc := (x0 : Nat), iseq := (x1 : Nat), code := (x2 : Nat) } (.slice none 0 0) (.slice none 0 0), 29) :: (W.heap.size, zcells, 29) :: (w1.heap.size, rcells s n2 0, 85) :: L) H69 rfl (wn rfl) (R_st H69 rfl rfl rfl (st_row (m2 := .zero) (m := .zero) (vo2 := .slice none 0 0) (vs2 := .slice none 0 0) (vo := .slice none 0 0) (vs := .slice none 0 0) (hL.mem_at (by simp)) (mcells_one rfl rfl))) ((hL.swap.row _).swap) fun a70 w70 H70 hL' => ?_
    replace hL := hL'
    clear H69 hL'
    refine h_op H70 rfl (wn rfl) (R_as H70 rfl rfl) rfl (P2 3 2 rfl rfl) fun a71 H71 => ?_
    clear H70
    refine h_end ?_
    repeat (go_not_at_region 999; go_step)
    refine bodyPost_ret (v := .tuple #[.agg zcells, .int .i64 8]) (refread_results (H71.getD rfl) (H71.getD rfl) hL.swap.at_ rfl) H71.1 ?_
    rw [hY]
    exact .zero rfl hL.tail.tail.tail
  rw [if_neg hn] at hY
  repeat (go_not_at_region 46; go_step)
  repeat (go_not_at_region 46; go_step)
  refine wp_region_lit ?_
  refine h_op H61 rfl (wn rfl) (R_mv H61 rfl rfl) rfl (P5 128 5 4 2 0 rfl rfl rfl rfl rfl) fun a62 H62 => ?_
  clear H61
  refine h_op H62 rfl (wn rfl) (R_nc H62 rfl rfl) rfl (P5 129 5 4 2 0 rfl rfl rfl rfl rfl) fun a63 H63 => ?_
  clear H62
  refine h_op H63 rfl (wn rfl) (R_fa H63 rfl rfl (fr_1 _ _)) rfl (P5 130 5 4 2 0 rfl rfl rfl rfl rfl) fun a64 H64 => ?_
  clear H63
  refine h_op H64 rfl (wn rfl) (R_ld H64 rfl rfl (ld_int (hL.third.cell 1))) rfl (P5 131 5 4 2 0 rfl rfl rfl rfl rfl) fun a65 H65 => ?_
  clear H64
  refine h_op H65 rfl (wn rfl) (R_mv H65 rfl rfl) rfl (P6 132 131 5 4 2 0 rfl rfl rfl rfl rfl rfl) fun a66 H66 => ?_
  clear H65
  refine h_op H66 rfl (wn rfl) (R_len H66 rfl rfl Try.underlying9) rfl (P6 133 131 5 4 2 0 rfl rfl rfl rfl rfl rfl) fun a67 H67 => ?_
  clear H66
  refine h_op H67 rfl (wn rfl) (R_bin H67 rfl rfl rfl (B_to (y := false) (B_lt Try.underlying3 _ _) (decide_eq_false (by omega)))) rfl (P5 134 5 4 2 0 rfl rfl rfl rfl rfl) fun a68 H68 => ?_
  clear H67
  refine h_end ?_
  repeat (go_not_at_region 48; go_step)
  refine wp_cond_false (H68.ev (x := .tmp 134) rfl) ?_
  repeat (go_not_at_region 48; go_step)
  repeat (go_not_at_region 48; go_step)
  refine wp_region_lit ?_
  refine h_op H68 rfl (wn rfl) (R_ld H68 rfl rfl (ld_row hL.at_)) rfl (P2 136 2 rfl rfl) fun a69 H69 => ?_
  clear H68
  refine h_stL ((W.heap.size, mcells { PMsg.zero with kind := 2, isrc := (x0 : Nat), iseq := (x1 : Nat), code := (x2 : Nat) } (.slice none 0 0) (.slice none 0 0), 29) :: (w5.heap.size, mcells { PMsg.zero with kind := 2, isrc := (x0 : Nat), iseq := (x1 : Nat), code := (x2 : Nat) } (.slice none 0 0) (.slice none 0 0), 29) :: (w1.heap.size, rcells s n2 0, 85) :: L) H69 rfl (wn rfl) (R_st H69 rfl rfl rfl (st_row (m2 := .zero) (vo2 := .slice none 0 0) (vs2 := .slice none 0 0) (hL.mem_at (by simp)) (mcells_one rfl rfl))) (hL.swap.row _) fun a70 w70 H70 hL' => ?_
  replace hL := hL'
  clear H69 hL'
  refine h_op H70 rfl (wn rfl) (R_as H70 rfl rfl) rfl (P2 3 2 rfl rfl) fun a71 H71 => ?_
  clear H70
  refine h_end ?_
  repeat (go_not_at_region 999; go_step)
  refine bodyPost_ret (v := .tuple #[.agg (mcells { PMsg.zero with kind := 2, isrc := (x0 : Nat), iseq := (x1 : Nat), code := (x2 : Nat) } (.slice none 0 0) (.slice none 0 0)), .int .i64 0]) (refread_results (H71.getD rfl) (H71.getD rfl) hL.at_ rfl) H71.1 ?_
  rw [hY]
  exact ⟨(.slice none 0 0), (.slice none 0 0), [], [], rfl, .inl ⟨rd_nul _, rfl⟩, .inl ⟨rd_nul _, rfl⟩, hL.tail.tail.tail⟩
set_option maxRecDepth 100000 in
set_option maxHeartbeats 8000000 in
theorem rread_3 (hs : s.size < 140737488351233) (hL : Live w0 L W) (hK : byteE s 0 0 = (3, 1, 0)) : Calls Try.prog 23 #[.string s] W fun e W' => ReadQ w0 L (msgE s) e W' := by
  obtain ⟨Y, hY⟩ : ∃ Y, Y = msgE s := ⟨_, rfl⟩
  rw [← hY]
  obtain ⟨r, hr⟩ : ∃ r, r = body3 s 1 0 := ⟨_, rfl⟩
  rw [msgE_body hK (by decide) (by decide) (show bodyE s 3 1 0 = r from hr.symm)] at hY
  unfold body3 at hr
  simp only at hr
  go_enter Try.func23, Try.ntmps23
  refine wp_fr (n := 137) (m := [(0, _)]) ⟨rfl, rfl, by intro p hp; simp only [List.mem_cons, List.not_mem_nil, or_false] at hp; rcases hp with rfl <;> rfl⟩ fun a0 H0 => ?_
  repeat (go_not_at_region 0; go_step)
  refine wp_region_lit ?_
  refine h_opL ((W.heap.size, zcells, 29) :: L) H0 rfl (wn rfl) (R_alloc rfl al_row) (hL.alloc _ _) rfl (P2 2 0 rfl rfl) fun a1 w1 H1 hL' => ?_
  replace hL := hL'
  clear H0 hL'
  refine h_op H1 rfl (wn rfl) (R_as H1 rfl rfl) rfl (P2 2 0 rfl rfl) fun a2 H2 => ?_
  clear H1
  refine h_end ?_
  repeat (go_not_at_region 1; go_step)
  refine wp_region_lit ?_
  refine h_op H2 rfl (wn rfl) (R_mv H2 rfl rfl) rfl (P3 6 2 0 rfl rfl rfl) fun a3 H3 => ?_
  clear H2
  refine h_op H3 rfl (wn rfl) (R_bd1 H3 rfl rfl bd_in) rfl (P3 7 2 0 rfl rfl rfl) fun a4 H4 => ?_
  clear H3
  refine h_opL ((w1.heap.size, rcells s 0 0, 85) :: (W.heap.size, zcells, 29) :: L) H4 rfl (wn rfl) (R_box H4 rfl rfl bx_in) (hL.alloc _ _) rfl (P3 8 2 0 rfl rfl rfl) fun a5 w5 H5 hL' => ?_
  replace hL := hL'
  clear H4 hL'
  refine h_op H5 rfl (wn rfl) (R_as H5 rfl rfl) rfl (P3 4 2 0 rfl rfl rfl) fun a6 H6 => ?_
  clear H5
  refine h_end ?_
  repeat (go_not_at_region 2; go_step)
  refine wp_region_lit ?_
  refine h_opL ((w5.heap.size, zcells, 29) :: (W.heap.size, zcells, 29) :: (w1.heap.size, rcells s 0 0, 85) :: L) H6 rfl (wn rfl) (R_alloc rfl al_row) ((hL.alloc _ _).swap3) rfl (P4 5 4 2 0 rfl rfl rfl rfl) fun a7 w7 H7 hL' => ?_
  replace hL := hL'
  clear H6 hL'
  refine h_end ?_
  repeat (go_not_at_region 3; go_step)
  have hM := inByte_any hs (Nat.zero_le _) hL.third
  rw [hK] at hM
  simp only at hM
  refine wp_region_lit ?_
  refine h_op H7 rfl (wn rfl) (R_mv H7 rfl rfl) rfl (P5 9 5 4 2 0 rfl rfl rfl rfl rfl) fun a8 H8 => ?_
  clear H7
  refine h_call H8 rfl (wn rfl) (R_call1 H8 rfl rfl (fun w => by simp [go_sem])) rfl ?_
  refine hM.mono ?_
  rintro e w9 ⟨rfl, hL2⟩
  replace hL := hL2.back3
  clear hL2 hM
  refine ⟨_, rfl, fun a9 HH => ?_⟩
  have H9 := HH _ (P5 10 5 4 2 0 rfl rfl rfl rfl rfl)
  clear HH H8
  refine h_op H9 rfl (wn rfl) (R_fa H9 rfl rfl (fa29_0 _ _)) rfl (P6 11 10 5 4 2 0 rfl rfl rfl rfl rfl rfl) fun a10 H10 => ?_
  clear H9
  refine h_stL ((w5.heap.size, mcells { PMsg.zero with kind := 3 } (.slice none 0 0) (.slice none 0 0), 29) :: (W.heap.size, zcells, 29) :: (w1.heap.size, rcells s 1 0, 85) :: L) H10 rfl (wn rfl) (R_st H10 rfl rfl rfl (st_u8c hL rfl)) (hL.put 0 _) fun a11 w11 H11 hL' => ?_
  replace hL := hL'
  clear H10 hL'
  refine h_end ?_
  repeat (go_not_at_region 4; go_step)
  refine wp_region_lit ?_
  refine h_op H11 rfl (wn rfl) (R_mv H11 rfl rfl) rfl (P5 12 5 4 2 0 rfl rfl rfl rfl rfl) fun a12 H12 => ?_
  clear H11
  refine h_op H12 rfl (wn rfl) (R_nc H12 rfl rfl) rfl (P5 13 5 4 2 0 rfl rfl rfl rfl rfl) fun a13 H13 => ?_
  clear H12
  refine h_op H13 rfl (wn rfl) (R_fa H13 rfl rfl (fr_2 _ _)) rfl (P5 14 5 4 2 0 rfl rfl rfl rfl rfl) fun a14 H14 => ?_
  clear H13
  refine h_op H14 rfl (wn rfl) (R_ld H14 rfl rfl (ld_int (hL.third.cell 2))) rfl (P5 15 5 4 2 0 rfl rfl rfl rfl rfl) fun a15 H15 => ?_
  clear H14
  refine h_op H15 rfl (wn rfl) (R_bin H15 rfl rfl rfl (B_to (y := false) (B_ne Try.underlying3 _ _) (by decide))) rfl (P5 16 5 4 2 0 rfl rfl rfl rfl rfl) fun a16 H16 => ?_
  clear H15
  refine h_end ?_
  repeat (go_not_at_region 6; go_step)
  refine wp_cond_false (H16.ev (x := .tmp 16) rfl) ?_
  repeat (go_not_at_region 6; go_step)
  refine wp_region_lit ?_
  refine h_op H16 rfl (wn rfl) (R_fa H16 rfl rfl (fa29_0 _ _)) rfl (P5 22 5 4 2 0 rfl rfl rfl rfl rfl) fun a17 H17 => ?_
  clear H16
  refine h_op H17 rfl (wn rfl) (R_ld H17 rfl rfl (ld_u8k (c := 3) (hL.cell 0) rfl)) rfl (P5 23 5 4 2 0 rfl rfl rfl rfl rfl) fun a18 H18 => ?_
  clear H17
  refine h_op H18 rfl (wn rfl) (R_bin H18 rfl rfl rfl (B_to (y := false) (B8_lt _ _) (by decide))) rfl (P5 24 5 4 2 0 rfl rfl rfl rfl rfl) fun a19 H19 => ?_
  clear H18
  refine h_op H19 rfl (wn rfl) (R_mv H19 rfl rfl) rfl (P5 25 5 4 2 0 rfl rfl rfl rfl rfl) fun a20 H20 => ?_
  clear H19
  refine h_op H20 rfl (H20.wt rfl rfl rfl) (R_fa H20 rfl rfl (fa29_0 _ _)) rfl (P6 26 25 5 4 2 0 rfl rfl rfl rfl rfl rfl) fun a21 H21 => ?_
  clear H20
  refine h_op H21 rfl (H21.wt rfl rfl rfl) (R_ld H21 rfl rfl (ld_u8k (c := 3) (hL.cell 0) rfl)) rfl (P6 27 25 5 4 2 0 rfl rfl rfl rfl rfl rfl) fun a22 H22 => ?_
  clear H21
  refine h_op H22 rfl (H22.wt rfl rfl rfl) (R_bin H22 rfl rfl rfl (B_to (y := false) (B8_gt _ _) (by decide))) rfl (P6 28 25 5 4 2 0 rfl rfl rfl rfl rfl rfl) fun a23 H23 => ?_
  clear H22
  refine h_op H23 rfl (wn rfl) (R_pick H23 rfl rfl rfl) rfl (P5 29 5 4 2 0 rfl rfl rfl rfl rfl) fun a24 H24 => ?_
  clear H23
  refine h_end ?_
  repeat (go_not_at_region 8; go_step)
  refine wp_cond_false (H24.ev (x := .tmp 29) rfl) ?_
  repeat (go_not_at_region 8; go_step)
  refine wp_region_lit ?_
  refine h_op H24 rfl (wn rfl) (R_fa H24 rfl rfl (fa29_0 _ _)) rfl (P5 31 5 4 2 0 rfl rfl rfl rfl rfl) fun a25 H25 => ?_
  clear H24
  refine h_op H25 rfl (wn rfl) (R_ld H25 rfl rfl (ld_u8k (c := 3) (hL.cell 0) rfl)) rfl (P5 32 5 4 2 0 rfl rfl rfl rfl rfl) fun a26 H26 => ?_
  clear H25
  refine h_op H26 rfl (wn rfl) (R_bin H26 rfl rfl rfl (B_to (y := false) (B8_ge _ _) (by decide))) rfl (P5 33 5 4 2 0 rfl rfl rfl rfl rfl) fun a27 H27 => ?_
  clear H26
  refine h_op H27 rfl (wn rfl) (R_mv H27 rfl rfl) rfl (P5 34 5 4 2 0 rfl rfl rfl rfl rfl) fun a28 H28 => ?_
  clear H27
  refine h_skip H28 rfl (H28.wf rfl rfl rfl) rfl (P6 35 34 5 4 2 0 rfl rfl rfl rfl rfl rfl) fun a29 H29 => ?_
  clear H28
  refine h_skip H29 rfl (H29.wf rfl rfl rfl) rfl (P6 36 34 5 4 2 0 rfl rfl rfl rfl rfl rfl) fun a30 H30 => ?_
  clear H29
  refine h_skip H30 rfl (H30.wf rfl rfl rfl) rfl (P6 37 34 5 4 2 0 rfl rfl rfl rfl rfl rfl) fun a31 H31 => ?_
  clear H30
  refine h_op H31 rfl (wn rfl) (R_pick H31 rfl rfl rfl) rfl (P5 38 5 4 2 0 rfl rfl rfl rfl rfl) fun a32 H32 => ?_
  clear H31
  refine h_end ?_
  repeat (go_not_at_region 11; go_step)
  refine wp_cond_false (H32.ev (x := .tmp 38) rfl) ?_
  repeat (go_not_at_region 11; go_step)
  refine wp_region_lit ?_
  refine h_op H32 rfl (wn rfl) (R_fa H32 rfl rfl (fa29_0 _ _)) rfl (P5 45 5 4 2 0 rfl rfl rfl rfl rfl) fun a33 H33 => ?_
  clear H32
  refine h_op H33 rfl (wn rfl) (R_ld H33 rfl rfl (ld_u8k (c := 3) (hL.cell 0) rfl)) rfl (P5 46 5 4 2 0 rfl rfl rfl rfl rfl) fun a34 H34 => ?_
  clear H33
  refine h_end ?_
  repeat (go_not_at_region 12; go_step)
  refine wp_region_lit ?_
  refine h_op H34 rfl (wn rfl) (R_bin H34 rfl rfl rfl (B_to (y := false) (B8_eq _ _) (by decide))) rfl (P6 48 46 5 4 2 0 rfl rfl rfl rfl rfl rfl) fun a35 H35 => ?_
  clear H34
  refine h_op H35 rfl (wn rfl) (R_as H35 rfl rfl) rfl (P6 47 46 5 4 2 0 rfl rfl rfl rfl rfl rfl) fun a36 H36 => ?_
  clear H35
  refine h_end ?_
  repeat (go_not_at_region 14; go_step)
  refine wp_cond_false (H36.ev (x := .tmp 47) rfl) ?_
  repeat (go_not_at_region 14; go_step)
  repeat (go_not_at_region 14; go_step)
  refine wp_region_lit ?_
  refine h_op H36 rfl (wn rfl) (R_bin H36 rfl rfl rfl (B_to (y := false) (B8_eq _ _) (by decide))) rfl (P6 53 46 5 4 2 0 rfl rfl rfl rfl rfl rfl) fun a37 H37 => ?_
  clear H36
  refine h_op H37 rfl (wn rfl) (R_as H37 rfl rfl) rfl (P6 52 46 5 4 2 0 rfl rfl rfl rfl rfl rfl) fun a38 H38 => ?_
  clear H37
  refine h_end ?_
  repeat (go_not_at_region 15; go_step)
  refine wp_cond_false (H38.ev (x := .tmp 52) rfl) ?_
  repeat (go_not_at_region 15; go_step)
  repeat (go_not_at_region 15; go_step)
  refine wp_region_lit ?_
  refine h_op H38 rfl (wn rfl) (R_bin H38 rfl rfl rfl (B_to (y := true) (B8_eq _ _) (by decide))) rfl (P7 54 52 46 5 4 2 0 rfl rfl rfl rfl rfl rfl rfl) fun a39 H39 => ?_
  clear H38
  refine h_op H39 rfl (wn rfl) (R_as H39 rfl rfl) rfl (P6 52 46 5 4 2 0 rfl rfl rfl rfl rfl rfl) fun a40 H40 => ?_
  clear H39
  refine h_end ?_
  repeat (go_not_at_region 16; go_step)
  repeat (refine wp_cond_true (H40.ev (x := .tmp 52) rfl) ?_; repeat (go_not_at_region 16; go_step))
  repeat (go_not_at_region 16; go_step)
  have hM := inMost_any (m := 2147483647) (by decide) hs (show 1 ≤ s.size by have h := byteE_le (b := 0) (Nat.zero_le s.size); rw [hK] at h; exact h) hL.third
  have hle0 := mostE_le (m := 2147483647) (b := 0) (show 1 ≤ s.size by have h := byteE_le (b := 0) (Nat.zero_le s.size); rw [hK] at h; exact h)
  generalize mostE s 1 0 2147483647 = q0 at hM hle0 hr
  obtain ⟨x0, n0, b0⟩ := q0
  simp only at hM hle0 hr
  refine wp_region_lit ?_
  refine h_op H40 rfl (wn rfl) (R_mv H40 rfl rfl) rfl (P6 55 46 5 4 2 0 rfl rfl rfl rfl rfl rfl) fun a41 H41 => ?_
  clear H40
  refine h_call H41 rfl (wn rfl) (R_call2 H41 rfl rfl rfl (fun w => by simp [go_sem])) rfl ?_
  refine hM.mono ?_
  rintro e w42 ⟨rfl, hL2⟩
  replace hL := hL2.back3
  clear hL2 hM
  refine ⟨_, rfl, fun a42 HH => ?_⟩
  have H42 := HH _ (P6 56 46 5 4 2 0 rfl rfl rfl rfl rfl rfl)
  clear HH H41
  refine h_op H42 rfl (wn rfl) (R_fa H42 rfl rfl (fa29_9 _ _)) rfl (P7 57 56 46 5 4 2 0 rfl rfl rfl rfl rfl rfl rfl) fun a43 H43 => ?_
  clear H42
  refine h_op H43 rfl (wn rfl) (R_fa H43 rfl rfl (fa24_0 _ _)) rfl (P7 58 56 46 5 4 2 0 rfl rfl rfl rfl rfl rfl rfl) fun a44 H44 => ?_
  clear H43
  refine h_stL ((w5.heap.size, mcells { PMsg.zero with kind := 3, isrc := (x0 : Nat) } (.slice none 0 0) (.slice none 0 0), 29) :: (W.heap.size, zcells, 29) :: (w1.heap.size, rcells s n0 b0, 85) :: L) H44 rfl (wn rfl) (R_st H44 rfl rfl rfl (st_int hL rfl)) (hL.put 9 _) fun a45 w45 H45 hL' => ?_
  replace hL := hL'
  clear H44 hL'
  refine h_end ?_
  repeat (go_not_at_region 17; go_step)
  have hM := inMost_any (m := 2147483647) (by decide) hs hle0 hL.third
  have hle1 := mostE_le (m := 2147483647) (b := b0) hle0
  generalize mostE s n0 b0 2147483647 = q1 at hM hle1 hr
  obtain ⟨x1, n1, b1⟩ := q1
  simp only at hM hle1 hr
  refine wp_region_lit ?_
  refine h_op H45 rfl (wn rfl) (R_mv H45 rfl rfl) rfl (P6 59 46 5 4 2 0 rfl rfl rfl rfl rfl rfl) fun a46 H46 => ?_
  clear H45
  refine h_call H46 rfl (wn rfl) (R_call2 H46 rfl rfl rfl (fun w => by simp [go_sem])) rfl ?_
  refine hM.mono ?_
  rintro e w47 ⟨rfl, hL2⟩
  replace hL := hL2.back3
  clear hL2 hM
  refine ⟨_, rfl, fun a47 HH => ?_⟩
  have H47 := HH _ (P6 60 46 5 4 2 0 rfl rfl rfl rfl rfl rfl)
  clear HH H46
  refine h_op H47 rfl (wn rfl) (R_fa H47 rfl rfl (fa29_9 _ _)) rfl (P7 61 60 46 5 4 2 0 rfl rfl rfl rfl rfl rfl rfl) fun a48 H48 => ?_
  clear H47
  refine h_op H48 rfl (wn rfl) (R_fa H48 rfl rfl (fa24_1 _ _)) rfl (P7 62 60 46 5 4 2 0 rfl rfl rfl rfl rfl rfl rfl) fun a49 H49 => ?_
  clear H48
  refine h_stL ((w5.heap.size, mcells { PMsg.zero with kind := 3, isrc := (x0 : Nat), iseq := (x1 : Nat) } (.slice none 0 0) (.slice none 0 0), 29) :: (W.heap.size, zcells, 29) :: (w1.heap.size, rcells s n1 b1, 85) :: L) H49 rfl (wn rfl) (R_st H49 rfl rfl rfl (st_int hL rfl)) (hL.put 10 _) fun a50 w50 H50 hL' => ?_
  replace hL := hL'
  clear H49 hL'
  refine h_end ?_
  repeat (go_not_at_region 26; go_step)
  refine wp_region_lit ?_
  refine h_op H50 rfl (wn rfl) (R_fa H50 rfl rfl (fa29_0 _ _)) rfl (P5 77 5 4 2 0 rfl rfl rfl rfl rfl) fun a51 H51 => ?_
  clear H50
  refine h_op H51 rfl (wn rfl) (R_ld H51 rfl rfl (ld_u8k (c := 3) (hL.cell 0) rfl)) rfl (P5 78 5 4 2 0 rfl rfl rfl rfl rfl) fun a52 H52 => ?_
  clear H51
  refine h_end ?_
  repeat (go_not_at_region 27; go_step)
  refine wp_region_lit ?_
  refine h_op H52 rfl (wn rfl) (R_bin H52 rfl rfl rfl (B_to (y := false) (B8_eq _ _) (by decide))) rfl (P6 80 78 5 4 2 0 rfl rfl rfl rfl rfl rfl) fun a53 H53 => ?_
  clear H52
  refine h_op H53 rfl (wn rfl) (R_as H53 rfl rfl) rfl (P6 79 78 5 4 2 0 rfl rfl rfl rfl rfl rfl) fun a54 H54 => ?_
  clear H53
  refine h_end ?_
  repeat (go_not_at_region 28; go_step)
  refine wp_cond_false (H54.ev (x := .tmp 79) rfl) ?_
  repeat (go_not_at_region 28; go_step)
  repeat (go_not_at_region 28; go_step)
  refine wp_region_lit ?_
  refine h_op H54 rfl (wn rfl) (R_bin H54 rfl rfl rfl (B_to (y := false) (B8_eq _ _) (by decide))) rfl (P7 81 79 78 5 4 2 0 rfl rfl rfl rfl rfl rfl rfl) fun a55 H55 => ?_
  clear H54
  refine h_op H55 rfl (wn rfl) (R_as H55 rfl rfl) rfl (P6 79 78 5 4 2 0 rfl rfl rfl rfl rfl rfl) fun a56 H56 => ?_
  clear H55
  refine h_end ?_
  repeat (go_not_at_region 30; go_step)
  refine wp_cond_false (H56.ev (x := .tmp 79) rfl) ?_
  repeat (go_not_at_region 30; go_step)
  repeat (go_not_at_region 30; go_step)
  refine wp_region_lit ?_
  refine h_op H56 rfl (wn rfl) (R_bin H56 rfl rfl rfl (B_to (y := true) (B8_eq _ _) (by decide))) rfl (P6 86 78 5 4 2 0 rfl rfl rfl rfl rfl rfl) fun a57 H57 => ?_
  clear H56
  refine h_op H57 rfl (wn rfl) (R_as H57 rfl rfl) rfl (P6 85 78 5 4 2 0 rfl rfl rfl rfl rfl rfl) fun a58 H58 => ?_
  clear H57
  refine h_end ?_
  repeat (go_not_at_region 33; go_step)
  repeat (refine wp_cond_true (H58.ev (x := .tmp 85) rfl) ?_; repeat (go_not_at_region 33; go_step))
  repeat (go_not_at_region 33; go_step)
  have hM := rdTable_any hs hle1 hL.third
  have hle2 := tabE_le (b := b1) hle1
  generalize tabE s n1 b1 = q2 at hM hle2 hr
  obtain ⟨⟨x2, y2, l2⟩, n2, b2⟩ := q2
  simp only at hM hle2 hr
  refine wp_region_lit ?_
  refine h_op H58 rfl (wn rfl) (R_mv H58 rfl rfl) rfl (P6 89 78 5 4 2 0 rfl rfl rfl rfl rfl rfl) fun a59 H59 => ?_
  clear H58
  refine h_call H59 rfl (wn rfl) (R_call1 H59 rfl rfl (fun w => by simp [go_sem])) rfl ?_
  refine hM.mono ?_
  rintro e w60 ⟨v, B, rfl, hrow, hL2⟩
  obtain ⟨vp, vl, vc, rfl⟩ : ∃ p l c, v = .slice p l c := by
    rcases hrow with ⟨rfl, _⟩ | ⟨g', cap, cur, rfl, _⟩ <;> exact ⟨_, _, _, rfl⟩
  replace hL := hL2.perm (L' := ((w5.heap.size, mcells { PMsg.zero with kind := 3, isrc := (x0 : Nat), iseq := (x1 : Nat) } (.slice none 0 0) (.slice none 0 0), 29) :: (W.heap.size, zcells, 29) :: (w1.heap.size, rcells s n2 b2, 85) :: (B ++ L))) ((List.perm_append_comm_assoc B [(w1.heap.size, rcells s n2 b2, 85), (w5.heap.size, mcells { PMsg.zero with kind := 3, isrc := (x0 : Nat), iseq := (x1 : Nat) } (.slice none 0 0) (.slice none 0 0), 29), (W.heap.size, zcells, 29)] L).trans (Live.p3 _ _ _ _))
  clear hL2 hM
  refine ⟨_, rfl, fun a60 HH => ?_⟩
  have H60 := HH _ (P6 90 78 5 4 2 0 rfl rfl rfl rfl rfl rfl)
  clear HH H59
  refine h_op H60 rfl (wn rfl) (R_fa H60 rfl rfl (fa29_10 _ _)) rfl (P7 91 90 78 5 4 2 0 rfl rfl rfl rfl rfl rfl rfl) fun a61 H61 => ?_
  clear H60
  refine h_stL ((w5.heap.size, mcells { PMsg.zero with kind := 3, isrc := (x0 : Nat), iseq := (x1 : Nat), epoch := x2, nodes := y2, owner := l2 } (.slice vp vl vc) (.slice none 0 0), 29) :: (W.heap.size, zcells, 29) :: (w1.heap.size, rcells s n2 b2, 85) :: (B ++ L)) H61 rfl (wn rfl) (R_st H61 rfl rfl rfl (st_tabM hL)) (hL.tabM x2 y2 (.slice vp vl vc) l2) fun a62 w62 H62 hL' => ?_
  replace hL := hL'
  clear H61 hL'
  refine h_end ?_
  subst hr
  simp only at hY
  by_cases hb : b2 ≠ 0
  · rw [if_pos hb] at hY
    repeat (go_not_at_region 44; go_step)
    refine wp_region_lit ?_
    refine h_op H62 rfl (wn rfl) (R_mv H62 rfl rfl) rfl (P5 118 5 4 2 0 rfl rfl rfl rfl rfl) fun a63 H63 => ?_
    clear H62
    refine h_op H63 rfl (wn rfl) (R_nc H63 rfl rfl) rfl (P5 119 5 4 2 0 rfl rfl rfl rfl rfl) fun a64 H64 => ?_
    clear H63
    refine h_op H64 rfl (wn rfl) (R_fa H64 rfl rfl (fr_2 _ _)) rfl (P5 120 5 4 2 0 rfl rfl rfl rfl rfl) fun a65 H65 => ?_
    clear H64
    refine h_op H65 rfl (wn rfl) (R_ld H65 rfl rfl (ld_int (hL.third.cell 2))) rfl (P5 121 5 4 2 0 rfl rfl rfl rfl rfl) fun a66 H66 => ?_
    clear H65
    refine h_op H66 rfl (wn rfl) (R_bin H66 rfl rfl rfl (B_to (y := true) (B_ne Try.underlying3 _ _) (bne_iff_ne.2 hb))) rfl (P5 122 5 4 2 0 rfl rfl rfl rfl rfl) fun a67 H67 => ?_
    clear H66
    refine h_end ?_
    repeat (go_not_at_region 45; go_step)
    refine wp_cond_true (H67.ev (x := .tmp 122) rfl) ?_
    repeat (go_not_at_region 45; go_step)
    refine wp_region_held_drew (S := fun w' => Live w0 ((w5.heap.size, mcells { PMsg.zero with kind := 3, isrc := (x0 : Nat), iseq := (x1 : Nat), epoch := x2, nodes := y2, owner := l2 } (.slice vp vl vc) (.slice none 0 0), 29) :: (W.heap.size, zcells, 29) :: (w1.heap.size, rcells s n2 b2, 85) :: (B ++ L)) w') (by kernel_rfl) hL.drew (fun hL' => ?_)
    replace hL := hL'
    clear hL'
    refine a_op 0 H67 rfl rfl (by kernel_rfl) (by kernel_rfl) (by kernel_rfl) (fun _ _ _ h => h) (wn rfl) (fun w hL => R_build rfl bd_row) hL rfl (P3 123 4 2 rfl rfl rfl) fun a68 H68 => ?_
    clear H67
    refine a_op 1 H68 rfl rfl (by kernel_rfl) (by kernel_rfl) (by kernel_rfl) (fun _ _ _ h => h) (wn rfl) (fun w hL => R_mv H68 rfl rfl) hL rfl (P3 124 123 2 rfl rfl rfl) fun a69 H69 => ?_
    clear H68
    refine a_op 2 H69 rfl rfl (by kernel_rfl) (by kernel_rfl) (by kernel_rfl) (fun _ _ _ h => h) (wn rfl) (fun w hL => R_nc H69 rfl rfl) hL rfl (P3 125 123 2 rfl rfl rfl) fun a70 H70 => ?_
    clear H69
    refine a_op 3 H70 rfl rfl (by kernel_rfl) (by kernel_rfl) (by kernel_rfl) (fun _ _ _ h => h) (wn rfl) (fun w hL => R_fa H70 rfl rfl (fr_2 _ _)) hL rfl (P3 126 123 2 rfl rfl rfl) fun a71 H71 => ?_
    clear H70
    refine a_op 4 H71 rfl rfl (by kernel_rfl) (by kernel_rfl) (by kernel_rfl) (fun _ _ _ h => h) (wn rfl) (fun w hL => R_ld H71 rfl rfl (ld_int (hL.third.cell 2))) hL rfl (P3 127 123 2 rfl rfl rfl) fun a72 H72 => ?_
    clear H71
    refine a_all1 5 (by kernel_rfl) ?_
    refine o_stL ((w5.heap.size, mcells { PMsg.zero with kind := 3, isrc := (x0 : Nat), iseq := (x1 : Nat), epoch := x2, nodes := y2, owner := l2 } (.slice vp vl vc) (.slice none 0 0), 29) :: (W.heap.size, zcells, 29) :: (w1.heap.size, rcells s n2 b2, 85) :: (B ++ L)) 5 H72 rfl rfl (wn rfl) (R_st H72 rfl rfl rfl (st_row (m2 := .zero) (m := .zero) (vo2 := .slice none 0 0) (vs2 := .slice none 0 0) (vo := .slice none 0 0) (vs := .slice none 0 0) (hL.mem_at (by simp)) (mcells_one rfl rfl))) ((hL.swap.row _).swap) fun a73 w73 H73 hL' => ⟨hL', ?_⟩
    replace hL := hL'
    clear H72 hL'
    refine a_op 6 H73 rfl rfl (by kernel_rfl) (by kernel_rfl) (by kernel_rfl) (fun _ _ _ h => h) (wn rfl) (fun w hL => R_as H73 rfl rfl) hL rfl (P2 3 2 rfl rfl) fun a74 H74 => ?_
    clear H73
    refine wpAnyH_done (by kernel_rfl) ?_ _
    repeat (go_not_at_region 999; go_step)
    refine bodyPost_ret (v := .tuple #[.agg zcells, .int .i64 b2]) (refread_results (H74.getD rfl) (H74.getD rfl) hL.swap.at_ rfl) H74.1 ?_
    rw [hY]
    exact .zero rfl (Live.dropl hL.tail.tail.tail)
  obtain rfl : b2 = 0 := Decidable.not_not.1 hb
  rw [if_neg hb] at hY
  clear hb
  repeat (go_not_at_region 44; go_step)
  refine wp_region_lit ?_
  refine h_op H62 rfl (wn rfl) (R_mv H62 rfl rfl) rfl (P5 118 5 4 2 0 rfl rfl rfl rfl rfl) fun a63 H63 => ?_
  clear H62
  refine h_op H63 rfl (wn rfl) (R_nc H63 rfl rfl) rfl (P5 119 5 4 2 0 rfl rfl rfl rfl rfl) fun a64 H64 => ?_
  clear H63
  refine h_op H64 rfl (wn rfl) (R_fa H64 rfl rfl (fr_2 _ _)) rfl (P5 120 5 4 2 0 rfl rfl rfl rfl rfl) fun a65 H65 => ?_
  clear H64
  refine h_op H65 rfl (wn rfl) (R_ld H65 rfl rfl (ld_int (hL.third.cell 2))) rfl (P5 121 5 4 2 0 rfl rfl rfl rfl rfl) fun a66 H66 => ?_
  clear H65
  refine h_op H66 rfl (wn rfl) (R_bin H66 rfl rfl rfl (B_to (y := false) (B_ne Try.underlying3 _ _) (by decide))) rfl (P5 122 5 4 2 0 rfl rfl rfl rfl rfl) fun a67 H67 => ?_
  clear H66
  refine h_end ?_
  repeat (go_not_at_region 46; go_step)
  refine wp_cond_false (H67.ev (x := .tmp 122) rfl) ?_
  by_cases hn : n2 < s.size
  · rw [if_pos hn] at hY
    repeat (go_not_at_region 46; go_step)
    repeat (go_not_at_region 46; go_step)
    refine wp_region_lit ?_
    refine h_op H67 rfl (wn rfl) (R_mv H67 rfl rfl) rfl (P5 128 5 4 2 0 rfl rfl rfl rfl rfl) fun a68 H68 => ?_
    clear H67
    refine h_op H68 rfl (wn rfl) (R_nc H68 rfl rfl) rfl (P5 129 5 4 2 0 rfl rfl rfl rfl rfl) fun a69 H69 => ?_
    clear H68
    refine h_op H69 rfl (wn rfl) (R_fa H69 rfl rfl (fr_1 _ _)) rfl (P5 130 5 4 2 0 rfl rfl rfl rfl rfl) fun a70 H70 => ?_
    clear H69
    refine h_op H70 rfl (wn rfl) (R_ld H70 rfl rfl (ld_int (hL.third.cell 1))) rfl (P5 131 5 4 2 0 rfl rfl rfl rfl rfl) fun a71 H71 => ?_
    clear H70
    refine h_op H71 rfl (wn rfl) (R_mv H71 rfl rfl) rfl (P6 132 131 5 4 2 0 rfl rfl rfl rfl rfl rfl) fun a72 H72 => ?_
    clear H71
    refine h_op H72 rfl (wn rfl) (R_len H72 rfl rfl Try.underlying9) rfl (P6 133 131 5 4 2 0 rfl rfl rfl rfl rfl rfl) fun a73 H73 => ?_
    clear H72
    refine h_op H73 rfl (wn rfl) (R_bin H73 rfl rfl rfl (B_to (y := true) (B_lt Try.underlying3 _ _) (decide_eq_true (by omega)))) rfl (P5 134 5 4 2 0 rfl rfl rfl rfl rfl) fun a74 H74 => ?_
    clear H73
    refine h_end ?_
    repeat (go_not_at_region 47; go_step)
    refine wp_cond_true (H74.ev (x := .tmp 134) rfl) ?_
    repeat (go_not_at_region 47; go_step)
    repeat (go_not_at_region 47; go_step)
    refine wp_region_lit ?_
    refine h_op H74 rfl (wn rfl) (R_build rfl bd_row) rfl (P2 135 2 rfl rfl) fun a75 H75 => ?_
    clear H74
    refine h_stL ((w5.heap.size, mcells { PMsg.zero with kind := 3, isrc := (x0 : Nat), iseq := (x1 : Nat), epoch := x2, nodes := y2, owner := l2 } (.slice vp vl vc) (.slice none 0 0), 29) :: (W.heap.size, zcells, 29) :: (w1.heap.size, rcells s n2 0, 85) :: (B ++ L)) H75 rfl (wn rfl) (R_st H75 rfl rfl rfl (st_row (m2 := .zero) (m := .zero) (vo2 := .slice none 0 0) (vs2 := .slice none 0 0) (vo := .slice none 0 0) (vs := .slice none 0 0) (hL.mem_at (by simp)) (mcells_one rfl rfl))) ((hL.swap.row _).swap) fun a76 w76 H76 hL' => ?_
    replace hL := hL'
    clear H75 hL'
    refine h_op H76 rfl (wn rfl) (R_as H76 rfl rfl) rfl (P2 3 2 rfl rfl) fun a77 H77 => ?_
    clear H76
    refine h_end ?_
    repeat (go_not_at_region 999; go_step)
    refine bodyPost_ret (v := .tuple #[.agg zcells, .int .i64 8]) (refread_results (H77.getD rfl) (H77.getD rfl) hL.swap.at_ rfl) H77.1 ?_
    rw [hY]
    exact .zero rfl (Live.dropl hL.tail.tail.tail)
  rw [if_neg hn] at hY
  repeat (go_not_at_region 46; go_step)
  repeat (go_not_at_region 46; go_step)
  refine wp_region_lit ?_
  refine h_op H67 rfl (wn rfl) (R_mv H67 rfl rfl) rfl (P5 128 5 4 2 0 rfl rfl rfl rfl rfl) fun a68 H68 => ?_
  clear H67
  refine h_op H68 rfl (wn rfl) (R_nc H68 rfl rfl) rfl (P5 129 5 4 2 0 rfl rfl rfl rfl rfl) fun a69 H69 => ?_
  clear H68
  refine h_op H69 rfl (wn rfl) (R_fa H69 rfl rfl (fr_1 _ _)) rfl (P5 130 5 4 2 0 rfl rfl rfl rfl rfl) fun a70 H70 => ?_
  clear H69
  refine h_op H70 rfl (wn rfl) (R_ld H70 rfl rfl (ld_int (hL.third.cell 1))) rfl (P5 131 5 4 2 0 rfl rfl rfl rfl rfl) fun a71 H71 => ?_
  clear H70
  refine h_op H71 rfl (wn rfl) (R_mv H71 rfl rfl) rfl (P6 132 131 5 4 2 0 rfl rfl rfl rfl rfl rfl) fun a72 H72 => ?_
  clear H71
  refine h_op H72 rfl (wn rfl) (R_len H72 rfl rfl Try.underlying9) rfl (P6 133 131 5 4 2 0 rfl rfl rfl rfl rfl rfl) fun a73 H73 => ?_
  clear H72
  refine h_op H73 rfl (wn rfl) (R_bin H73 rfl rfl rfl (B_to (y := false) (B_lt Try.underlying3 _ _) (decide_eq_false (by omega)))) rfl (P5 134 5 4 2 0 rfl rfl rfl rfl rfl) fun a74 H74 => ?_
  clear H73
  refine h_end ?_
  repeat (go_not_at_region 48; go_step)
  refine wp_cond_false (H74.ev (x := .tmp 134) rfl) ?_
  repeat (go_not_at_region 48; go_step)
  repeat (go_not_at_region 48; go_step)
  refine wp_region_lit ?_
  refine h_op H74 rfl (wn rfl) (R_ld H74 rfl rfl (ld_row hL.at_)) rfl (P2 136 2 rfl rfl) fun a75 H75 => ?_
  clear H74
  refine h_stL ((W.heap.size, mcells { PMsg.zero with kind := 3, isrc := (x0 : Nat), iseq := (x1 : Nat), epoch := x2, nodes := y2, owner := l2 } (.slice vp vl vc) (.slice none 0 0), 29) :: (w5.heap.size, mcells { PMsg.zero with kind := 3, isrc := (x0 : Nat), iseq := (x1 : Nat), epoch := x2, nodes := y2, owner := l2 } (.slice vp vl vc) (.slice none 0 0), 29) :: (w1.heap.size, rcells s n2 0, 85) :: (B ++ L)) H75 rfl (wn rfl) (R_st H75 rfl rfl rfl (st_row (m2 := .zero) (vo2 := .slice none 0 0) (vs2 := .slice none 0 0) (hL.mem_at (by simp)) (mcells_one rfl rfl))) (hL.swap.row _) fun a76 w76 H76 hL' => ?_
  replace hL := hL'
  clear H75 hL'
  refine h_op H76 rfl (wn rfl) (R_as H76 rfl rfl) rfl (P2 3 2 rfl rfl) fun a77 H77 => ?_
  clear H76
  refine h_end ?_
  repeat (go_not_at_region 999; go_step)
  refine bodyPost_ret (v := .tuple #[.agg (mcells { PMsg.zero with kind := 3, isrc := (x0 : Nat), iseq := (x1 : Nat), epoch := x2, nodes := y2, owner := l2 } (.slice vp vl vc) (.slice none 0 0)), .int .i64 0]) (refread_results (H77.getD rfl) (H77.getD rfl) hL.at_ rfl) H77.1 ?_
  rw [hY]
  exact ⟨(.slice vp vl vc), (.slice none 0 0), B, [], rfl, .inr hrow, .inl ⟨rd_nul _, rfl⟩, hL.tail.tail.tail⟩
set_option maxRecDepth 100000 in
set_option maxHeartbeats 8000000 in
theorem rread_4 (hs : s.size < 140737488351233) (hL : Live w0 L W) (hK : byteE s 0 0 = (4, 1, 0)) : Calls Try.prog 23 #[.string s] W fun e W' => ReadQ w0 L (msgE s) e W' := by
  obtain ⟨Y, hY⟩ : ∃ Y, Y = msgE s := ⟨_, rfl⟩
  rw [← hY]
  obtain ⟨r, hr⟩ : ∃ r, r = body4 s 1 0 := ⟨_, rfl⟩
  rw [msgE_body hK (by decide) (by decide) (show bodyE s 4 1 0 = r from hr.symm)] at hY
  unfold body4 at hr
  simp only at hr
  go_enter Try.func23, Try.ntmps23
  refine wp_fr (n := 137) (m := [(0, _)]) ⟨rfl, rfl, by intro p hp; simp only [List.mem_cons, List.not_mem_nil, or_false] at hp; rcases hp with rfl <;> rfl⟩ fun a0 H0 => ?_
  repeat (go_not_at_region 0; go_step)
  refine wp_region_lit ?_
  refine h_opL ((W.heap.size, zcells, 29) :: L) H0 rfl (wn rfl) (R_alloc rfl al_row) (hL.alloc _ _) rfl (P2 2 0 rfl rfl) fun a1 w1 H1 hL' => ?_
  replace hL := hL'
  clear H0 hL'
  refine h_op H1 rfl (wn rfl) (R_as H1 rfl rfl) rfl (P2 2 0 rfl rfl) fun a2 H2 => ?_
  clear H1
  refine h_end ?_
  repeat (go_not_at_region 1; go_step)
  refine wp_region_lit ?_
  refine h_op H2 rfl (wn rfl) (R_mv H2 rfl rfl) rfl (P3 6 2 0 rfl rfl rfl) fun a3 H3 => ?_
  clear H2
  refine h_op H3 rfl (wn rfl) (R_bd1 H3 rfl rfl bd_in) rfl (P3 7 2 0 rfl rfl rfl) fun a4 H4 => ?_
  clear H3
  refine h_opL ((w1.heap.size, rcells s 0 0, 85) :: (W.heap.size, zcells, 29) :: L) H4 rfl (wn rfl) (R_box H4 rfl rfl bx_in) (hL.alloc _ _) rfl (P3 8 2 0 rfl rfl rfl) fun a5 w5 H5 hL' => ?_
  replace hL := hL'
  clear H4 hL'
  refine h_op H5 rfl (wn rfl) (R_as H5 rfl rfl) rfl (P3 4 2 0 rfl rfl rfl) fun a6 H6 => ?_
  clear H5
  refine h_end ?_
  repeat (go_not_at_region 2; go_step)
  refine wp_region_lit ?_
  refine h_opL ((w5.heap.size, zcells, 29) :: (W.heap.size, zcells, 29) :: (w1.heap.size, rcells s 0 0, 85) :: L) H6 rfl (wn rfl) (R_alloc rfl al_row) ((hL.alloc _ _).swap3) rfl (P4 5 4 2 0 rfl rfl rfl rfl) fun a7 w7 H7 hL' => ?_
  replace hL := hL'
  clear H6 hL'
  refine h_end ?_
  repeat (go_not_at_region 3; go_step)
  have hM := inByte_any hs (Nat.zero_le _) hL.third
  rw [hK] at hM
  simp only at hM
  refine wp_region_lit ?_
  refine h_op H7 rfl (wn rfl) (R_mv H7 rfl rfl) rfl (P5 9 5 4 2 0 rfl rfl rfl rfl rfl) fun a8 H8 => ?_
  clear H7
  refine h_call H8 rfl (wn rfl) (R_call1 H8 rfl rfl (fun w => by simp [go_sem])) rfl ?_
  refine hM.mono ?_
  rintro e w9 ⟨rfl, hL2⟩
  replace hL := hL2.back3
  clear hL2 hM
  refine ⟨_, rfl, fun a9 HH => ?_⟩
  have H9 := HH _ (P5 10 5 4 2 0 rfl rfl rfl rfl rfl)
  clear HH H8
  refine h_op H9 rfl (wn rfl) (R_fa H9 rfl rfl (fa29_0 _ _)) rfl (P6 11 10 5 4 2 0 rfl rfl rfl rfl rfl rfl) fun a10 H10 => ?_
  clear H9
  refine h_stL ((w5.heap.size, mcells { PMsg.zero with kind := 4 } (.slice none 0 0) (.slice none 0 0), 29) :: (W.heap.size, zcells, 29) :: (w1.heap.size, rcells s 1 0, 85) :: L) H10 rfl (wn rfl) (R_st H10 rfl rfl rfl (st_u8c hL rfl)) (hL.put 0 _) fun a11 w11 H11 hL' => ?_
  replace hL := hL'
  clear H10 hL'
  refine h_end ?_
  repeat (go_not_at_region 4; go_step)
  refine wp_region_lit ?_
  refine h_op H11 rfl (wn rfl) (R_mv H11 rfl rfl) rfl (P5 12 5 4 2 0 rfl rfl rfl rfl rfl) fun a12 H12 => ?_
  clear H11
  refine h_op H12 rfl (wn rfl) (R_nc H12 rfl rfl) rfl (P5 13 5 4 2 0 rfl rfl rfl rfl rfl) fun a13 H13 => ?_
  clear H12
  refine h_op H13 rfl (wn rfl) (R_fa H13 rfl rfl (fr_2 _ _)) rfl (P5 14 5 4 2 0 rfl rfl rfl rfl rfl) fun a14 H14 => ?_
  clear H13
  refine h_op H14 rfl (wn rfl) (R_ld H14 rfl rfl (ld_int (hL.third.cell 2))) rfl (P5 15 5 4 2 0 rfl rfl rfl rfl rfl) fun a15 H15 => ?_
  clear H14
  refine h_op H15 rfl (wn rfl) (R_bin H15 rfl rfl rfl (B_to (y := false) (B_ne Try.underlying3 _ _) (by decide))) rfl (P5 16 5 4 2 0 rfl rfl rfl rfl rfl) fun a16 H16 => ?_
  clear H15
  refine h_end ?_
  repeat (go_not_at_region 6; go_step)
  refine wp_cond_false (H16.ev (x := .tmp 16) rfl) ?_
  repeat (go_not_at_region 6; go_step)
  refine wp_region_lit ?_
  refine h_op H16 rfl (wn rfl) (R_fa H16 rfl rfl (fa29_0 _ _)) rfl (P5 22 5 4 2 0 rfl rfl rfl rfl rfl) fun a17 H17 => ?_
  clear H16
  refine h_op H17 rfl (wn rfl) (R_ld H17 rfl rfl (ld_u8k (c := 4) (hL.cell 0) rfl)) rfl (P5 23 5 4 2 0 rfl rfl rfl rfl rfl) fun a18 H18 => ?_
  clear H17
  refine h_op H18 rfl (wn rfl) (R_bin H18 rfl rfl rfl (B_to (y := false) (B8_lt _ _) (by decide))) rfl (P5 24 5 4 2 0 rfl rfl rfl rfl rfl) fun a19 H19 => ?_
  clear H18
  refine h_op H19 rfl (wn rfl) (R_mv H19 rfl rfl) rfl (P5 25 5 4 2 0 rfl rfl rfl rfl rfl) fun a20 H20 => ?_
  clear H19
  refine h_op H20 rfl (H20.wt rfl rfl rfl) (R_fa H20 rfl rfl (fa29_0 _ _)) rfl (P6 26 25 5 4 2 0 rfl rfl rfl rfl rfl rfl) fun a21 H21 => ?_
  clear H20
  refine h_op H21 rfl (H21.wt rfl rfl rfl) (R_ld H21 rfl rfl (ld_u8k (c := 4) (hL.cell 0) rfl)) rfl (P6 27 25 5 4 2 0 rfl rfl rfl rfl rfl rfl) fun a22 H22 => ?_
  clear H21
  refine h_op H22 rfl (H22.wt rfl rfl rfl) (R_bin H22 rfl rfl rfl (B_to (y := false) (B8_gt _ _) (by decide))) rfl (P6 28 25 5 4 2 0 rfl rfl rfl rfl rfl rfl) fun a23 H23 => ?_
  clear H22
  refine h_op H23 rfl (wn rfl) (R_pick H23 rfl rfl rfl) rfl (P5 29 5 4 2 0 rfl rfl rfl rfl rfl) fun a24 H24 => ?_
  clear H23
  refine h_end ?_
  repeat (go_not_at_region 8; go_step)
  refine wp_cond_false (H24.ev (x := .tmp 29) rfl) ?_
  repeat (go_not_at_region 8; go_step)
  refine wp_region_lit ?_
  refine h_op H24 rfl (wn rfl) (R_fa H24 rfl rfl (fa29_0 _ _)) rfl (P5 31 5 4 2 0 rfl rfl rfl rfl rfl) fun a25 H25 => ?_
  clear H24
  refine h_op H25 rfl (wn rfl) (R_ld H25 rfl rfl (ld_u8k (c := 4) (hL.cell 0) rfl)) rfl (P5 32 5 4 2 0 rfl rfl rfl rfl rfl) fun a26 H26 => ?_
  clear H25
  refine h_op H26 rfl (wn rfl) (R_bin H26 rfl rfl rfl (B_to (y := true) (B8_ge _ _) (by decide))) rfl (P5 33 5 4 2 0 rfl rfl rfl rfl rfl) fun a27 H27 => ?_
  clear H26
  refine h_op H27 rfl (wn rfl) (R_mv H27 rfl rfl) rfl (P5 34 5 4 2 0 rfl rfl rfl rfl rfl) fun a28 H28 => ?_
  clear H27
  refine h_op H28 rfl (H28.wt rfl rfl rfl) (R_fa H28 rfl rfl (fa29_0 _ _)) rfl (P6 35 34 5 4 2 0 rfl rfl rfl rfl rfl rfl) fun a29 H29 => ?_
  clear H28
  refine h_op H29 rfl (H29.wt rfl rfl rfl) (R_ld H29 rfl rfl (ld_u8k (c := 4) (hL.cell 0) rfl)) rfl (P6 36 34 5 4 2 0 rfl rfl rfl rfl rfl rfl) fun a30 H30 => ?_
  clear H29
  refine h_op H30 rfl (H30.wt rfl rfl rfl) (R_bin H30 rfl rfl rfl (B_to (y := true) (B8_le _ _) (by decide))) rfl (P6 37 34 5 4 2 0 rfl rfl rfl rfl rfl rfl) fun a31 H31 => ?_
  clear H30
  refine h_op H31 rfl (wn rfl) (R_pick H31 rfl rfl rfl) rfl (P5 38 5 4 2 0 rfl rfl rfl rfl rfl) fun a32 H32 => ?_
  clear H31
  refine h_end ?_
  repeat (go_not_at_region 9; go_step)
  refine wp_cond_true (H32.ev (x := .tmp 38) rfl) ?_
  repeat (go_not_at_region 9; go_step)
  have hM := inMost_any (m := 2147483647) (by decide) hs (show 1 ≤ s.size by have h := byteE_le (b := 0) (Nat.zero_le s.size); rw [hK] at h; exact h) hL.third
  have hle0 := mostE_le (m := 2147483647) (b := 0) (show 1 ≤ s.size by have h := byteE_le (b := 0) (Nat.zero_le s.size); rw [hK] at h; exact h)
  generalize mostE s 1 0 2147483647 = q0 at hM hle0 hr
  obtain ⟨x0, n0, b0⟩ := q0
  simp only at hM hle0 hr
  refine wp_region_lit ?_
  refine h_op H32 rfl (wn rfl) (R_mv H32 rfl rfl) rfl (P5 39 5 4 2 0 rfl rfl rfl rfl rfl) fun a33 H33 => ?_
  clear H32
  refine h_call H33 rfl (wn rfl) (R_call2 H33 rfl rfl rfl (fun w => by simp [go_sem])) rfl ?_
  refine hM.mono ?_
  rintro e w34 ⟨rfl, hL2⟩
  replace hL := hL2.back3
  clear hL2 hM
  refine ⟨_, rfl, fun a34 HH => ?_⟩
  have H34 := HH _ (P5 40 5 4 2 0 rfl rfl rfl rfl rfl)
  clear HH H33
  refine h_op H34 rfl (wn rfl) (R_fa H34 rfl rfl (fa29_1 _ _)) rfl (P6 41 40 5 4 2 0 rfl rfl rfl rfl rfl rfl) fun a35 H35 => ?_
  clear H34
  refine h_stL ((w5.heap.size, mcells { PMsg.zero with kind := 4, move := (x0 : Nat) } (.slice none 0 0) (.slice none 0 0), 29) :: (W.heap.size, zcells, 29) :: (w1.heap.size, rcells s n0 b0, 85) :: L) H35 rfl (wn rfl) (R_st H35 rfl rfl rfl (st_int hL rfl)) (hL.put 1 _) fun a36 w36 H36 hL' => ?_
  replace hL := hL'
  clear H35 hL'
  refine h_end ?_
  repeat (go_not_at_region 10; go_step)
  have hM := inMost_any (m := 2147483647) (by decide) hs hle0 hL.third
  have hle1 := mostE_le (m := 2147483647) (b := b0) hle0
  generalize mostE s n0 b0 2147483647 = q1 at hM hle1 hr
  obtain ⟨x1, n1, b1⟩ := q1
  simp only at hM hle1 hr
  refine wp_region_lit ?_
  refine h_op H36 rfl (wn rfl) (R_mv H36 rfl rfl) rfl (P5 42 5 4 2 0 rfl rfl rfl rfl rfl) fun a37 H37 => ?_
  clear H36
  refine h_call H37 rfl (wn rfl) (R_call2 H37 rfl rfl rfl (fun w => by simp [go_sem])) rfl ?_
  refine hM.mono ?_
  rintro e w38 ⟨rfl, hL2⟩
  replace hL := hL2.back3
  clear hL2 hM
  refine ⟨_, rfl, fun a38 HH => ?_⟩
  have H38 := HH _ (P5 43 5 4 2 0 rfl rfl rfl rfl rfl)
  clear HH H37
  refine h_op H38 rfl (wn rfl) (R_fa H38 rfl rfl (fa29_2 _ _)) rfl (P6 44 43 5 4 2 0 rfl rfl rfl rfl rfl rfl) fun a39 H39 => ?_
  clear H38
  refine h_stL ((w5.heap.size, mcells { PMsg.zero with kind := 4, move := (x0 : Nat), part := (x1 : Nat) } (.slice none 0 0) (.slice none 0 0), 29) :: (W.heap.size, zcells, 29) :: (w1.heap.size, rcells s n1 b1, 85) :: L) H39 rfl (wn rfl) (R_st H39 rfl rfl rfl (st_int hL rfl)) (hL.put 2 _) fun a40 w40 H40 hL' => ?_
  replace hL := hL'
  clear H39 hL'
  refine h_end ?_
  repeat (go_not_at_region 11; go_step)
  refine wp_region_lit ?_
  refine h_op H40 rfl (wn rfl) (R_fa H40 rfl rfl (fa29_0 _ _)) rfl (P5 45 5 4 2 0 rfl rfl rfl rfl rfl) fun a41 H41 => ?_
  clear H40
  refine h_op H41 rfl (wn rfl) (R_ld H41 rfl rfl (ld_u8k (c := 4) (hL.cell 0) rfl)) rfl (P5 46 5 4 2 0 rfl rfl rfl rfl rfl) fun a42 H42 => ?_
  clear H41
  refine h_end ?_
  repeat (go_not_at_region 12; go_step)
  refine wp_region_lit ?_
  refine h_op H42 rfl (wn rfl) (R_bin H42 rfl rfl rfl (B_to (y := false) (B8_eq _ _) (by decide))) rfl (P6 48 46 5 4 2 0 rfl rfl rfl rfl rfl rfl) fun a43 H43 => ?_
  clear H42
  refine h_op H43 rfl (wn rfl) (R_as H43 rfl rfl) rfl (P6 47 46 5 4 2 0 rfl rfl rfl rfl rfl rfl) fun a44 H44 => ?_
  clear H43
  refine h_end ?_
  repeat (go_not_at_region 14; go_step)
  refine wp_cond_false (H44.ev (x := .tmp 47) rfl) ?_
  repeat (go_not_at_region 14; go_step)
  repeat (go_not_at_region 14; go_step)
  refine wp_region_lit ?_
  refine h_op H44 rfl (wn rfl) (R_bin H44 rfl rfl rfl (B_to (y := false) (B8_eq _ _) (by decide))) rfl (P6 53 46 5 4 2 0 rfl rfl rfl rfl rfl rfl) fun a45 H45 => ?_
  clear H44
  refine h_op H45 rfl (wn rfl) (R_as H45 rfl rfl) rfl (P6 52 46 5 4 2 0 rfl rfl rfl rfl rfl rfl) fun a46 H46 => ?_
  clear H45
  refine h_end ?_
  repeat (go_not_at_region 15; go_step)
  refine wp_cond_false (H46.ev (x := .tmp 52) rfl) ?_
  repeat (go_not_at_region 15; go_step)
  repeat (go_not_at_region 15; go_step)
  refine wp_region_lit ?_
  refine h_op H46 rfl (wn rfl) (R_bin H46 rfl rfl rfl (B_to (y := false) (B8_eq _ _) (by decide))) rfl (P7 54 52 46 5 4 2 0 rfl rfl rfl rfl rfl rfl rfl) fun a47 H47 => ?_
  clear H46
  refine h_op H47 rfl (wn rfl) (R_as H47 rfl rfl) rfl (P6 52 46 5 4 2 0 rfl rfl rfl rfl rfl rfl) fun a48 H48 => ?_
  clear H47
  refine h_end ?_
  repeat (go_not_at_region 18; go_step)
  refine wp_cond_false (H48.ev (x := .tmp 52) rfl) ?_
  repeat (go_not_at_region 18; go_step)
  repeat (go_not_at_region 18; go_step)
  refine wp_region_lit ?_
  refine h_op H48 rfl (wn rfl) (R_bin H48 rfl rfl rfl (B_to (y := true) (B8_eq _ _) (by decide))) rfl (P6 64 46 5 4 2 0 rfl rfl rfl rfl rfl rfl) fun a49 H49 => ?_
  clear H48
  refine h_op H49 rfl (wn rfl) (R_as H49 rfl rfl) rfl (P6 63 46 5 4 2 0 rfl rfl rfl rfl rfl rfl) fun a50 H50 => ?_
  clear H49
  refine h_end ?_
  repeat (go_not_at_region 19; go_step)
  repeat (refine wp_cond_true (H50.ev (x := .tmp 63) rfl) ?_; repeat (go_not_at_region 19; go_step))
  repeat (go_not_at_region 19; go_step)
  have hM := inMost_any (m := 2147483647) (by decide) hs hle1 hL.third
  have hle2 := mostE_le (m := 2147483647) (b := b1) hle1
  generalize mostE s n1 b1 2147483647 = q2 at hM hle2 hr
  obtain ⟨x2, n2, b2⟩ := q2
  simp only at hM hle2 hr
  refine wp_region_lit ?_
  refine h_op H50 rfl (wn rfl) (R_mv H50 rfl rfl) rfl (P6 65 46 5 4 2 0 rfl rfl rfl rfl rfl rfl) fun a51 H51 => ?_
  clear H50
  refine h_call H51 rfl (wn rfl) (R_call2 H51 rfl rfl rfl (fun w => by simp [go_sem])) rfl ?_
  refine hM.mono ?_
  rintro e w52 ⟨rfl, hL2⟩
  replace hL := hL2.back3
  clear hL2 hM
  refine ⟨_, rfl, fun a52 HH => ?_⟩
  have H52 := HH _ (P6 66 46 5 4 2 0 rfl rfl rfl rfl rfl rfl)
  clear HH H51
  refine h_op H52 rfl (wn rfl) (R_fa H52 rfl rfl (fa29_3 _ _)) rfl (P7 67 66 46 5 4 2 0 rfl rfl rfl rfl rfl rfl rfl) fun a53 H53 => ?_
  clear H52
  refine h_stL ((w5.heap.size, mcells { PMsg.zero with kind := 4, move := (x0 : Nat), part := (x1 : Nat), «to» := (x2 : Nat) } (.slice none 0 0) (.slice none 0 0), 29) :: (W.heap.size, zcells, 29) :: (w1.heap.size, rcells s n2 b2, 85) :: L) H53 rfl (wn rfl) (R_st H53 rfl rfl rfl (st_int hL rfl)) (hL.put 3 _) fun a54 w54 H54 hL' => ?_
  replace hL := hL'
  clear H53 hL'
  refine h_end ?_
  repeat (go_not_at_region 26; go_step)
  refine wp_region_lit ?_
  refine h_op H54 rfl (wn rfl) (R_fa H54 rfl rfl (fa29_0 _ _)) rfl (P5 77 5 4 2 0 rfl rfl rfl rfl rfl) fun a55 H55 => ?_
  clear H54
  refine h_op H55 rfl (wn rfl) (R_ld H55 rfl rfl (ld_u8k (c := 4) (hL.cell 0) rfl)) rfl (P5 78 5 4 2 0 rfl rfl rfl rfl rfl) fun a56 H56 => ?_
  clear H55
  refine h_end ?_
  repeat (go_not_at_region 27; go_step)
  refine wp_region_lit ?_
  refine h_op H56 rfl (wn rfl) (R_bin H56 rfl rfl rfl (B_to (y := false) (B8_eq _ _) (by decide))) rfl (P6 80 78 5 4 2 0 rfl rfl rfl rfl rfl rfl) fun a57 H57 => ?_
  clear H56
  refine h_op H57 rfl (wn rfl) (R_as H57 rfl rfl) rfl (P6 79 78 5 4 2 0 rfl rfl rfl rfl rfl rfl) fun a58 H58 => ?_
  clear H57
  refine h_end ?_
  repeat (go_not_at_region 28; go_step)
  refine wp_cond_false (H58.ev (x := .tmp 79) rfl) ?_
  repeat (go_not_at_region 28; go_step)
  repeat (go_not_at_region 28; go_step)
  refine wp_region_lit ?_
  refine h_op H58 rfl (wn rfl) (R_bin H58 rfl rfl rfl (B_to (y := false) (B8_eq _ _) (by decide))) rfl (P7 81 79 78 5 4 2 0 rfl rfl rfl rfl rfl rfl rfl) fun a59 H59 => ?_
  clear H58
  refine h_op H59 rfl (wn rfl) (R_as H59 rfl rfl) rfl (P6 79 78 5 4 2 0 rfl rfl rfl rfl rfl rfl) fun a60 H60 => ?_
  clear H59
  refine h_end ?_
  repeat (go_not_at_region 30; go_step)
  refine wp_cond_false (H60.ev (x := .tmp 79) rfl) ?_
  repeat (go_not_at_region 30; go_step)
  repeat (go_not_at_region 30; go_step)
  refine wp_region_lit ?_
  refine h_op H60 rfl (wn rfl) (R_bin H60 rfl rfl rfl (B_to (y := false) (B8_eq _ _) (by decide))) rfl (P6 86 78 5 4 2 0 rfl rfl rfl rfl rfl rfl) fun a61 H61 => ?_
  clear H60
  refine h_op H61 rfl (wn rfl) (R_as H61 rfl rfl) rfl (P6 85 78 5 4 2 0 rfl rfl rfl rfl rfl rfl) fun a62 H62 => ?_
  clear H61
  refine h_end ?_
  repeat (go_not_at_region 31; go_step)
  refine wp_cond_false (H62.ev (x := .tmp 85) rfl) ?_
  repeat (go_not_at_region 31; go_step)
  repeat (go_not_at_region 31; go_step)
  refine wp_region_lit ?_
  refine h_op H62 rfl (wn rfl) (R_bin H62 rfl rfl rfl (B_to (y := false) (B8_eq _ _) (by decide))) rfl (P7 87 85 78 5 4 2 0 rfl rfl rfl rfl rfl rfl rfl) fun a63 H63 => ?_
  clear H62
  refine h_op H63 rfl (wn rfl) (R_as H63 rfl rfl) rfl (P6 85 78 5 4 2 0 rfl rfl rfl rfl rfl rfl) fun a64 H64 => ?_
  clear H63
  refine h_end ?_
  repeat (go_not_at_region 32; go_step)
  refine wp_cond_false (H64.ev (x := .tmp 85) rfl) ?_
  repeat (go_not_at_region 32; go_step)
  repeat (go_not_at_region 32; go_step)
  refine wp_region_lit ?_
  refine h_op H64 rfl (wn rfl) (R_bin H64 rfl rfl rfl (B_to (y := false) (B8_eq _ _) (by decide))) rfl (P7 88 85 78 5 4 2 0 rfl rfl rfl rfl rfl rfl rfl) fun a65 H65 => ?_
  clear H64
  refine h_op H65 rfl (wn rfl) (R_as H65 rfl rfl) rfl (P6 85 78 5 4 2 0 rfl rfl rfl rfl rfl rfl) fun a66 H66 => ?_
  clear H65
  refine h_end ?_
  repeat (go_not_at_region 34; go_step)
  refine wp_cond_false (H66.ev (x := .tmp 85) rfl) ?_
  repeat (go_not_at_region 34; go_step)
  repeat (go_not_at_region 34; go_step)
  refine wp_region_lit ?_
  refine h_op H66 rfl (wn rfl) (R_bin H66 rfl rfl rfl (B_to (y := false) (B8_eq _ _) (by decide))) rfl (P6 93 78 5 4 2 0 rfl rfl rfl rfl rfl rfl) fun a67 H67 => ?_
  clear H66
  refine h_op H67 rfl (wn rfl) (R_as H67 rfl rfl) rfl (P6 92 78 5 4 2 0 rfl rfl rfl rfl rfl rfl) fun a68 H68 => ?_
  clear H67
  refine h_end ?_
  repeat (go_not_at_region 37; go_step)
  refine wp_cond_false (H68.ev (x := .tmp 92) rfl) ?_
  repeat (go_not_at_region 37; go_step)
  repeat (go_not_at_region 37; go_step)
  refine wp_region_lit ?_
  refine h_op H68 rfl (wn rfl) (R_bin H68 rfl rfl rfl (B_to (y := false) (B8_eq _ _) (by decide))) rfl (P6 101 78 5 4 2 0 rfl rfl rfl rfl rfl rfl) fun a69 H69 => ?_
  clear H68
  refine h_op H69 rfl (wn rfl) (R_as H69 rfl rfl) rfl (P6 100 78 5 4 2 0 rfl rfl rfl rfl rfl rfl) fun a70 H70 => ?_
  clear H69
  refine h_end ?_
  repeat (go_not_at_region 39; go_step)
  refine wp_cond_false (H70.ev (x := .tmp 100) rfl) ?_
  repeat (go_not_at_region 39; go_step)
  repeat (go_not_at_region 39; go_step)
  refine wp_region_lit ?_
  refine h_op H70 rfl (wn rfl) (R_bin H70 rfl rfl rfl (B_to (y := false) (B8_eq _ _) (by decide))) rfl (P6 106 78 5 4 2 0 rfl rfl rfl rfl rfl rfl) fun a71 H71 => ?_
  clear H70
  refine h_op H71 rfl (wn rfl) (R_as H71 rfl rfl) rfl (P6 105 78 5 4 2 0 rfl rfl rfl rfl rfl rfl) fun a72 H72 => ?_
  clear H71
  refine h_end ?_
  repeat (go_not_at_region 41; go_step)
  refine wp_cond_false (H72.ev (x := .tmp 105) rfl) ?_
  repeat (go_not_at_region 41; go_step)
  repeat (go_not_at_region 41; go_step)
  refine wp_region_lit ?_
  refine h_op H72 rfl (wn rfl) (R_bin H72 rfl rfl rfl (B_to (y := false) (B8_eq _ _) (by decide))) rfl (P6 111 78 5 4 2 0 rfl rfl rfl rfl rfl rfl) fun a73 H73 => ?_
  clear H72
  refine h_op H73 rfl (wn rfl) (R_as H73 rfl rfl) rfl (P6 110 78 5 4 2 0 rfl rfl rfl rfl rfl rfl) fun a74 H74 => ?_
  clear H73
  refine h_end ?_
  repeat (go_not_at_region 44; go_step)
  refine wp_cond_false (H74.ev (x := .tmp 110) rfl) ?_
  repeat (go_not_at_region 44; go_step)
  subst hr
  simp only at hY
  by_cases hb : b2 ≠ 0
  · rw [if_pos hb] at hY
    repeat (go_not_at_region 44; go_step)
    refine wp_region_lit ?_
    refine h_op H74 rfl (wn rfl) (R_mv H74 rfl rfl) rfl (P5 118 5 4 2 0 rfl rfl rfl rfl rfl) fun a75 H75 => ?_
    clear H74
    refine h_op H75 rfl (wn rfl) (R_nc H75 rfl rfl) rfl (P5 119 5 4 2 0 rfl rfl rfl rfl rfl) fun a76 H76 => ?_
    clear H75
    refine h_op H76 rfl (wn rfl) (R_fa H76 rfl rfl (fr_2 _ _)) rfl (P5 120 5 4 2 0 rfl rfl rfl rfl rfl) fun a77 H77 => ?_
    clear H76
    refine h_op H77 rfl (wn rfl) (R_ld H77 rfl rfl (ld_int (hL.third.cell 2))) rfl (P5 121 5 4 2 0 rfl rfl rfl rfl rfl) fun a78 H78 => ?_
    clear H77
    refine h_op H78 rfl (wn rfl) (R_bin H78 rfl rfl rfl (B_to (y := true) (B_ne Try.underlying3 _ _) (bne_iff_ne.2 hb))) rfl (P5 122 5 4 2 0 rfl rfl rfl rfl rfl) fun a79 H79 => ?_
    clear H78
    refine h_end ?_
    repeat (go_not_at_region 45; go_step)
    refine wp_cond_true (H79.ev (x := .tmp 122) rfl) ?_
    repeat (go_not_at_region 45; go_step)
    refine wp_region_held_drew (S := fun w' => Live w0 ((w5.heap.size, mcells { PMsg.zero with kind := 4, move := (x0 : Nat), part := (x1 : Nat), «to» := (x2 : Nat) } (.slice none 0 0) (.slice none 0 0), 29) :: (W.heap.size, zcells, 29) :: (w1.heap.size, rcells s n2 b2, 85) :: L) w') (by kernel_rfl) hL.drew (fun hL' => ?_)
    replace hL := hL'
    clear hL'
    refine a_op 0 H79 rfl rfl (by kernel_rfl) (by kernel_rfl) (by kernel_rfl) (fun _ _ _ h => h) (wn rfl) (fun w hL => R_build rfl bd_row) hL rfl (P3 123 4 2 rfl rfl rfl) fun a80 H80 => ?_
    clear H79
    refine a_op 1 H80 rfl rfl (by kernel_rfl) (by kernel_rfl) (by kernel_rfl) (fun _ _ _ h => h) (wn rfl) (fun w hL => R_mv H80 rfl rfl) hL rfl (P3 124 123 2 rfl rfl rfl) fun a81 H81 => ?_
    clear H80
    refine a_op 2 H81 rfl rfl (by kernel_rfl) (by kernel_rfl) (by kernel_rfl) (fun _ _ _ h => h) (wn rfl) (fun w hL => R_nc H81 rfl rfl) hL rfl (P3 125 123 2 rfl rfl rfl) fun a82 H82 => ?_
    clear H81
    refine a_op 3 H82 rfl rfl (by kernel_rfl) (by kernel_rfl) (by kernel_rfl) (fun _ _ _ h => h) (wn rfl) (fun w hL => R_fa H82 rfl rfl (fr_2 _ _)) hL rfl (P3 126 123 2 rfl rfl rfl) fun a83 H83 => ?_
    clear H82
    refine a_op 4 H83 rfl rfl (by kernel_rfl) (by kernel_rfl) (by kernel_rfl) (fun _ _ _ h => h) (wn rfl) (fun w hL => R_ld H83 rfl rfl (ld_int (hL.third.cell 2))) hL rfl (P3 127 123 2 rfl rfl rfl) fun a84 H84 => ?_
    clear H83
    refine a_all1 5 (by kernel_rfl) ?_
    refine o_stL ((w5.heap.size, mcells { PMsg.zero with kind := 4, move := (x0 : Nat), part := (x1 : Nat), «to» := (x2 : Nat) } (.slice none 0 0) (.slice none 0 0), 29) :: (W.heap.size, zcells, 29) :: (w1.heap.size, rcells s n2 b2, 85) :: L) 5 H84 rfl rfl (wn rfl) (R_st H84 rfl rfl rfl (st_row (m2 := .zero) (m := .zero) (vo2 := .slice none 0 0) (vs2 := .slice none 0 0) (vo := .slice none 0 0) (vs := .slice none 0 0) (hL.mem_at (by simp)) (mcells_one rfl rfl))) ((hL.swap.row _).swap) fun a85 w85 H85 hL' => ⟨hL', ?_⟩
    replace hL := hL'
    clear H84 hL'
    refine a_op 6 H85 rfl rfl (by kernel_rfl) (by kernel_rfl) (by kernel_rfl) (fun _ _ _ h => h) (wn rfl) (fun w hL => R_as H85 rfl rfl) hL rfl (P2 3 2 rfl rfl) fun a86 H86 => ?_
    clear H85
    refine wpAnyH_done (by kernel_rfl) ?_ _
    repeat (go_not_at_region 999; go_step)
    refine bodyPost_ret (v := .tuple #[.agg zcells, .int .i64 b2]) (refread_results (H86.getD rfl) (H86.getD rfl) hL.swap.at_ rfl) H86.1 ?_
    rw [hY]
    exact .zero rfl hL.tail.tail.tail
  obtain rfl : b2 = 0 := Decidable.not_not.1 hb
  rw [if_neg hb] at hY
  clear hb
  repeat (go_not_at_region 44; go_step)
  refine wp_region_lit ?_
  refine h_op H74 rfl (wn rfl) (R_mv H74 rfl rfl) rfl (P5 118 5 4 2 0 rfl rfl rfl rfl rfl) fun a75 H75 => ?_
  clear H74
  refine h_op H75 rfl (wn rfl) (R_nc H75 rfl rfl) rfl (P5 119 5 4 2 0 rfl rfl rfl rfl rfl) fun a76 H76 => ?_
  clear H75
  refine h_op H76 rfl (wn rfl) (R_fa H76 rfl rfl (fr_2 _ _)) rfl (P5 120 5 4 2 0 rfl rfl rfl rfl rfl) fun a77 H77 => ?_
  clear H76
  refine h_op H77 rfl (wn rfl) (R_ld H77 rfl rfl (ld_int (hL.third.cell 2))) rfl (P5 121 5 4 2 0 rfl rfl rfl rfl rfl) fun a78 H78 => ?_
  clear H77
  refine h_op H78 rfl (wn rfl) (R_bin H78 rfl rfl rfl (B_to (y := false) (B_ne Try.underlying3 _ _) (by decide))) rfl (P5 122 5 4 2 0 rfl rfl rfl rfl rfl) fun a79 H79 => ?_
  clear H78
  refine h_end ?_
  repeat (go_not_at_region 46; go_step)
  refine wp_cond_false (H79.ev (x := .tmp 122) rfl) ?_
  by_cases hn : n2 < s.size
  · rw [if_pos hn] at hY
    repeat (go_not_at_region 46; go_step)
    repeat (go_not_at_region 46; go_step)
    refine wp_region_lit ?_
    refine h_op H79 rfl (wn rfl) (R_mv H79 rfl rfl) rfl (P5 128 5 4 2 0 rfl rfl rfl rfl rfl) fun a80 H80 => ?_
    clear H79
    refine h_op H80 rfl (wn rfl) (R_nc H80 rfl rfl) rfl (P5 129 5 4 2 0 rfl rfl rfl rfl rfl) fun a81 H81 => ?_
    clear H80
    refine h_op H81 rfl (wn rfl) (R_fa H81 rfl rfl (fr_1 _ _)) rfl (P5 130 5 4 2 0 rfl rfl rfl rfl rfl) fun a82 H82 => ?_
    clear H81
    refine h_op H82 rfl (wn rfl) (R_ld H82 rfl rfl (ld_int (hL.third.cell 1))) rfl (P5 131 5 4 2 0 rfl rfl rfl rfl rfl) fun a83 H83 => ?_
    clear H82
    refine h_op H83 rfl (wn rfl) (R_mv H83 rfl rfl) rfl (P6 132 131 5 4 2 0 rfl rfl rfl rfl rfl rfl) fun a84 H84 => ?_
    clear H83
    refine h_op H84 rfl (wn rfl) (R_len H84 rfl rfl Try.underlying9) rfl (P6 133 131 5 4 2 0 rfl rfl rfl rfl rfl rfl) fun a85 H85 => ?_
    clear H84
    refine h_op H85 rfl (wn rfl) (R_bin H85 rfl rfl rfl (B_to (y := true) (B_lt Try.underlying3 _ _) (decide_eq_true (by omega)))) rfl (P5 134 5 4 2 0 rfl rfl rfl rfl rfl) fun a86 H86 => ?_
    clear H85
    refine h_end ?_
    repeat (go_not_at_region 47; go_step)
    refine wp_cond_true (H86.ev (x := .tmp 134) rfl) ?_
    repeat (go_not_at_region 47; go_step)
    repeat (go_not_at_region 47; go_step)
    refine wp_region_lit ?_
    refine h_op H86 rfl (wn rfl) (R_build rfl bd_row) rfl (P2 135 2 rfl rfl) fun a87 H87 => ?_
    clear H86
    refine h_stL ((w5.heap.size, mcells { PMsg.zero with kind := 4, move := (x0 : Nat), part := (x1 : Nat), «to» := (x2 : Nat) } (.slice none 0 0) (.slice none 0 0), 29) :: (W.heap.size, zcells, 29) :: (w1.heap.size, rcells s n2 0, 85) :: L) H87 rfl (wn rfl) (R_st H87 rfl rfl rfl (st_row (m2 := .zero) (m := .zero) (vo2 := .slice none 0 0) (vs2 := .slice none 0 0) (vo := .slice none 0 0) (vs := .slice none 0 0) (hL.mem_at (by simp)) (mcells_one rfl rfl))) ((hL.swap.row _).swap) fun a88 w88 H88 hL' => ?_
    replace hL := hL'
    clear H87 hL'
    refine h_op H88 rfl (wn rfl) (R_as H88 rfl rfl) rfl (P2 3 2 rfl rfl) fun a89 H89 => ?_
    clear H88
    refine h_end ?_
    repeat (go_not_at_region 999; go_step)
    refine bodyPost_ret (v := .tuple #[.agg zcells, .int .i64 8]) (refread_results (H89.getD rfl) (H89.getD rfl) hL.swap.at_ rfl) H89.1 ?_
    rw [hY]
    exact .zero rfl hL.tail.tail.tail
  rw [if_neg hn] at hY
  repeat (go_not_at_region 46; go_step)
  repeat (go_not_at_region 46; go_step)
  refine wp_region_lit ?_
  refine h_op H79 rfl (wn rfl) (R_mv H79 rfl rfl) rfl (P5 128 5 4 2 0 rfl rfl rfl rfl rfl) fun a80 H80 => ?_
  clear H79
  refine h_op H80 rfl (wn rfl) (R_nc H80 rfl rfl) rfl (P5 129 5 4 2 0 rfl rfl rfl rfl rfl) fun a81 H81 => ?_
  clear H80
  refine h_op H81 rfl (wn rfl) (R_fa H81 rfl rfl (fr_1 _ _)) rfl (P5 130 5 4 2 0 rfl rfl rfl rfl rfl) fun a82 H82 => ?_
  clear H81
  refine h_op H82 rfl (wn rfl) (R_ld H82 rfl rfl (ld_int (hL.third.cell 1))) rfl (P5 131 5 4 2 0 rfl rfl rfl rfl rfl) fun a83 H83 => ?_
  clear H82
  refine h_op H83 rfl (wn rfl) (R_mv H83 rfl rfl) rfl (P6 132 131 5 4 2 0 rfl rfl rfl rfl rfl rfl) fun a84 H84 => ?_
  clear H83
  refine h_op H84 rfl (wn rfl) (R_len H84 rfl rfl Try.underlying9) rfl (P6 133 131 5 4 2 0 rfl rfl rfl rfl rfl rfl) fun a85 H85 => ?_
  clear H84
  refine h_op H85 rfl (wn rfl) (R_bin H85 rfl rfl rfl (B_to (y := false) (B_lt Try.underlying3 _ _) (decide_eq_false (by omega)))) rfl (P5 134 5 4 2 0 rfl rfl rfl rfl rfl) fun a86 H86 => ?_
  clear H85
  refine h_end ?_
  repeat (go_not_at_region 48; go_step)
  refine wp_cond_false (H86.ev (x := .tmp 134) rfl) ?_
  repeat (go_not_at_region 48; go_step)
  repeat (go_not_at_region 48; go_step)
  refine wp_region_lit ?_
  refine h_op H86 rfl (wn rfl) (R_ld H86 rfl rfl (ld_row hL.at_)) rfl (P2 136 2 rfl rfl) fun a87 H87 => ?_
  clear H86
  refine h_stL ((W.heap.size, mcells { PMsg.zero with kind := 4, move := (x0 : Nat), part := (x1 : Nat), «to» := (x2 : Nat) } (.slice none 0 0) (.slice none 0 0), 29) :: (w5.heap.size, mcells { PMsg.zero with kind := 4, move := (x0 : Nat), part := (x1 : Nat), «to» := (x2 : Nat) } (.slice none 0 0) (.slice none 0 0), 29) :: (w1.heap.size, rcells s n2 0, 85) :: L) H87 rfl (wn rfl) (R_st H87 rfl rfl rfl (st_row (m2 := .zero) (vo2 := .slice none 0 0) (vs2 := .slice none 0 0) (hL.mem_at (by simp)) (mcells_one rfl rfl))) (hL.swap.row _) fun a88 w88 H88 hL' => ?_
  replace hL := hL'
  clear H87 hL'
  refine h_op H88 rfl (wn rfl) (R_as H88 rfl rfl) rfl (P2 3 2 rfl rfl) fun a89 H89 => ?_
  clear H88
  refine h_end ?_
  repeat (go_not_at_region 999; go_step)
  refine bodyPost_ret (v := .tuple #[.agg (mcells { PMsg.zero with kind := 4, move := (x0 : Nat), part := (x1 : Nat), «to» := (x2 : Nat) } (.slice none 0 0) (.slice none 0 0)), .int .i64 0]) (refread_results (H89.getD rfl) (H89.getD rfl) hL.at_ rfl) H89.1 ?_
  rw [hY]
  exact ⟨(.slice none 0 0), (.slice none 0 0), [], [], rfl, .inl ⟨rd_nul _, rfl⟩, .inl ⟨rd_nul _, rfl⟩, hL.tail.tail.tail⟩
set_option maxRecDepth 100000 in
set_option maxHeartbeats 8000000 in
theorem rread_5 (hs : s.size < 140737488351233) (hL : Live w0 L W) (hK : byteE s 0 0 = (5, 1, 0)) : Calls Try.prog 23 #[.string s] W fun e W' => ReadQ w0 L (msgE s) e W' := by
  obtain ⟨Y, hY⟩ : ∃ Y, Y = msgE s := ⟨_, rfl⟩
  rw [← hY]
  obtain ⟨r, hr⟩ : ∃ r, r = body5 s 1 0 := ⟨_, rfl⟩
  rw [msgE_body hK (by decide) (by decide) (show bodyE s 5 1 0 = r from hr.symm)] at hY
  unfold body5 at hr
  simp only at hr
  go_enter Try.func23, Try.ntmps23
  refine wp_fr (n := 137) (m := [(0, _)]) ⟨rfl, rfl, by intro p hp; simp only [List.mem_cons, List.not_mem_nil, or_false] at hp; rcases hp with rfl <;> rfl⟩ fun a0 H0 => ?_
  repeat (go_not_at_region 0; go_step)
  refine wp_region_lit ?_
  refine h_opL ((W.heap.size, zcells, 29) :: L) H0 rfl (wn rfl) (R_alloc rfl al_row) (hL.alloc _ _) rfl (P2 2 0 rfl rfl) fun a1 w1 H1 hL' => ?_
  replace hL := hL'
  clear H0 hL'
  refine h_op H1 rfl (wn rfl) (R_as H1 rfl rfl) rfl (P2 2 0 rfl rfl) fun a2 H2 => ?_
  clear H1
  refine h_end ?_
  repeat (go_not_at_region 1; go_step)
  refine wp_region_lit ?_
  refine h_op H2 rfl (wn rfl) (R_mv H2 rfl rfl) rfl (P3 6 2 0 rfl rfl rfl) fun a3 H3 => ?_
  clear H2
  refine h_op H3 rfl (wn rfl) (R_bd1 H3 rfl rfl bd_in) rfl (P3 7 2 0 rfl rfl rfl) fun a4 H4 => ?_
  clear H3
  refine h_opL ((w1.heap.size, rcells s 0 0, 85) :: (W.heap.size, zcells, 29) :: L) H4 rfl (wn rfl) (R_box H4 rfl rfl bx_in) (hL.alloc _ _) rfl (P3 8 2 0 rfl rfl rfl) fun a5 w5 H5 hL' => ?_
  replace hL := hL'
  clear H4 hL'
  refine h_op H5 rfl (wn rfl) (R_as H5 rfl rfl) rfl (P3 4 2 0 rfl rfl rfl) fun a6 H6 => ?_
  clear H5
  refine h_end ?_
  repeat (go_not_at_region 2; go_step)
  refine wp_region_lit ?_
  refine h_opL ((w5.heap.size, zcells, 29) :: (W.heap.size, zcells, 29) :: (w1.heap.size, rcells s 0 0, 85) :: L) H6 rfl (wn rfl) (R_alloc rfl al_row) ((hL.alloc _ _).swap3) rfl (P4 5 4 2 0 rfl rfl rfl rfl) fun a7 w7 H7 hL' => ?_
  replace hL := hL'
  clear H6 hL'
  refine h_end ?_
  repeat (go_not_at_region 3; go_step)
  have hM := inByte_any hs (Nat.zero_le _) hL.third
  rw [hK] at hM
  simp only at hM
  refine wp_region_lit ?_
  refine h_op H7 rfl (wn rfl) (R_mv H7 rfl rfl) rfl (P5 9 5 4 2 0 rfl rfl rfl rfl rfl) fun a8 H8 => ?_
  clear H7
  refine h_call H8 rfl (wn rfl) (R_call1 H8 rfl rfl (fun w => by simp [go_sem])) rfl ?_
  refine hM.mono ?_
  rintro e w9 ⟨rfl, hL2⟩
  replace hL := hL2.back3
  clear hL2 hM
  refine ⟨_, rfl, fun a9 HH => ?_⟩
  have H9 := HH _ (P5 10 5 4 2 0 rfl rfl rfl rfl rfl)
  clear HH H8
  refine h_op H9 rfl (wn rfl) (R_fa H9 rfl rfl (fa29_0 _ _)) rfl (P6 11 10 5 4 2 0 rfl rfl rfl rfl rfl rfl) fun a10 H10 => ?_
  clear H9
  refine h_stL ((w5.heap.size, mcells { PMsg.zero with kind := 5 } (.slice none 0 0) (.slice none 0 0), 29) :: (W.heap.size, zcells, 29) :: (w1.heap.size, rcells s 1 0, 85) :: L) H10 rfl (wn rfl) (R_st H10 rfl rfl rfl (st_u8c hL rfl)) (hL.put 0 _) fun a11 w11 H11 hL' => ?_
  replace hL := hL'
  clear H10 hL'
  refine h_end ?_
  repeat (go_not_at_region 4; go_step)
  refine wp_region_lit ?_
  refine h_op H11 rfl (wn rfl) (R_mv H11 rfl rfl) rfl (P5 12 5 4 2 0 rfl rfl rfl rfl rfl) fun a12 H12 => ?_
  clear H11
  refine h_op H12 rfl (wn rfl) (R_nc H12 rfl rfl) rfl (P5 13 5 4 2 0 rfl rfl rfl rfl rfl) fun a13 H13 => ?_
  clear H12
  refine h_op H13 rfl (wn rfl) (R_fa H13 rfl rfl (fr_2 _ _)) rfl (P5 14 5 4 2 0 rfl rfl rfl rfl rfl) fun a14 H14 => ?_
  clear H13
  refine h_op H14 rfl (wn rfl) (R_ld H14 rfl rfl (ld_int (hL.third.cell 2))) rfl (P5 15 5 4 2 0 rfl rfl rfl rfl rfl) fun a15 H15 => ?_
  clear H14
  refine h_op H15 rfl (wn rfl) (R_bin H15 rfl rfl rfl (B_to (y := false) (B_ne Try.underlying3 _ _) (by decide))) rfl (P5 16 5 4 2 0 rfl rfl rfl rfl rfl) fun a16 H16 => ?_
  clear H15
  refine h_end ?_
  repeat (go_not_at_region 6; go_step)
  refine wp_cond_false (H16.ev (x := .tmp 16) rfl) ?_
  repeat (go_not_at_region 6; go_step)
  refine wp_region_lit ?_
  refine h_op H16 rfl (wn rfl) (R_fa H16 rfl rfl (fa29_0 _ _)) rfl (P5 22 5 4 2 0 rfl rfl rfl rfl rfl) fun a17 H17 => ?_
  clear H16
  refine h_op H17 rfl (wn rfl) (R_ld H17 rfl rfl (ld_u8k (c := 5) (hL.cell 0) rfl)) rfl (P5 23 5 4 2 0 rfl rfl rfl rfl rfl) fun a18 H18 => ?_
  clear H17
  refine h_op H18 rfl (wn rfl) (R_bin H18 rfl rfl rfl (B_to (y := false) (B8_lt _ _) (by decide))) rfl (P5 24 5 4 2 0 rfl rfl rfl rfl rfl) fun a19 H19 => ?_
  clear H18
  refine h_op H19 rfl (wn rfl) (R_mv H19 rfl rfl) rfl (P5 25 5 4 2 0 rfl rfl rfl rfl rfl) fun a20 H20 => ?_
  clear H19
  refine h_op H20 rfl (H20.wt rfl rfl rfl) (R_fa H20 rfl rfl (fa29_0 _ _)) rfl (P6 26 25 5 4 2 0 rfl rfl rfl rfl rfl rfl) fun a21 H21 => ?_
  clear H20
  refine h_op H21 rfl (H21.wt rfl rfl rfl) (R_ld H21 rfl rfl (ld_u8k (c := 5) (hL.cell 0) rfl)) rfl (P6 27 25 5 4 2 0 rfl rfl rfl rfl rfl rfl) fun a22 H22 => ?_
  clear H21
  refine h_op H22 rfl (H22.wt rfl rfl rfl) (R_bin H22 rfl rfl rfl (B_to (y := false) (B8_gt _ _) (by decide))) rfl (P6 28 25 5 4 2 0 rfl rfl rfl rfl rfl rfl) fun a23 H23 => ?_
  clear H22
  refine h_op H23 rfl (wn rfl) (R_pick H23 rfl rfl rfl) rfl (P5 29 5 4 2 0 rfl rfl rfl rfl rfl) fun a24 H24 => ?_
  clear H23
  refine h_end ?_
  repeat (go_not_at_region 8; go_step)
  refine wp_cond_false (H24.ev (x := .tmp 29) rfl) ?_
  repeat (go_not_at_region 8; go_step)
  refine wp_region_lit ?_
  refine h_op H24 rfl (wn rfl) (R_fa H24 rfl rfl (fa29_0 _ _)) rfl (P5 31 5 4 2 0 rfl rfl rfl rfl rfl) fun a25 H25 => ?_
  clear H24
  refine h_op H25 rfl (wn rfl) (R_ld H25 rfl rfl (ld_u8k (c := 5) (hL.cell 0) rfl)) rfl (P5 32 5 4 2 0 rfl rfl rfl rfl rfl) fun a26 H26 => ?_
  clear H25
  refine h_op H26 rfl (wn rfl) (R_bin H26 rfl rfl rfl (B_to (y := true) (B8_ge _ _) (by decide))) rfl (P5 33 5 4 2 0 rfl rfl rfl rfl rfl) fun a27 H27 => ?_
  clear H26
  refine h_op H27 rfl (wn rfl) (R_mv H27 rfl rfl) rfl (P5 34 5 4 2 0 rfl rfl rfl rfl rfl) fun a28 H28 => ?_
  clear H27
  refine h_op H28 rfl (H28.wt rfl rfl rfl) (R_fa H28 rfl rfl (fa29_0 _ _)) rfl (P6 35 34 5 4 2 0 rfl rfl rfl rfl rfl rfl) fun a29 H29 => ?_
  clear H28
  refine h_op H29 rfl (H29.wt rfl rfl rfl) (R_ld H29 rfl rfl (ld_u8k (c := 5) (hL.cell 0) rfl)) rfl (P6 36 34 5 4 2 0 rfl rfl rfl rfl rfl rfl) fun a30 H30 => ?_
  clear H29
  refine h_op H30 rfl (H30.wt rfl rfl rfl) (R_bin H30 rfl rfl rfl (B_to (y := true) (B8_le _ _) (by decide))) rfl (P6 37 34 5 4 2 0 rfl rfl rfl rfl rfl rfl) fun a31 H31 => ?_
  clear H30
  refine h_op H31 rfl (wn rfl) (R_pick H31 rfl rfl rfl) rfl (P5 38 5 4 2 0 rfl rfl rfl rfl rfl) fun a32 H32 => ?_
  clear H31
  refine h_end ?_
  repeat (go_not_at_region 9; go_step)
  refine wp_cond_true (H32.ev (x := .tmp 38) rfl) ?_
  repeat (go_not_at_region 9; go_step)
  have hM := inMost_any (m := 2147483647) (by decide) hs (show 1 ≤ s.size by have h := byteE_le (b := 0) (Nat.zero_le s.size); rw [hK] at h; exact h) hL.third
  have hle0 := mostE_le (m := 2147483647) (b := 0) (show 1 ≤ s.size by have h := byteE_le (b := 0) (Nat.zero_le s.size); rw [hK] at h; exact h)
  generalize mostE s 1 0 2147483647 = q0 at hM hle0 hr
  obtain ⟨x0, n0, b0⟩ := q0
  simp only at hM hle0 hr
  refine wp_region_lit ?_
  refine h_op H32 rfl (wn rfl) (R_mv H32 rfl rfl) rfl (P5 39 5 4 2 0 rfl rfl rfl rfl rfl) fun a33 H33 => ?_
  clear H32
  refine h_call H33 rfl (wn rfl) (R_call2 H33 rfl rfl rfl (fun w => by simp [go_sem])) rfl ?_
  refine hM.mono ?_
  rintro e w34 ⟨rfl, hL2⟩
  replace hL := hL2.back3
  clear hL2 hM
  refine ⟨_, rfl, fun a34 HH => ?_⟩
  have H34 := HH _ (P5 40 5 4 2 0 rfl rfl rfl rfl rfl)
  clear HH H33
  refine h_op H34 rfl (wn rfl) (R_fa H34 rfl rfl (fa29_1 _ _)) rfl (P6 41 40 5 4 2 0 rfl rfl rfl rfl rfl rfl) fun a35 H35 => ?_
  clear H34
  refine h_stL ((w5.heap.size, mcells { PMsg.zero with kind := 5, move := (x0 : Nat) } (.slice none 0 0) (.slice none 0 0), 29) :: (W.heap.size, zcells, 29) :: (w1.heap.size, rcells s n0 b0, 85) :: L) H35 rfl (wn rfl) (R_st H35 rfl rfl rfl (st_int hL rfl)) (hL.put 1 _) fun a36 w36 H36 hL' => ?_
  replace hL := hL'
  clear H35 hL'
  refine h_end ?_
  repeat (go_not_at_region 10; go_step)
  have hM := inMost_any (m := 2147483647) (by decide) hs hle0 hL.third
  have hle1 := mostE_le (m := 2147483647) (b := b0) hle0
  generalize mostE s n0 b0 2147483647 = q1 at hM hle1 hr
  obtain ⟨x1, n1, b1⟩ := q1
  simp only at hM hle1 hr
  refine wp_region_lit ?_
  refine h_op H36 rfl (wn rfl) (R_mv H36 rfl rfl) rfl (P5 42 5 4 2 0 rfl rfl rfl rfl rfl) fun a37 H37 => ?_
  clear H36
  refine h_call H37 rfl (wn rfl) (R_call2 H37 rfl rfl rfl (fun w => by simp [go_sem])) rfl ?_
  refine hM.mono ?_
  rintro e w38 ⟨rfl, hL2⟩
  replace hL := hL2.back3
  clear hL2 hM
  refine ⟨_, rfl, fun a38 HH => ?_⟩
  have H38 := HH _ (P5 43 5 4 2 0 rfl rfl rfl rfl rfl)
  clear HH H37
  refine h_op H38 rfl (wn rfl) (R_fa H38 rfl rfl (fa29_2 _ _)) rfl (P6 44 43 5 4 2 0 rfl rfl rfl rfl rfl rfl) fun a39 H39 => ?_
  clear H38
  refine h_stL ((w5.heap.size, mcells { PMsg.zero with kind := 5, move := (x0 : Nat), part := (x1 : Nat) } (.slice none 0 0) (.slice none 0 0), 29) :: (W.heap.size, zcells, 29) :: (w1.heap.size, rcells s n1 b1, 85) :: L) H39 rfl (wn rfl) (R_st H39 rfl rfl rfl (st_int hL rfl)) (hL.put 2 _) fun a40 w40 H40 hL' => ?_
  replace hL := hL'
  clear H39 hL'
  refine h_end ?_
  repeat (go_not_at_region 11; go_step)
  refine wp_region_lit ?_
  refine h_op H40 rfl (wn rfl) (R_fa H40 rfl rfl (fa29_0 _ _)) rfl (P5 45 5 4 2 0 rfl rfl rfl rfl rfl) fun a41 H41 => ?_
  clear H40
  refine h_op H41 rfl (wn rfl) (R_ld H41 rfl rfl (ld_u8k (c := 5) (hL.cell 0) rfl)) rfl (P5 46 5 4 2 0 rfl rfl rfl rfl rfl) fun a42 H42 => ?_
  clear H41
  refine h_end ?_
  repeat (go_not_at_region 12; go_step)
  refine wp_region_lit ?_
  refine h_op H42 rfl (wn rfl) (R_bin H42 rfl rfl rfl (B_to (y := false) (B8_eq _ _) (by decide))) rfl (P6 48 46 5 4 2 0 rfl rfl rfl rfl rfl rfl) fun a43 H43 => ?_
  clear H42
  refine h_op H43 rfl (wn rfl) (R_as H43 rfl rfl) rfl (P6 47 46 5 4 2 0 rfl rfl rfl rfl rfl rfl) fun a44 H44 => ?_
  clear H43
  refine h_end ?_
  repeat (go_not_at_region 14; go_step)
  refine wp_cond_false (H44.ev (x := .tmp 47) rfl) ?_
  repeat (go_not_at_region 14; go_step)
  repeat (go_not_at_region 14; go_step)
  refine wp_region_lit ?_
  refine h_op H44 rfl (wn rfl) (R_bin H44 rfl rfl rfl (B_to (y := false) (B8_eq _ _) (by decide))) rfl (P6 53 46 5 4 2 0 rfl rfl rfl rfl rfl rfl) fun a45 H45 => ?_
  clear H44
  refine h_op H45 rfl (wn rfl) (R_as H45 rfl rfl) rfl (P6 52 46 5 4 2 0 rfl rfl rfl rfl rfl rfl) fun a46 H46 => ?_
  clear H45
  refine h_end ?_
  repeat (go_not_at_region 15; go_step)
  refine wp_cond_false (H46.ev (x := .tmp 52) rfl) ?_
  repeat (go_not_at_region 15; go_step)
  repeat (go_not_at_region 15; go_step)
  refine wp_region_lit ?_
  refine h_op H46 rfl (wn rfl) (R_bin H46 rfl rfl rfl (B_to (y := false) (B8_eq _ _) (by decide))) rfl (P7 54 52 46 5 4 2 0 rfl rfl rfl rfl rfl rfl rfl) fun a47 H47 => ?_
  clear H46
  refine h_op H47 rfl (wn rfl) (R_as H47 rfl rfl) rfl (P6 52 46 5 4 2 0 rfl rfl rfl rfl rfl rfl) fun a48 H48 => ?_
  clear H47
  refine h_end ?_
  repeat (go_not_at_region 18; go_step)
  refine wp_cond_false (H48.ev (x := .tmp 52) rfl) ?_
  repeat (go_not_at_region 18; go_step)
  repeat (go_not_at_region 18; go_step)
  refine wp_region_lit ?_
  refine h_op H48 rfl (wn rfl) (R_bin H48 rfl rfl rfl (B_to (y := false) (B8_eq _ _) (by decide))) rfl (P6 64 46 5 4 2 0 rfl rfl rfl rfl rfl rfl) fun a49 H49 => ?_
  clear H48
  refine h_op H49 rfl (wn rfl) (R_as H49 rfl rfl) rfl (P6 63 46 5 4 2 0 rfl rfl rfl rfl rfl rfl) fun a50 H50 => ?_
  clear H49
  refine h_end ?_
  repeat (go_not_at_region 20; go_step)
  refine wp_cond_false (H50.ev (x := .tmp 63) rfl) ?_
  repeat (go_not_at_region 20; go_step)
  repeat (go_not_at_region 20; go_step)
  refine wp_region_lit ?_
  refine h_op H50 rfl (wn rfl) (R_bin H50 rfl rfl rfl (B_to (y := true) (B8_eq _ _) (by decide))) rfl (P6 69 46 5 4 2 0 rfl rfl rfl rfl rfl rfl) fun a51 H51 => ?_
  clear H50
  refine h_op H51 rfl (wn rfl) (R_as H51 rfl rfl) rfl (P6 68 46 5 4 2 0 rfl rfl rfl rfl rfl rfl) fun a52 H52 => ?_
  clear H51
  refine h_end ?_
  repeat (go_not_at_region 25; go_step)
  repeat (refine wp_cond_true (H52.ev (x := .tmp 68) rfl) ?_; repeat (go_not_at_region 25; go_step))
  repeat (go_not_at_region 25; go_step)
  have hM := inMost_any (m := 2147483647) (by decide) hs hle1 hL.third
  have hle2 := mostE_le (m := 2147483647) (b := b1) hle1
  generalize mostE s n1 b1 2147483647 = q2 at hM hle2 hr
  obtain ⟨x2, n2, b2⟩ := q2
  simp only at hM hle2 hr
  refine wp_region_lit ?_
  refine h_op H52 rfl (wn rfl) (R_mv H52 rfl rfl) rfl (P6 74 46 5 4 2 0 rfl rfl rfl rfl rfl rfl) fun a53 H53 => ?_
  clear H52
  refine h_call H53 rfl (wn rfl) (R_call2 H53 rfl rfl rfl (fun w => by simp [go_sem])) rfl ?_
  refine hM.mono ?_
  rintro e w54 ⟨rfl, hL2⟩
  replace hL := hL2.back3
  clear hL2 hM
  refine ⟨_, rfl, fun a54 HH => ?_⟩
  have H54 := HH _ (P6 75 46 5 4 2 0 rfl rfl rfl rfl rfl rfl)
  clear HH H53
  refine h_op H54 rfl (wn rfl) (R_fa H54 rfl rfl (fa29_4 _ _)) rfl (P7 76 75 46 5 4 2 0 rfl rfl rfl rfl rfl rfl rfl) fun a55 H55 => ?_
  clear H54
  refine h_stL ((w5.heap.size, mcells { PMsg.zero with kind := 5, move := (x0 : Nat), part := (x1 : Nat), n := (x2 : Nat) } (.slice none 0 0) (.slice none 0 0), 29) :: (W.heap.size, zcells, 29) :: (w1.heap.size, rcells s n2 b2, 85) :: L) H55 rfl (wn rfl) (R_st H55 rfl rfl rfl (st_int hL rfl)) (hL.put 4 _) fun a56 w56 H56 hL' => ?_
  replace hL := hL'
  clear H55 hL'
  refine h_end ?_
  repeat (go_not_at_region 26; go_step)
  refine wp_region_lit ?_
  refine h_op H56 rfl (wn rfl) (R_fa H56 rfl rfl (fa29_0 _ _)) rfl (P5 77 5 4 2 0 rfl rfl rfl rfl rfl) fun a57 H57 => ?_
  clear H56
  refine h_op H57 rfl (wn rfl) (R_ld H57 rfl rfl (ld_u8k (c := 5) (hL.cell 0) rfl)) rfl (P5 78 5 4 2 0 rfl rfl rfl rfl rfl) fun a58 H58 => ?_
  clear H57
  refine h_end ?_
  repeat (go_not_at_region 27; go_step)
  refine wp_region_lit ?_
  refine h_op H58 rfl (wn rfl) (R_bin H58 rfl rfl rfl (B_to (y := false) (B8_eq _ _) (by decide))) rfl (P6 80 78 5 4 2 0 rfl rfl rfl rfl rfl rfl) fun a59 H59 => ?_
  clear H58
  refine h_op H59 rfl (wn rfl) (R_as H59 rfl rfl) rfl (P6 79 78 5 4 2 0 rfl rfl rfl rfl rfl rfl) fun a60 H60 => ?_
  clear H59
  refine h_end ?_
  repeat (go_not_at_region 28; go_step)
  refine wp_cond_false (H60.ev (x := .tmp 79) rfl) ?_
  repeat (go_not_at_region 28; go_step)
  repeat (go_not_at_region 28; go_step)
  refine wp_region_lit ?_
  refine h_op H60 rfl (wn rfl) (R_bin H60 rfl rfl rfl (B_to (y := false) (B8_eq _ _) (by decide))) rfl (P7 81 79 78 5 4 2 0 rfl rfl rfl rfl rfl rfl rfl) fun a61 H61 => ?_
  clear H60
  refine h_op H61 rfl (wn rfl) (R_as H61 rfl rfl) rfl (P6 79 78 5 4 2 0 rfl rfl rfl rfl rfl rfl) fun a62 H62 => ?_
  clear H61
  refine h_end ?_
  repeat (go_not_at_region 30; go_step)
  refine wp_cond_false (H62.ev (x := .tmp 79) rfl) ?_
  repeat (go_not_at_region 30; go_step)
  repeat (go_not_at_region 30; go_step)
  refine wp_region_lit ?_
  refine h_op H62 rfl (wn rfl) (R_bin H62 rfl rfl rfl (B_to (y := false) (B8_eq _ _) (by decide))) rfl (P6 86 78 5 4 2 0 rfl rfl rfl rfl rfl rfl) fun a63 H63 => ?_
  clear H62
  refine h_op H63 rfl (wn rfl) (R_as H63 rfl rfl) rfl (P6 85 78 5 4 2 0 rfl rfl rfl rfl rfl rfl) fun a64 H64 => ?_
  clear H63
  refine h_end ?_
  repeat (go_not_at_region 31; go_step)
  refine wp_cond_false (H64.ev (x := .tmp 85) rfl) ?_
  repeat (go_not_at_region 31; go_step)
  repeat (go_not_at_region 31; go_step)
  refine wp_region_lit ?_
  refine h_op H64 rfl (wn rfl) (R_bin H64 rfl rfl rfl (B_to (y := false) (B8_eq _ _) (by decide))) rfl (P7 87 85 78 5 4 2 0 rfl rfl rfl rfl rfl rfl rfl) fun a65 H65 => ?_
  clear H64
  refine h_op H65 rfl (wn rfl) (R_as H65 rfl rfl) rfl (P6 85 78 5 4 2 0 rfl rfl rfl rfl rfl rfl) fun a66 H66 => ?_
  clear H65
  refine h_end ?_
  repeat (go_not_at_region 32; go_step)
  refine wp_cond_false (H66.ev (x := .tmp 85) rfl) ?_
  repeat (go_not_at_region 32; go_step)
  repeat (go_not_at_region 32; go_step)
  refine wp_region_lit ?_
  refine h_op H66 rfl (wn rfl) (R_bin H66 rfl rfl rfl (B_to (y := false) (B8_eq _ _) (by decide))) rfl (P7 88 85 78 5 4 2 0 rfl rfl rfl rfl rfl rfl rfl) fun a67 H67 => ?_
  clear H66
  refine h_op H67 rfl (wn rfl) (R_as H67 rfl rfl) rfl (P6 85 78 5 4 2 0 rfl rfl rfl rfl rfl rfl) fun a68 H68 => ?_
  clear H67
  refine h_end ?_
  repeat (go_not_at_region 34; go_step)
  refine wp_cond_false (H68.ev (x := .tmp 85) rfl) ?_
  repeat (go_not_at_region 34; go_step)
  repeat (go_not_at_region 34; go_step)
  refine wp_region_lit ?_
  refine h_op H68 rfl (wn rfl) (R_bin H68 rfl rfl rfl (B_to (y := true) (B8_eq _ _) (by decide))) rfl (P6 93 78 5 4 2 0 rfl rfl rfl rfl rfl rfl) fun a69 H69 => ?_
  clear H68
  refine h_op H69 rfl (wn rfl) (R_as H69 rfl rfl) rfl (P6 92 78 5 4 2 0 rfl rfl rfl rfl rfl rfl) fun a70 H70 => ?_
  clear H69
  refine h_end ?_
  repeat (go_not_at_region 35; go_step)
  repeat (refine wp_cond_true (H70.ev (x := .tmp 92) rfl) ?_; repeat (go_not_at_region 35; go_step))
  repeat (go_not_at_region 35; go_step)
  have hM := inMost_any (m := 2147483647) (by decide) hs hle2 hL.third
  have hle3 := mostE_le (m := 2147483647) (b := b2) hle2
  generalize mostE s n2 b2 2147483647 = q3 at hM hle3 hr
  obtain ⟨x3, n3, b3⟩ := q3
  simp only at hM hle3 hr
  refine wp_region_lit ?_
  refine h_op H70 rfl (wn rfl) (R_mv H70 rfl rfl) rfl (P6 94 78 5 4 2 0 rfl rfl rfl rfl rfl rfl) fun a71 H71 => ?_
  clear H70
  refine h_call H71 rfl (wn rfl) (R_call2 H71 rfl rfl rfl (fun w => by simp [go_sem])) rfl ?_
  refine hM.mono ?_
  rintro e w72 ⟨rfl, hL2⟩
  replace hL := hL2.back3
  clear hL2 hM
  refine ⟨_, rfl, fun a72 HH => ?_⟩
  have H72 := HH _ (P6 95 78 5 4 2 0 rfl rfl rfl rfl rfl rfl)
  clear HH H71
  refine h_op H72 rfl (wn rfl) (R_fa H72 rfl rfl (fa29_5 _ _)) rfl (P7 96 95 78 5 4 2 0 rfl rfl rfl rfl rfl rfl rfl) fun a73 H73 => ?_
  clear H72
  refine h_stL ((w5.heap.size, mcells { PMsg.zero with kind := 5, move := (x0 : Nat), part := (x1 : Nat), n := (x2 : Nat), count := (x3 : Nat) } (.slice none 0 0) (.slice none 0 0), 29) :: (W.heap.size, zcells, 29) :: (w1.heap.size, rcells s n3 b3, 85) :: L) H73 rfl (wn rfl) (R_st H73 rfl rfl rfl (st_int hL rfl)) (hL.put 5 _) fun a74 w74 H74 hL' => ?_
  replace hL := hL'
  clear H73 hL'
  refine h_end ?_
  repeat (go_not_at_region 36; go_step)
  have hM := inText_any (m := 1024) (by decide) hs hle3 hL.third
  have hle4 := textE_le (m := 1024) (b := b3) hle3
  generalize textE s n3 b3 1024 = q4 at hM hle4 hr
  obtain ⟨x4, n4, b4⟩ := q4
  simp only at hM hle4 hr
  refine wp_region_lit ?_
  refine h_op H74 rfl (wn rfl) (R_mv H74 rfl rfl) rfl (P6 97 78 5 4 2 0 rfl rfl rfl rfl rfl rfl) fun a75 H75 => ?_
  clear H74
  refine h_call H75 rfl (wn rfl) (R_call2 H75 rfl rfl rfl (fun w => by simp [go_sem])) rfl ?_
  refine hM.mono ?_
  rintro e w76 ⟨rfl, hL2⟩
  replace hL := hL2.back3
  clear hL2 hM
  refine ⟨_, rfl, fun a76 HH => ?_⟩
  have H76 := HH _ (P6 98 78 5 4 2 0 rfl rfl rfl rfl rfl rfl)
  clear HH H75
  refine h_op H76 rfl (wn rfl) (R_fa H76 rfl rfl (fa29_12 _ _)) rfl (P7 99 98 78 5 4 2 0 rfl rfl rfl rfl rfl rfl rfl) fun a77 H77 => ?_
  clear H76
  refine h_stL ((w5.heap.size, mcells { PMsg.zero with kind := 5, move := (x0 : Nat), part := (x1 : Nat), n := (x2 : Nat), count := (x3 : Nat), data := x4 } (.slice none 0 0) (.slice none 0 0), 29) :: (W.heap.size, zcells, 29) :: (w1.heap.size, rcells s n4 b4, 85) :: L) H77 rfl (wn rfl) (R_st H77 rfl rfl rfl (st_strc hL rfl)) (hL.put 21 _) fun a78 w78 H78 hL' => ?_
  replace hL := hL'
  clear H77 hL'
  refine h_end ?_
  subst hr
  simp only at hY
  by_cases hb : b4 ≠ 0
  · rw [if_pos hb] at hY
    repeat (go_not_at_region 44; go_step)
    refine wp_region_lit ?_
    refine h_op H78 rfl (wn rfl) (R_mv H78 rfl rfl) rfl (P5 118 5 4 2 0 rfl rfl rfl rfl rfl) fun a79 H79 => ?_
    clear H78
    refine h_op H79 rfl (wn rfl) (R_nc H79 rfl rfl) rfl (P5 119 5 4 2 0 rfl rfl rfl rfl rfl) fun a80 H80 => ?_
    clear H79
    refine h_op H80 rfl (wn rfl) (R_fa H80 rfl rfl (fr_2 _ _)) rfl (P5 120 5 4 2 0 rfl rfl rfl rfl rfl) fun a81 H81 => ?_
    clear H80
    refine h_op H81 rfl (wn rfl) (R_ld H81 rfl rfl (ld_int (hL.third.cell 2))) rfl (P5 121 5 4 2 0 rfl rfl rfl rfl rfl) fun a82 H82 => ?_
    clear H81
    refine h_op H82 rfl (wn rfl) (R_bin H82 rfl rfl rfl (B_to (y := true) (B_ne Try.underlying3 _ _) (bne_iff_ne.2 hb))) rfl (P5 122 5 4 2 0 rfl rfl rfl rfl rfl) fun a83 H83 => ?_
    clear H82
    refine h_end ?_
    repeat (go_not_at_region 45; go_step)
    refine wp_cond_true (H83.ev (x := .tmp 122) rfl) ?_
    repeat (go_not_at_region 45; go_step)
    refine wp_region_held_drew (S := fun w' => Live w0 ((w5.heap.size, mcells { PMsg.zero with kind := 5, move := (x0 : Nat), part := (x1 : Nat), n := (x2 : Nat), count := (x3 : Nat), data := x4 } (.slice none 0 0) (.slice none 0 0), 29) :: (W.heap.size, zcells, 29) :: (w1.heap.size, rcells s n4 b4, 85) :: L) w') (by kernel_rfl) hL.drew (fun hL' => ?_)
    replace hL := hL'
    clear hL'
    refine a_op 0 H83 rfl rfl (by kernel_rfl) (by kernel_rfl) (by kernel_rfl) (fun _ _ _ h => h) (wn rfl) (fun w hL => R_build rfl bd_row) hL rfl (P3 123 4 2 rfl rfl rfl) fun a84 H84 => ?_
    clear H83
    refine a_op 1 H84 rfl rfl (by kernel_rfl) (by kernel_rfl) (by kernel_rfl) (fun _ _ _ h => h) (wn rfl) (fun w hL => R_mv H84 rfl rfl) hL rfl (P3 124 123 2 rfl rfl rfl) fun a85 H85 => ?_
    clear H84
    refine a_op 2 H85 rfl rfl (by kernel_rfl) (by kernel_rfl) (by kernel_rfl) (fun _ _ _ h => h) (wn rfl) (fun w hL => R_nc H85 rfl rfl) hL rfl (P3 125 123 2 rfl rfl rfl) fun a86 H86 => ?_
    clear H85
    refine a_op 3 H86 rfl rfl (by kernel_rfl) (by kernel_rfl) (by kernel_rfl) (fun _ _ _ h => h) (wn rfl) (fun w hL => R_fa H86 rfl rfl (fr_2 _ _)) hL rfl (P3 126 123 2 rfl rfl rfl) fun a87 H87 => ?_
    clear H86
    refine a_op 4 H87 rfl rfl (by kernel_rfl) (by kernel_rfl) (by kernel_rfl) (fun _ _ _ h => h) (wn rfl) (fun w hL => R_ld H87 rfl rfl (ld_int (hL.third.cell 2))) hL rfl (P3 127 123 2 rfl rfl rfl) fun a88 H88 => ?_
    clear H87
    refine a_all1 5 (by kernel_rfl) ?_
    refine o_stL ((w5.heap.size, mcells { PMsg.zero with kind := 5, move := (x0 : Nat), part := (x1 : Nat), n := (x2 : Nat), count := (x3 : Nat), data := x4 } (.slice none 0 0) (.slice none 0 0), 29) :: (W.heap.size, zcells, 29) :: (w1.heap.size, rcells s n4 b4, 85) :: L) 5 H88 rfl rfl (wn rfl) (R_st H88 rfl rfl rfl (st_row (m2 := .zero) (m := .zero) (vo2 := .slice none 0 0) (vs2 := .slice none 0 0) (vo := .slice none 0 0) (vs := .slice none 0 0) (hL.mem_at (by simp)) (mcells_one rfl rfl))) ((hL.swap.row _).swap) fun a89 w89 H89 hL' => ⟨hL', ?_⟩
    replace hL := hL'
    clear H88 hL'
    refine a_op 6 H89 rfl rfl (by kernel_rfl) (by kernel_rfl) (by kernel_rfl) (fun _ _ _ h => h) (wn rfl) (fun w hL => R_as H89 rfl rfl) hL rfl (P2 3 2 rfl rfl) fun a90 H90 => ?_
    clear H89
    refine wpAnyH_done (by kernel_rfl) ?_ _
    repeat (go_not_at_region 999; go_step)
    refine bodyPost_ret (v := .tuple #[.agg zcells, .int .i64 b4]) (refread_results (H90.getD rfl) (H90.getD rfl) hL.swap.at_ rfl) H90.1 ?_
    rw [hY]
    exact .zero rfl hL.tail.tail.tail
  obtain rfl : b4 = 0 := Decidable.not_not.1 hb
  rw [if_neg hb] at hY
  clear hb
  repeat (go_not_at_region 44; go_step)
  refine wp_region_lit ?_
  refine h_op H78 rfl (wn rfl) (R_mv H78 rfl rfl) rfl (P5 118 5 4 2 0 rfl rfl rfl rfl rfl) fun a79 H79 => ?_
  clear H78
  refine h_op H79 rfl (wn rfl) (R_nc H79 rfl rfl) rfl (P5 119 5 4 2 0 rfl rfl rfl rfl rfl) fun a80 H80 => ?_
  clear H79
  refine h_op H80 rfl (wn rfl) (R_fa H80 rfl rfl (fr_2 _ _)) rfl (P5 120 5 4 2 0 rfl rfl rfl rfl rfl) fun a81 H81 => ?_
  clear H80
  refine h_op H81 rfl (wn rfl) (R_ld H81 rfl rfl (ld_int (hL.third.cell 2))) rfl (P5 121 5 4 2 0 rfl rfl rfl rfl rfl) fun a82 H82 => ?_
  clear H81
  refine h_op H82 rfl (wn rfl) (R_bin H82 rfl rfl rfl (B_to (y := false) (B_ne Try.underlying3 _ _) (by decide))) rfl (P5 122 5 4 2 0 rfl rfl rfl rfl rfl) fun a83 H83 => ?_
  clear H82
  refine h_end ?_
  repeat (go_not_at_region 46; go_step)
  refine wp_cond_false (H83.ev (x := .tmp 122) rfl) ?_
  by_cases hn : n4 < s.size
  · rw [if_pos hn] at hY
    repeat (go_not_at_region 46; go_step)
    repeat (go_not_at_region 46; go_step)
    refine wp_region_lit ?_
    refine h_op H83 rfl (wn rfl) (R_mv H83 rfl rfl) rfl (P5 128 5 4 2 0 rfl rfl rfl rfl rfl) fun a84 H84 => ?_
    clear H83
    refine h_op H84 rfl (wn rfl) (R_nc H84 rfl rfl) rfl (P5 129 5 4 2 0 rfl rfl rfl rfl rfl) fun a85 H85 => ?_
    clear H84
    refine h_op H85 rfl (wn rfl) (R_fa H85 rfl rfl (fr_1 _ _)) rfl (P5 130 5 4 2 0 rfl rfl rfl rfl rfl) fun a86 H86 => ?_
    clear H85
    refine h_op H86 rfl (wn rfl) (R_ld H86 rfl rfl (ld_int (hL.third.cell 1))) rfl (P5 131 5 4 2 0 rfl rfl rfl rfl rfl) fun a87 H87 => ?_
    clear H86
    refine h_op H87 rfl (wn rfl) (R_mv H87 rfl rfl) rfl (P6 132 131 5 4 2 0 rfl rfl rfl rfl rfl rfl) fun a88 H88 => ?_
    clear H87
    refine h_op H88 rfl (wn rfl) (R_len H88 rfl rfl Try.underlying9) rfl (P6 133 131 5 4 2 0 rfl rfl rfl rfl rfl rfl) fun a89 H89 => ?_
    clear H88
    refine h_op H89 rfl (wn rfl) (R_bin H89 rfl rfl rfl (B_to (y := true) (B_lt Try.underlying3 _ _) (decide_eq_true (by omega)))) rfl (P5 134 5 4 2 0 rfl rfl rfl rfl rfl) fun a90 H90 => ?_
    clear H89
    refine h_end ?_
    repeat (go_not_at_region 47; go_step)
    refine wp_cond_true (H90.ev (x := .tmp 134) rfl) ?_
    repeat (go_not_at_region 47; go_step)
    repeat (go_not_at_region 47; go_step)
    refine wp_region_lit ?_
    refine h_op H90 rfl (wn rfl) (R_build rfl bd_row) rfl (P2 135 2 rfl rfl) fun a91 H91 => ?_
    clear H90
    refine h_stL ((w5.heap.size, mcells { PMsg.zero with kind := 5, move := (x0 : Nat), part := (x1 : Nat), n := (x2 : Nat), count := (x3 : Nat), data := x4 } (.slice none 0 0) (.slice none 0 0), 29) :: (W.heap.size, zcells, 29) :: (w1.heap.size, rcells s n4 0, 85) :: L) H91 rfl (wn rfl) (R_st H91 rfl rfl rfl (st_row (m2 := .zero) (m := .zero) (vo2 := .slice none 0 0) (vs2 := .slice none 0 0) (vo := .slice none 0 0) (vs := .slice none 0 0) (hL.mem_at (by simp)) (mcells_one rfl rfl))) ((hL.swap.row _).swap) fun a92 w92 H92 hL' => ?_
    replace hL := hL'
    clear H91 hL'
    refine h_op H92 rfl (wn rfl) (R_as H92 rfl rfl) rfl (P2 3 2 rfl rfl) fun a93 H93 => ?_
    clear H92
    refine h_end ?_
    repeat (go_not_at_region 999; go_step)
    refine bodyPost_ret (v := .tuple #[.agg zcells, .int .i64 8]) (refread_results (H93.getD rfl) (H93.getD rfl) hL.swap.at_ rfl) H93.1 ?_
    rw [hY]
    exact .zero rfl hL.tail.tail.tail
  rw [if_neg hn] at hY
  repeat (go_not_at_region 46; go_step)
  repeat (go_not_at_region 46; go_step)
  refine wp_region_lit ?_
  refine h_op H83 rfl (wn rfl) (R_mv H83 rfl rfl) rfl (P5 128 5 4 2 0 rfl rfl rfl rfl rfl) fun a84 H84 => ?_
  clear H83
  refine h_op H84 rfl (wn rfl) (R_nc H84 rfl rfl) rfl (P5 129 5 4 2 0 rfl rfl rfl rfl rfl) fun a85 H85 => ?_
  clear H84
  refine h_op H85 rfl (wn rfl) (R_fa H85 rfl rfl (fr_1 _ _)) rfl (P5 130 5 4 2 0 rfl rfl rfl rfl rfl) fun a86 H86 => ?_
  clear H85
  refine h_op H86 rfl (wn rfl) (R_ld H86 rfl rfl (ld_int (hL.third.cell 1))) rfl (P5 131 5 4 2 0 rfl rfl rfl rfl rfl) fun a87 H87 => ?_
  clear H86
  refine h_op H87 rfl (wn rfl) (R_mv H87 rfl rfl) rfl (P6 132 131 5 4 2 0 rfl rfl rfl rfl rfl rfl) fun a88 H88 => ?_
  clear H87
  refine h_op H88 rfl (wn rfl) (R_len H88 rfl rfl Try.underlying9) rfl (P6 133 131 5 4 2 0 rfl rfl rfl rfl rfl rfl) fun a89 H89 => ?_
  clear H88
  refine h_op H89 rfl (wn rfl) (R_bin H89 rfl rfl rfl (B_to (y := false) (B_lt Try.underlying3 _ _) (decide_eq_false (by omega)))) rfl (P5 134 5 4 2 0 rfl rfl rfl rfl rfl) fun a90 H90 => ?_
  clear H89
  refine h_end ?_
  repeat (go_not_at_region 48; go_step)
  refine wp_cond_false (H90.ev (x := .tmp 134) rfl) ?_
  repeat (go_not_at_region 48; go_step)
  repeat (go_not_at_region 48; go_step)
  refine wp_region_lit ?_
  refine h_op H90 rfl (wn rfl) (R_ld H90 rfl rfl (ld_row hL.at_)) rfl (P2 136 2 rfl rfl) fun a91 H91 => ?_
  clear H90
  refine h_stL ((W.heap.size, mcells { PMsg.zero with kind := 5, move := (x0 : Nat), part := (x1 : Nat), n := (x2 : Nat), count := (x3 : Nat), data := x4 } (.slice none 0 0) (.slice none 0 0), 29) :: (w5.heap.size, mcells { PMsg.zero with kind := 5, move := (x0 : Nat), part := (x1 : Nat), n := (x2 : Nat), count := (x3 : Nat), data := x4 } (.slice none 0 0) (.slice none 0 0), 29) :: (w1.heap.size, rcells s n4 0, 85) :: L) H91 rfl (wn rfl) (R_st H91 rfl rfl rfl (st_row (m2 := .zero) (vo2 := .slice none 0 0) (vs2 := .slice none 0 0) (hL.mem_at (by simp)) (mcells_one rfl rfl))) (hL.swap.row _) fun a92 w92 H92 hL' => ?_
  replace hL := hL'
  clear H91 hL'
  refine h_op H92 rfl (wn rfl) (R_as H92 rfl rfl) rfl (P2 3 2 rfl rfl) fun a93 H93 => ?_
  clear H92
  refine h_end ?_
  repeat (go_not_at_region 999; go_step)
  refine bodyPost_ret (v := .tuple #[.agg (mcells { PMsg.zero with kind := 5, move := (x0 : Nat), part := (x1 : Nat), n := (x2 : Nat), count := (x3 : Nat), data := x4 } (.slice none 0 0) (.slice none 0 0)), .int .i64 0]) (refread_results (H93.getD rfl) (H93.getD rfl) hL.at_ rfl) H93.1 ?_
  rw [hY]
  exact ⟨(.slice none 0 0), (.slice none 0 0), [], [], rfl, .inl ⟨rd_nul _, rfl⟩, .inl ⟨rd_nul _, rfl⟩, hL.tail.tail.tail⟩
end
end Go.Proofs.Ytmmhchpilcjflaa
