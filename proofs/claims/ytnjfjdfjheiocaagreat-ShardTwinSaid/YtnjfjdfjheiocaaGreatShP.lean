/-
  A shard's state: in memory; none, does, Apply.
-/
import Derived.Test.YtnjfjdfjheiocaaGreatShO
set_option linter.unusedSimpArgs false
set_option linter.unusedVariables false
namespace Go.Proofs.YtnjfjdfjheiocaaGreat
open Go.RowKit
/-- An item. -/
structure PItem where
  src : Int
  seq : Int
  low : Int
  kind : Nat
  key : ByteArray
  part : Int
  at_ : Int
  n : Int
abbrev itC (x : PItem) : Array Value := #[.int .i64 x.src, .int .i64 x.seq, .int .i64 x.low, .int .u8 (x.kind : Nat), .string x.key, .int .i64 x.part, .int .i64 x.at_, .int .i64 x.n]
/-- A state as plain data; and where it lies. -/
structure PSt where
  M : Wins
  mark : Int
  lo : Nat → Int
  cd : Nat → Cods
structure Adr where
  g : Nat
  pl : Nat
  ps : Nat
  b : Nat
  pn : Nat
  bs : Nat → Nat
abbrev shC (pl pn : Nat) : Array Value := #[.pointer (some ⟨pl, 0, none⟩), .pointer (some ⟨pn, 0, none⟩)]
abbrev stT (A : Adr) (S : PSt) (L : List Thg) : List Thg := bk A.g (shC A.pl A.pn) 78 :: bk A.pl (lnC A.ps S.mark) 111 :: bk A.ps (stC A.b) 151 :: mw A.b S.M :: bk A.pn (snC S.lo A.bs) 115 :: (snT A.bs S.cd ++ L)
def doM (S : PSt) (x : PItem) : Int × Wins × PSt :=
  if x.kind = 1 then ((lputM S.M S.mark x.key x.at_ x.n).2, [], { S with M := (lputM S.M S.mark x.key x.at_ x.n).1 })
  else if x.kind = 2 then ((lmarkM S.M S.mark x.at_).1, (lmarkM S.M S.mark x.at_).2.1, { S with M := (lmarkM S.M S.mark x.at_).2.2.1, mark := (lmarkM S.M S.mark x.at_).2.2.2 })
  else (4, [], S)
def noteSt (S : PSt) (x : PItem) (c : Int) : PSt := { S with lo := (noteM S.lo S.cd x.src x.seq x.low c).2.1, cd := (noteM S.lo S.cd x.src x.seq x.low c).2.2 }
def applyM (S : PSt) (x : PItem) : (Int × Wins × Bool) × PSt :=
  if (askM S.lo S.cd x.src x.seq x.low).1 = 0 then ((4, [], false), S)
  else if (askM S.lo S.cd x.src x.seq x.low).1 = 3 then (((doM S x).1, (doM S x).2.1, true), noteSt (doM S x).2.2 x (doM S x).1)
  else (((askM S.lo S.cd x.src x.seq x.low).2, [], false), S)
section
variable {w0 W W' w : World} {L R X : List Thg} {g : Nat} {v : Value} {x : PItem} {A : Adr} {S : PSt}
theorem B8_eq {X Y : Operand} (x y : Int) : ((do eqGuard .eql 5 X Y (.int .u8 x) (.int .u8 y); binOp .eql 5 (.int .u8 x) (.int .u8 y)) : Sem Value).run Tryz.prog w = .ok (.bool (x == y)) w := by simp [go_sem]
theorem fi_k {i k : Nat} (hi : i < 8) : (Instr.fieldAt 42 (.pointer (some ⟨g, k, none⟩)) i).run Tryz.prog w = .ok (.pointer (some ⟨g, k + i, none⟩)) w := by
  have : i = 0 ∨ i = 1 ∨ i = 2 ∨ i = 3 ∨ i = 4 ∨ i = 5 ∨ i = 6 ∨ i = 7 := by omega
  rcases this with rfl | rfl | rfl | rfl | rfl | rfl | rfl | rfl <;> simp [go_sem]
theorem bx_it : (Instr.box 42 (.agg (itC x))).run Tryz.prog w = .ok (.pointer (some ⟨w.heap.size, 0, none⟩)) (w.alloc (.cells (itC x) 42)) := by
  simp [go_sem]
theorem infoIt : (Tryz.prog.info? 42).map (·.size) = some 8 := by kernel_rfl
theorem ld_it (h : w.heap[g]? = some (.cells (itC x) 42 (0, 0))) : (Instr.loadAt 42 (.pointer (some ⟨g, 0, none⟩))).run Tryz.prog w = .ok (.agg (itC x)) w := by
  simp only [Instr.loadAt, Instr.sureAddr, Sem.run_bind, Sem.run_pure, Result.andThen_ok, run_loadVar_row w g 42 42 (itC x) (0, 0) _ h Tryz.underlying42 rfl infoIt]
theorem ld_u8N {a : Addr} {k : Nat} (h : w.cell? a = some (.int .u8 (k : Nat))) : (Instr.loadAt 5 (.pointer (some a))).run Tryz.prog w = .ok (.int .u8 (k : Nat)) w := by simp [go_sem, h]
theorem ld_pln {a : Addr} {p : Option Addr} (h : w.cell? a = some (.pointer p)) : (Instr.loadAt 73 (.pointer (some a))).run Tryz.prog w = .ok (.pointer p) w := by simp [go_sem, h]
theorem fa_sh0 : (Instr.fieldAt 78 (.pointer (some ⟨g, 0, none⟩)) 0).run Tryz.prog w = .ok (.pointer (some ⟨g, 0, none⟩)) w := by simp [go_sem]
theorem fa_sh1 : (Instr.fieldAt 78 (.pointer (some ⟨g, 0, none⟩)) 1).run Tryz.prog w = .ok (.pointer (some ⟨g, 1, none⟩)) w := by simp [go_sem]
theorem B_psh {A B : Operand} {a : Addr} : ((do eqGuard .eql 25 A B (.pointer (some a)) (.pointer none); binOp .eql 25 (.pointer (some a)) (.pointer none)) : Sem Value).run Tryz.prog w = .ok (.bool false) w := by simp [go_sem]
theorem LV.inX {Y : List Thg} {a c d : Thg} (h : LV w0 (X ++ (a :: c :: d :: (Y ++ R))) w) : LV w0 (X ++ (Y ++ (a :: c :: d :: R))) w := h.perm ((List.perm_append_comm_assoc [a, c, d] Y R).append_left X)
theorem LV.bkS {N : Thg} {bs : Nat → Nat} {cd : Nat → Cods} (h : LV w0 (X ++ (N :: (snT bs cd ++ R))) w) : LV w0 (N :: (snT bs cd ++ (X ++ R))) w := h.perm (List.perm_append_comm_assoc X (N :: snT bs cd) R)
theorem LV.frS {N : Thg} {bs : Nat → Nat} {cd : Nat → Cods} (h : LV w0 (N :: (snT bs cd ++ (X ++ R))) w) : LV w0 (X ++ (N :: (snT bs cd ++ R))) w := h.perm (List.perm_append_comm_assoc (N :: snT bs cd) X R)
set_option maxRecDepth 100000 in
theorem shnone_any {pl pn : Nat} (h : w.heap[g]? = some (.cells (shC pl pn) 78 (0, 0))) : Calls Tryz.prog 34 #[.pointer (some ⟨g, 0, none⟩)] w fun e W' => e = .returned (.bool false) ∧ W' = w := by
  go_enter Tryz.func34, Tryz.ntmps34
  refine wp_fr (n := 19) (m := [(0, _)]) ⟨rfl, rfl, by intro p hp; simp only [List.mem_cons, List.not_mem_nil, or_false] at hp; rcases hp with rfl <;> rfl⟩ fun a0 H0 => ?_
  repeat (go_not_at_region 0; go_step)
  refine wp_region_lit ?_
  refine h_op H0 rfl (wn rfl) (R_as H0 rfl rfl) rfl (P1 0 rfl) fun a1 H1 => ?_
  clear H0
  refine h_end ?_
  repeat (go_not_at_region 1; go_step)
  refine wp_region_lit ?_
  refine h_op H1 rfl (wn rfl) (R_mv H1 rfl rfl) rfl (P2 3 0 rfl rfl) fun a2 H2 => ?_
  clear H1
  refine h_op H2 rfl (wn rfl) (R_bin H2 rfl rfl rfl B_psh) rfl (P2 4 0 rfl rfl) fun a3 H3 => ?_
  clear H2
  refine h_op H3 rfl (wn rfl) (R_mv H3 rfl rfl) rfl (P2 5 0 rfl rfl) fun a4 H4 => ?_
  clear H3
  refine h_op H4 rfl (H4.wt rfl rfl rfl) (R_mv H4 rfl rfl) rfl (P3 6 5 0 rfl rfl rfl) fun a5 H5 => ?_
  clear H4
  refine h_op H5 rfl (H5.wt rfl rfl rfl) (R_nc H5 rfl rfl) rfl (P3 7 5 0 rfl rfl rfl) fun a6 H6 => ?_
  clear H5
  refine h_op H6 rfl (H6.wt rfl rfl rfl) (R_fa H6 rfl rfl fa_sh0) rfl (P3 8 5 0 rfl rfl rfl) fun a7 H7 => ?_
  clear H6
  refine h_op H7 rfl (H7.wt rfl rfl rfl) (R_ld H7 rfl rfl (ld_pln (cells_at h 0))) rfl (P3 9 5 0 rfl rfl rfl) fun a8 H8 => ?_
  clear H7
  refine h_op H8 rfl (H8.wt rfl rfl rfl) (R_bin H8 rfl rfl rfl B_pl) rfl (P3 10 5 0 rfl rfl rfl) fun a9 H9 => ?_
  clear H8
  refine h_op H9 rfl (wn rfl) (R_pick H9 rfl rfl rfl) rfl (P2 11 0 rfl rfl) fun a10 H10 => ?_
  clear H9
  refine h_op H10 rfl (wn rfl) (R_mv H10 rfl rfl) rfl (P2 12 0 rfl rfl) fun a11 H11 => ?_
  clear H10
  refine h_op H11 rfl (H11.wt rfl rfl rfl) (R_mv H11 rfl rfl) rfl (P2 13 12 rfl rfl) fun a12 H12 => ?_
  clear H11
  refine h_op H12 rfl (H12.wt rfl rfl rfl) (R_nc H12 rfl rfl) rfl (P2 14 12 rfl rfl) fun a13 H13 => ?_
  clear H12
  refine h_op H13 rfl (H13.wt rfl rfl rfl) (R_fa H13 rfl rfl fa_sh1) rfl (P2 15 12 rfl rfl) fun a14 H14 => ?_
  clear H13
  refine h_op H14 rfl (H14.wt rfl rfl rfl) (R_ld H14 rfl rfl (ld_psn (cells_at h 1))) rfl (P2 16 12 rfl rfl) fun a15 H15 => ?_
  clear H14
  refine h_op H15 rfl (H15.wt rfl rfl rfl) (R_bin H15 rfl rfl rfl B_pn) rfl (P2 17 12 rfl rfl) fun a16 H16 => ?_
  clear H15
  refine h_op H16 rfl (wn rfl) (R_pick H16 rfl rfl rfl) rfl (P1 18 rfl) fun a17 H17 => ?_
  clear H16
  refine h_op H17 rfl (wn rfl) (R_as H17 rfl rfl) rfl (P1 2 rfl) fun a18 H18 => ?_
  clear H17
  refine h_end ?_
  repeat (go_not_at_region 999; go_step)
  exact H18.ret1 rfl rfl ⟨rfl, rfl⟩
set_option maxRecDepth 100000 in
theorem shnone_nil : Calls Tryz.prog 34 #[.pointer none] w fun e W' => e = .returned (.bool true) ∧ W' = w := by
  go_enter Tryz.func34, Tryz.ntmps34
  refine wp_fr (n := 19) (m := [(0, _)]) ⟨rfl, rfl, by intro p hp; simp only [List.mem_cons, List.not_mem_nil, or_false] at hp; rcases hp with rfl <;> rfl⟩ fun a0 H0 => ?_
  repeat (go_not_at_region 0; go_step)
  refine wp_region_lit ?_
  refine h_op H0 rfl (wn rfl) (R_as H0 rfl rfl) rfl (P1 0 rfl) fun a1 H1 => ?_
  clear H0
  refine h_end ?_
  repeat (go_not_at_region 1; go_step)
  refine wp_region_lit ?_
  refine h_op H1 rfl (wn rfl) (R_mv H1 rfl rfl) rfl (P2 3 0 rfl rfl) fun a2 H2 => ?_
  clear H1
  refine h_op H2 rfl (wn rfl) (R_bin H2 rfl rfl rfl (B_pnn Tryz.underlying25)) rfl (P2 4 0 rfl rfl) fun a3 H3 => ?_
  clear H2
  refine h_op H3 rfl (wn rfl) (R_mv H3 rfl rfl) rfl (P2 5 0 rfl rfl) fun a4 H4 => ?_
  clear H3
  refine h_skip H4 rfl (H4.wf rfl rfl rfl) rfl (P3 6 5 0 rfl rfl rfl) fun a5 H5 => ?_
  clear H4
  refine h_skip H5 rfl (H5.wf rfl rfl rfl) rfl (P3 7 5 0 rfl rfl rfl) fun a6 H6 => ?_
  clear H5
  refine h_skip H6 rfl (H6.wf rfl rfl rfl) rfl (P3 8 5 0 rfl rfl rfl) fun a7 H7 => ?_
  clear H6
  refine h_skip H7 rfl (H7.wf rfl rfl rfl) rfl (P3 9 5 0 rfl rfl rfl) fun a8 H8 => ?_
  clear H7
  refine h_skip H8 rfl (H8.wf rfl rfl rfl) rfl (P3 10 5 0 rfl rfl rfl) fun a9 H9 => ?_
  clear H8
  refine h_op H9 rfl (wn rfl) (R_pick H9 rfl rfl rfl) rfl (P2 11 0 rfl rfl) fun a10 H10 => ?_
  clear H9
  refine h_op H10 rfl (wn rfl) (R_mv H10 rfl rfl) rfl (P2 12 0 rfl rfl) fun a11 H11 => ?_
  clear H10
  refine h_skip H11 rfl (H11.wf rfl rfl rfl) rfl (P2 13 12 rfl rfl) fun a12 H12 => ?_
  clear H11
  refine h_skip H12 rfl (H12.wf rfl rfl rfl) rfl (P2 14 12 rfl rfl) fun a13 H13 => ?_
  clear H12
  refine h_skip H13 rfl (H13.wf rfl rfl rfl) rfl (P2 15 12 rfl rfl) fun a14 H14 => ?_
  clear H13
  refine h_skip H14 rfl (H14.wf rfl rfl rfl) rfl (P2 16 12 rfl rfl) fun a15 H15 => ?_
  clear H14
  refine h_skip H15 rfl (H15.wf rfl rfl rfl) rfl (P2 17 12 rfl rfl) fun a16 H16 => ?_
  clear H15
  refine h_op H16 rfl (wn rfl) (R_pick H16 rfl rfl rfl) rfl (P1 18 rfl) fun a17 H17 => ?_
  clear H16
  refine h_op H17 rfl (wn rfl) (R_as H17 rfl rfl) rfl (P1 2 rfl) fun a18 H18 => ?_
  clear H17
  refine h_end ?_
  repeat (go_not_at_region 999; go_step)
  exact H18.ret1 rfl rfl ⟨rfl, rfl⟩
set_option maxRecDepth 100000 in
theorem does_any (hL : LV w0 (stT A S L) W) (hks : x.key.size ≤ maxLen) (hn : S.M.length < 100000) : Calls Tryz.prog 36 #[.pointer (some ⟨A.g, 0, none⟩), .agg (itC x)] W fun e W' => ∃ v X, e = .returned (.tuple #[.int .i64 (doM S x).1, v]) ∧ PRow 57 10 v (doM S x).2.1.length (outF (doM S x).2.1) X ∧ LV w0 (X ++ stT A (doM S x).2.2 L) W' := by
  obtain ⟨y, hy⟩ : ∃ y, y = doM S x := ⟨_, rfl⟩
  rw [← hy]
  unfold doM at hy
  go_enter Tryz.func36, Tryz.ntmps36
  refine wp_fr (n := 32) (m := [(0, _), (1, _)]) ⟨rfl, rfl, by intro p hp; simp only [List.mem_cons, List.not_mem_nil, or_false] at hp; rcases hp with rfl | rfl <;> rfl⟩ fun a0 H0 => ?_
  repeat (go_not_at_region 0; go_step)
  refine wp_region_lit ?_
  refine h_opS (bk W.heap.size (itC x) 42 :: stT A S L) H0 rfl (wn rfl) (R_box H0 rfl rfl bx_it) (hL.alloc _ _) rfl (P2 3 0 rfl rfl) fun a1 w1 H1 hL' => ?_
  replace hL := hL'
  clear H0 hL'
  refine h_op H1 rfl (wn rfl) (R_as H1 rfl rfl) rfl (P2 3 0 rfl rfl) fun a2 H2 => ?_
  clear H1
  refine h_op H2 rfl (wn rfl) (R_as H2 rfl rfl) rfl (P2 3 0 rfl rfl) fun a3 H3 => ?_
  clear H2
  refine h_end ?_
  obtain ⟨g3, hg3⟩ : ∃ g, g = W.heap.size := ⟨_, rfl⟩
  rw [← hg3] at H3 hL
  clear hg3
  repeat (go_not_at_region 1; go_step)
  refine wp_region_lit ?_
  refine h_op H3 rfl (wn rfl) (R_fa H3 rfl rfl (fi_k (by decide))) rfl (P3 6 3 0 rfl rfl rfl) fun a4 H4 => ?_
  clear H3
  refine h_op H4 rfl (wn rfl) (R_ld H4 rfl rfl (ld_u8N (hL.cell 3))) rfl (P3 7 3 0 rfl rfl rfl) fun a5 H5 => ?_
  clear H4
  refine h_end ?_
  repeat (go_not_at_region 2; go_step)
  refine wp_region_lit ?_
  refine h_op H5 rfl (wn rfl) (R_bin H5 rfl rfl rfl (B8_eq _ _)) rfl (P4 9 7 3 0 rfl rfl rfl rfl) fun a6 H6 => ?_
  clear H5
  refine h_op H6 rfl (wn rfl) (R_as H6 rfl rfl) rfl (P4 8 7 3 0 rfl rfl rfl rfl) fun a7 H7 => ?_
  clear H6
  refine h_end ?_
  by_cases h1 : x.kind = 1
  · have e1 : ((x.kind : Int) == 1) = true := by rw [h1]; rfl
    rw [e1] at H7
    rw [if_pos h1] at hy
    repeat (go_not_at_region 3; go_step)
    refine wp_cond_true (H7.ev (x := .tmp 8) rfl) ?_
    repeat (go_not_at_region 3; go_step)
    refine wp_region_held_drew (S := fun w' => Thg.ok w' (bk g3 (itC x) 42) ∧ Thg.ok w' (bk A.g (shC A.pl A.pn) 78)) (by kernel_rfl) ((⟨LV.has hL.drew (by simp), LV.has hL.drew (by simp)⟩ : Thg.ok _ (bk g3 (itC x) 42) ∧ Thg.ok _ (bk A.g (shC A.pl A.pn) 78))) (fun _ => ?_)
    replace hL := hL.drew
    refine a_op 0 H7 rfl rfl (by kernel_rfl) (by kernel_rfl) (by kernel_rfl) (fun _ _ _ h => h) (wn rfl) (fun w hL => R_mv H7 rfl rfl) ((⟨LV.has hL (by simp), LV.has hL (by simp)⟩ : Thg.ok _ (bk g3 (itC x) 42) ∧ Thg.ok _ (bk A.g (shC A.pl A.pn) 78))) rfl (P2 10 3 rfl rfl) fun a8 H8 => ?_
    clear H7
    refine a_op 4 H8 rfl rfl (by kernel_rfl) (by kernel_rfl) (by kernel_rfl) (fun _ _ _ h => h) (wn rfl) (fun w hL => R_fa H8 rfl rfl (fi_k (by decide))) ((⟨LV.has hL (by simp), LV.has hL (by simp)⟩ : Thg.ok _ (bk g3 (itC x) 42) ∧ Thg.ok _ (bk A.g (shC A.pl A.pn) 78))) rfl (P3 14 10 3 rfl rfl rfl) fun a9 H9 => ?_
    clear H8
    refine a_op 6 H9 rfl rfl (by kernel_rfl) (by kernel_rfl) (by kernel_rfl) (fun _ _ _ h => h) (wn rfl) (fun w hL => R_fa H9 rfl rfl (fi_k (by decide))) ((⟨LV.has hL (by simp), LV.has hL (by simp)⟩ : Thg.ok _ (bk g3 (itC x) 42) ∧ Thg.ok _ (bk A.g (shC A.pl A.pn) 78))) rfl (P4 16 14 10 3 rfl rfl rfl rfl) fun a10 H10 => ?_
    clear H9
    refine a_op 8 H10 rfl rfl (by kernel_rfl) (by kernel_rfl) (by kernel_rfl) (fun _ _ _ h => h) (wn rfl) (fun w hL => R_fa H10 rfl rfl (fi_k (by decide))) ((⟨LV.has hL (by simp), LV.has hL (by simp)⟩ : Thg.ok _ (bk g3 (itC x) 42) ∧ Thg.ok _ (bk A.g (shC A.pl A.pn) 78))) rfl (P4 18 16 14 10 rfl rfl rfl rfl) fun a11 H11 => ?_
    clear H10
    refine a_op 1 H11 rfl rfl (by kernel_rfl) (by kernel_rfl) (by kernel_rfl) (fun _ _ _ h => h) (wn rfl) (fun w hL => R_nc H11 rfl rfl) ((⟨LV.has hL (by simp), LV.has hL (by simp)⟩ : Thg.ok _ (bk g3 (itC x) 42) ∧ Thg.ok _ (bk A.g (shC A.pl A.pn) 78))) rfl (P4 11 18 16 14 rfl rfl rfl rfl) fun a12 H12 => ?_
    clear H11
    refine a_op 5 H12 rfl rfl (by kernel_rfl) (by kernel_rfl) (by kernel_rfl) (fun _ _ _ h => h) (wn rfl) (fun w hL => R_ld H12 rfl rfl (ld_txt (okc hL.1 4))) ((⟨LV.has hL (by simp), LV.has hL (by simp)⟩ : Thg.ok _ (bk g3 (itC x) 42) ∧ Thg.ok _ (bk A.g (shC A.pl A.pn) 78))) rfl (P4 15 11 18 16 rfl rfl rfl rfl) fun a13 H13 => ?_
    clear H12
    refine a_op 7 H13 rfl rfl (by kernel_rfl) (by kernel_rfl) (by kernel_rfl) (fun _ _ _ h => h) (wn rfl) (fun w hL => R_ld H13 rfl rfl (ld_lon (okc hL.1 6))) ((⟨LV.has hL (by simp), LV.has hL (by simp)⟩ : Thg.ok _ (bk g3 (itC x) 42) ∧ Thg.ok _ (bk A.g (shC A.pl A.pn) 78))) rfl (P4 17 15 11 18 rfl rfl rfl rfl) fun a14 H14 => ?_
    clear H13
    refine a_op 9 H14 rfl rfl (by kernel_rfl) (by kernel_rfl) (by kernel_rfl) (fun _ _ _ h => h) (wn rfl) (fun w hL => R_ld H14 rfl rfl (ld_lon (okc hL.1 7))) ((⟨LV.has hL (by simp), LV.has hL (by simp)⟩ : Thg.ok _ (bk g3 (itC x) 42) ∧ Thg.ok _ (bk A.g (shC A.pl A.pn) 78))) rfl (P4 19 17 15 11 rfl rfl rfl rfl) fun a15 H15 => ?_
    clear H14
    refine a_op 2 H15 rfl rfl (by kernel_rfl) (by kernel_rfl) (by kernel_rfl) (fun _ _ _ h => h) (wn rfl) (fun w hL => R_fa H15 rfl rfl fa_sh0) ((⟨LV.has hL (by simp), LV.has hL (by simp)⟩ : Thg.ok _ (bk g3 (itC x) 42) ∧ Thg.ok _ (bk A.g (shC A.pl A.pn) 78))) rfl (P4 12 19 17 15 rfl rfl rfl rfl) fun a16 H16 => ?_
    clear H15
    refine a_op 3 H16 rfl rfl (by kernel_rfl) (by kernel_rfl) (by kernel_rfl) (fun _ _ _ h => h) (wn rfl) (fun w hL => R_ld H16 rfl rfl (ld_pln (okc hL.2 0))) ((⟨LV.has hL (by simp), LV.has hL (by simp)⟩ : Thg.ok _ (bk g3 (itC x) 42) ∧ Thg.ok _ (bk A.g (shC A.pl A.pn) 78))) rfl (P4 13 19 17 15 rfl rfl rfl rfl) fun a17 H17 => ?_
    clear H16
    refine a_all1 10 (by kernel_rfl) ?_
    refine o_call 10 H17 rfl rfl (wn rfl) (R_call4 H17 rfl rfl rfl rfl rfl (fun w => by simp [go_sem])) rfl ?_
    refine (lput_any (key := x.key) (at_ := x.at_) (v := x.n) hks (by omega) (LV.bk3 (X := [_, _]) hL)).mono ?_
    rintro e w18 ⟨rfl, hL2⟩
    clear hL
    have hL := LV.fr3 (X := [bk g3 (itC x) 42, bk A.g (shC A.pl A.pn) 78]) hL2
    clear hL2
    refine ⟨_, rfl, fun a18 HH => ?_⟩
    have H18 := HH _ (P1 20 rfl)
    clear HH H17
    refine ⟨(⟨LV.has hL (by simp), LV.has hL (by simp)⟩ : Thg.ok _ (bk g3 (itC x) 42) ∧ Thg.ok _ (bk A.g (shC A.pl A.pn) 78)), ?_⟩
    refine a_op 11 H18 rfl rfl (by kernel_rfl) (by kernel_rfl) (by kernel_rfl) (fun _ _ _ h => h) (wn rfl) (fun w hL => R_as H18 rfl rfl) ((⟨LV.has hL (by simp), LV.has hL (by simp)⟩ : Thg.ok _ (bk g3 (itC x) 42) ∧ Thg.ok _ (bk A.g (shC A.pl A.pn) 78))) rfl (P1 4 rfl) fun a19 H19 => ?_
    clear H18
    refine a_op 12 H19 rfl rfl (by kernel_rfl) (by kernel_rfl) (by kernel_rfl) (fun _ _ _ h => h) (wn rfl) (fun w hL => R_as H19 rfl rfl) ((⟨LV.has hL (by simp), LV.has hL (by simp)⟩ : Thg.ok _ (bk g3 (itC x) 42) ∧ Thg.ok _ (bk A.g (shC A.pl A.pn) 78))) rfl (P2 5 4 rfl rfl) fun a20 H20 => ?_
    clear H19
    refine wpAnyH_done (by kernel_rfl) ?_ _
    repeat (go_not_at_region 999; go_step)
    subst hy
    exact H20.ret2 rfl rfl rfl ⟨_, [], rfl, PRow.nil, hL.tail⟩
  have e1 : ((x.kind : Int) == 1) = false := beq_eq_false_iff_ne.2 (by omega)
  rw [e1] at H7
  rw [if_neg h1] at hy
  clear e1
  repeat (go_not_at_region 4; go_step)
  refine wp_cond_false (H7.ev (x := .tmp 8) rfl) ?_
  repeat (go_not_at_region 4; go_step)
  refine wp_region_lit ?_
  refine h_op H7 rfl (wn rfl) (R_bin H7 rfl rfl rfl (B8_eq _ _)) rfl (P3 22 3 0 rfl rfl rfl) fun a8 H8 => ?_
  clear H7
  refine h_op H8 rfl (wn rfl) (R_as H8 rfl rfl) rfl (P3 21 3 0 rfl rfl rfl) fun a9 H9 => ?_
  clear H8
  refine h_end ?_
  by_cases h2 : x.kind = 2
  · have e1 : ((x.kind : Int) == 2) = true := by rw [h2]; rfl
    rw [e1] at H9
    rw [if_pos h2] at hy
    repeat (go_not_at_region 5; go_step)
    refine wp_cond_true (H9.ev (x := .tmp 21) rfl) ?_
    repeat (go_not_at_region 5; go_step)
    refine wp_region_held_drew (S := fun w' => Thg.ok w' (bk g3 (itC x) 42) ∧ Thg.ok w' (bk A.g (shC A.pl A.pn) 78)) (by kernel_rfl) ((⟨LV.has hL.drew (by simp), LV.has hL.drew (by simp)⟩ : Thg.ok _ (bk g3 (itC x) 42) ∧ Thg.ok _ (bk A.g (shC A.pl A.pn) 78))) (fun _ => ?_)
    replace hL := hL.drew
    refine a_op 0 H9 rfl rfl (by kernel_rfl) (by kernel_rfl) (by kernel_rfl) (fun _ _ _ h => h) (wn rfl) (fun w hL => R_mv H9 rfl rfl) ((⟨LV.has hL (by simp), LV.has hL (by simp)⟩ : Thg.ok _ (bk g3 (itC x) 42) ∧ Thg.ok _ (bk A.g (shC A.pl A.pn) 78))) rfl (P2 23 3 rfl rfl) fun a10 H10 => ?_
    clear H9
    refine a_op 4 H10 rfl rfl (by kernel_rfl) (by kernel_rfl) (by kernel_rfl) (fun _ _ _ h => h) (wn rfl) (fun w hL => R_fa H10 rfl rfl (fi_k (by decide))) ((⟨LV.has hL (by simp), LV.has hL (by simp)⟩ : Thg.ok _ (bk g3 (itC x) 42) ∧ Thg.ok _ (bk A.g (shC A.pl A.pn) 78))) rfl (P2 27 23 rfl rfl) fun a11 H11 => ?_
    clear H10
    refine a_op 1 H11 rfl rfl (by kernel_rfl) (by kernel_rfl) (by kernel_rfl) (fun _ _ _ h => h) (wn rfl) (fun w hL => R_nc H11 rfl rfl) ((⟨LV.has hL (by simp), LV.has hL (by simp)⟩ : Thg.ok _ (bk g3 (itC x) 42) ∧ Thg.ok _ (bk A.g (shC A.pl A.pn) 78))) rfl (P2 24 27 rfl rfl) fun a12 H12 => ?_
    clear H11
    refine a_op 5 H12 rfl rfl (by kernel_rfl) (by kernel_rfl) (by kernel_rfl) (fun _ _ _ h => h) (wn rfl) (fun w hL => R_ld H12 rfl rfl (ld_lon (okc hL.1 6))) ((⟨LV.has hL (by simp), LV.has hL (by simp)⟩ : Thg.ok _ (bk g3 (itC x) 42) ∧ Thg.ok _ (bk A.g (shC A.pl A.pn) 78))) rfl (P2 28 24 rfl rfl) fun a13 H13 => ?_
    clear H12
    refine a_op 2 H13 rfl rfl (by kernel_rfl) (by kernel_rfl) (by kernel_rfl) (fun _ _ _ h => h) (wn rfl) (fun w hL => R_fa H13 rfl rfl fa_sh0) ((⟨LV.has hL (by simp), LV.has hL (by simp)⟩ : Thg.ok _ (bk g3 (itC x) 42) ∧ Thg.ok _ (bk A.g (shC A.pl A.pn) 78))) rfl (P2 25 28 rfl rfl) fun a14 H14 => ?_
    clear H13
    refine a_op 3 H14 rfl rfl (by kernel_rfl) (by kernel_rfl) (by kernel_rfl) (fun _ _ _ h => h) (wn rfl) (fun w hL => R_ld H14 rfl rfl (ld_pln (okc hL.2 0))) ((⟨LV.has hL (by simp), LV.has hL (by simp)⟩ : Thg.ok _ (bk g3 (itC x) 42) ∧ Thg.ok _ (bk A.g (shC A.pl A.pn) 78))) rfl (P2 26 28 rfl rfl) fun a15 H15 => ?_
    clear H14
    refine a_all1 6 (by kernel_rfl) ?_
    refine o_call 6 H15 rfl rfl (wn rfl) (R_call2 H15 rfl rfl rfl (fun w => by simp [go_sem])) rfl ?_
    refine (lmark_any (at_ := x.at_) (LV.bk3 (X := [_, _]) hL) hn).mono ?_
    rintro e w16 ⟨vm, Xm, rfl, hrm, hL2⟩
    clear hL
    have hL := hL2.inX (Y := [bk g3 (itC x) 42, bk A.g (shC A.pl A.pn) 78])
    clear hL2
    refine ⟨_, rfl, fun a16 HH => ?_⟩
    have H16 := HH _ (P1 29 rfl)
    clear HH H15
    refine ⟨(⟨LV.has hL (by simp), LV.has hL (by simp)⟩ : Thg.ok _ (bk g3 (itC x) 42) ∧ Thg.ok _ (bk A.g (shC A.pl A.pn) 78)), ?_⟩
    refine a_op 7 H16 rfl rfl (by kernel_rfl) (by kernel_rfl) (by kernel_rfl) (fun _ _ _ h => h) (wn rfl) (fun w hL => R_ext H16 rfl rfl rfl) ((⟨LV.has hL (by simp), LV.has hL (by simp)⟩ : Thg.ok _ (bk g3 (itC x) 42) ∧ Thg.ok _ (bk A.g (shC A.pl A.pn) 78))) rfl (P2 30 29 rfl rfl) fun a17 H17 => ?_
    clear H16
    refine a_op 8 H17 rfl rfl (by kernel_rfl) (by kernel_rfl) (by kernel_rfl) (fun _ _ _ h => h) (wn rfl) (fun w hL => R_ext H17 rfl rfl rfl) ((⟨LV.has hL (by simp), LV.has hL (by simp)⟩ : Thg.ok _ (bk g3 (itC x) 42) ∧ Thg.ok _ (bk A.g (shC A.pl A.pn) 78))) rfl (P2 31 30 rfl rfl) fun a18 H18 => ?_
    clear H17
    refine a_op 9 H18 rfl rfl (by kernel_rfl) (by kernel_rfl) (by kernel_rfl) (fun _ _ _ h => h) (wn rfl) (fun w hL => R_as H18 rfl rfl) ((⟨LV.has hL (by simp), LV.has hL (by simp)⟩ : Thg.ok _ (bk g3 (itC x) 42) ∧ Thg.ok _ (bk A.g (shC A.pl A.pn) 78))) rfl (P2 4 31 rfl rfl) fun a19 H19 => ?_
    clear H18
    refine a_op 10 H19 rfl rfl (by kernel_rfl) (by kernel_rfl) (by kernel_rfl) (fun _ _ _ h => h) (wn rfl) (fun w hL => R_as H19 rfl rfl) ((⟨LV.has hL (by simp), LV.has hL (by simp)⟩ : Thg.ok _ (bk g3 (itC x) 42) ∧ Thg.ok _ (bk A.g (shC A.pl A.pn) 78))) rfl (P2 5 4 rfl rfl) fun a20 H20 => ?_
    clear H19
    refine wpAnyH_done (by kernel_rfl) ?_ _
    repeat (go_not_at_region 999; go_step)
    subst hy
    exact H20.ret2 rfl rfl rfl ⟨_, Xm, rfl, hrm, hL.bk1.tail⟩
  have e1 : ((x.kind : Int) == 2) = false := beq_eq_false_iff_ne.2 (by omega)
  rw [e1] at H9
  rw [if_neg h2] at hy
  repeat (go_not_at_region 6; go_step)
  refine wp_cond_false (H9.ev (x := .tmp 21) rfl) ?_
  repeat (go_not_at_region 6; go_step)
  refine wp_region_lit ?_
  refine h_op H9 rfl (wn rfl) (R_as H9 rfl rfl) rfl (P1 4 rfl) fun a10 H10 => ?_
  clear H9
  refine h_op H10 rfl (wn rfl) (R_as H10 rfl rfl) rfl (P2 5 4 rfl rfl) fun a11 H11 => ?_
  clear H10
  refine h_end ?_
  repeat (go_not_at_region 999; go_step)
  subst hy
  exact H11.ret2 rfl rfl rfl ⟨_, [], rfl, PRow.nil, hL.tail⟩
end
end Go.Proofs.YtnjfjdfjheiocaaGreat
