/-
  shard: Apply, New, Mark, Open.
-/
import Derived.Test.YtnjfjdfjheiocaaGreatShP
set_option linter.unusedSimpArgs false
set_option linter.unusedVariables false
namespace Go.Proofs.YtnjfjdfjheiocaaGreat
open Go.RowKit
theorem Fr.ret3 {P : Program} {fn : Func} {R : Ending → World → Prop} {a : Act} {w : World} {n : Nat} {m : List (Nat × Value)} {t u s : Nat} {v x y : Value} (H : Fr a n m) (h : fn.results = #[.tmp t, .tmp u, .tmp s]) (hv : look m t = some v) (hx : look m u = some x) (hy : look m s = some y) (hR : R (.returned (.tuple #[v, x, y])) w) : bodyPost P fn R .ret a w :=
  ⟨H.1, _, by rw [results_tmp3 h, H.getD hv, H.getD hx, H.getD hy], hR⟩
section
variable {w0 W W' w : World} {L R X : List Thg} {g : Nat} {v : Value} {x : PItem} {A : Adr} {S : PSt} {B : Thg}
theorem LV.boxI (h : LV w0 (B :: stT A S L) w) : LV w0 (stT A S (B :: L)) w := h.perm (List.perm_append_comm_assoc [B] (stT A S []) L)
theorem LV.boxO (h : LV w0 (stT A S (B :: L)) w) : LV w0 (B :: stT A S L) w := h.perm (List.perm_append_comm_assoc (stT A S []) [B] L)
theorem LV.boxOX (h : LV w0 (X ++ stT A S (B :: L)) w) : LV w0 (B :: (X ++ stT A S L)) w := (h.perm ((List.perm_append_comm_assoc (stT A S []) [B] L).append_left X)).bk1
/-- The table, ahead of all. -/
theorem LV.stN (h : LV w0 (X ++ stT A S L) w) : LV w0 (bk A.pn (snC S.lo A.bs) 115 :: (snT A.bs S.cd ++ (X ++ (bk A.g (shC A.pl A.pn) 78 :: bk A.pl (lnC A.ps S.mark) 111 :: bk A.ps (stC A.b) 151 :: mw A.b S.M :: L)))) w :=
  h.perm (((List.perm_append_comm_assoc [bk A.g (shC A.pl A.pn) 78, bk A.pl (lnC A.ps S.mark) 111, bk A.ps (stC A.b) 151, mw A.b S.M] (bk A.pn (snC S.lo A.bs) 115 :: snT A.bs S.cd) L).append_left X).trans (List.perm_append_comm_assoc X (bk A.pn (snC S.lo A.bs) 115 :: snT A.bs S.cd) _))
theorem LV.stB (h : LV w0 (bk A.pn (snC S.lo A.bs) 115 :: (snT A.bs S.cd ++ (X ++ (bk A.g (shC A.pl A.pn) 78 :: bk A.pl (lnC A.ps S.mark) 111 :: bk A.ps (stC A.b) 151 :: mw A.b S.M :: L)))) w) : LV w0 (X ++ stT A S L) w :=
  h.perm ((List.perm_append_comm_assoc (bk A.pn (snC S.lo A.bs) 115 :: snT A.bs S.cd) X _).trans ((List.perm_append_comm_assoc (bk A.pn (snC S.lo A.bs) 115 :: snT A.bs S.cd) [bk A.g (shC A.pl A.pn) 78, bk A.pl (lnC A.ps S.mark) 111, bk A.ps (stC A.b) 151, mw A.b S.M] L).append_left X))
theorem doM_cd : (doM S x).2.2.cd = S.cd := by
  unfold doM
  split
  · rfl
  · split <;> rfl
theorem doM_lo : (doM S x).2.2.lo = S.lo := by
  unfold doM
  split
  · rfl
  · split <;> rfl
set_option maxRecDepth 100000 in
theorem apply_any (hL : LV w0 (stT A S L) W) (hks : x.key.size ≤ maxLen) (hn : S.M.length < 100000) (hc : ∀ i, (S.cd i).length < 100000) : Calls Tryz.prog 13 #[.pointer (some ⟨A.g, 0, none⟩), .agg (itC x)] W fun e W' => ∃ v X, e = .returned (.tuple #[.int .i64 (applyM S x).1.1, v, .bool (applyM S x).1.2.2]) ∧ PRow 57 10 v (applyM S x).1.2.1.length (outF (applyM S x).1.2.1) X ∧ LV w0 (X ++ stT A (applyM S x).2 L) W' := by
  obtain ⟨y, hy⟩ : ∃ y, y = applyM S x := ⟨_, rfl⟩
  rw [← hy]
  unfold applyM at hy
  go_enter Tryz.func13, Tryz.ntmps13
  refine wp_fr (n := 51) (m := [(0, _), (1, _)]) ⟨rfl, rfl, by intro p hp; simp only [List.mem_cons, List.not_mem_nil, or_false] at hp; rcases hp with rfl | rfl <;> rfl⟩ fun a0 H0 => ?_
  repeat (go_not_at_region 0; go_step)
  refine wp_region_lit ?_
  refine h_opS (bk W.heap.size (itC x) 42 :: stT A S L) H0 rfl (wn rfl) (R_box H0 rfl rfl bx_it) (hL.alloc _ _) rfl (P2 3 0 rfl rfl) fun a1 w1 H1 hL' => ?_
  replace hL := hL'
  clear H0 hL'
  refine h_op H1 rfl (wn rfl) (R_as H1 rfl rfl) rfl (P2 3 0 rfl rfl) fun a2 H2 => ?_
  clear H1
  refine h_op H2 rfl (wn rfl) (R_as H2 rfl rfl) rfl (P2 3 0 rfl rfl) fun a3 H3 => ?_
  clear H2
  refine h_op H3 rfl (wn rfl) (R_as H3 rfl rfl) rfl (P2 3 0 rfl rfl) fun a4 H4 => ?_
  clear H3
  refine h_end ?_
  obtain ⟨g3, hg3⟩ : ∃ g, g = W.heap.size := ⟨_, rfl⟩
  rw [← hg3] at H4 hL
  clear hg3
  repeat (go_not_at_region 1; go_step)
  refine wp_region_lit ?_
  refine h_op H4 rfl (wn rfl) (R_mv H4 rfl rfl) rfl (P3 9 3 0 rfl rfl rfl) fun a5 H5 => ?_
  clear H4
  refine h_call H5 rfl (wn rfl) (R_call1 H5 rfl rfl (fun w => by simp [go_sem])) rfl ?_
  refine (shnone_any hL.tail.at_).mono ?_
  rintro e w6 ⟨rfl, hw⟩
  replace hL := hL.eqw hw
  clear hw
  refine ⟨_, rfl, fun a6 HH => ?_⟩
  have H6 := HH _ (P3 10 3 0 rfl rfl rfl)
  clear HH H5
  refine h_end ?_
  repeat (go_not_at_region 3; go_step)
  refine wp_cond_false (H6.ev (x := .tmp 10) rfl) ?_
  repeat (go_not_at_region 3; go_step)
  refine wp_region_held_drew (S := fun w' => Thg.ok w' (bk g3 (itC x) 42) ∧ Thg.ok w' (bk A.g (shC A.pl A.pn) 78)) (by kernel_rfl) ((⟨LV.has hL.drew (by simp), LV.has hL.drew (by simp)⟩ : Thg.ok _ (bk g3 (itC x) 42) ∧ Thg.ok _ (bk A.g (shC A.pl A.pn) 78))) (fun _ => ?_)
  replace hL := hL.drew
  refine a_op 0 H6 rfl rfl (by kernel_rfl) (by kernel_rfl) (by kernel_rfl) (fun _ _ _ h => h) (wn rfl) (fun w hL => R_mv H6 rfl rfl) ((⟨LV.has hL (by simp), LV.has hL (by simp)⟩ : Thg.ok _ (bk g3 (itC x) 42) ∧ Thg.ok _ (bk A.g (shC A.pl A.pn) 78))) rfl (P3 12 3 0 rfl rfl rfl) fun a7 H7 => ?_
  clear H6
  refine a_op 4 H7 rfl rfl (by kernel_rfl) (by kernel_rfl) (by kernel_rfl) (fun _ _ _ h => h) (wn rfl) (fun w hL => R_fa H7 rfl rfl (fi_k (by decide))) ((⟨LV.has hL (by simp), LV.has hL (by simp)⟩ : Thg.ok _ (bk g3 (itC x) 42) ∧ Thg.ok _ (bk A.g (shC A.pl A.pn) 78))) rfl (P4 16 12 3 0 rfl rfl rfl rfl) fun a8 H8 => ?_
  clear H7
  refine a_op 6 H8 rfl rfl (by kernel_rfl) (by kernel_rfl) (by kernel_rfl) (fun _ _ _ h => h) (wn rfl) (fun w hL => R_fa H8 rfl rfl (fi_k (by decide))) ((⟨LV.has hL (by simp), LV.has hL (by simp)⟩ : Thg.ok _ (bk g3 (itC x) 42) ∧ Thg.ok _ (bk A.g (shC A.pl A.pn) 78))) rfl (P5 18 16 12 3 0 rfl rfl rfl rfl rfl) fun a9 H9 => ?_
  clear H8
  refine a_op 8 H9 rfl rfl (by kernel_rfl) (by kernel_rfl) (by kernel_rfl) (fun _ _ _ h => h) (wn rfl) (fun w hL => R_fa H9 rfl rfl (fi_k (by decide))) ((⟨LV.has hL (by simp), LV.has hL (by simp)⟩ : Thg.ok _ (bk g3 (itC x) 42) ∧ Thg.ok _ (bk A.g (shC A.pl A.pn) 78))) rfl (P6 20 18 16 12 3 0 rfl rfl rfl rfl rfl rfl) fun a10 H10 => ?_
  clear H9
  refine a_op 1 H10 rfl rfl (by kernel_rfl) (by kernel_rfl) (by kernel_rfl) (fun _ _ _ h => h) (wn rfl) (fun w hL => R_nc H10 rfl rfl) ((⟨LV.has hL (by simp), LV.has hL (by simp)⟩ : Thg.ok _ (bk g3 (itC x) 42) ∧ Thg.ok _ (bk A.g (shC A.pl A.pn) 78))) rfl (P6 13 20 18 16 3 0 rfl rfl rfl rfl rfl rfl) fun a11 H11 => ?_
  clear H10
  refine a_op 5 H11 rfl rfl (by kernel_rfl) (by kernel_rfl) (by kernel_rfl) (fun _ _ _ h => h) (wn rfl) (fun w hL => R_ld H11 rfl rfl (ld_inn (okc hL.1 0))) ((⟨LV.has hL (by simp), LV.has hL (by simp)⟩ : Thg.ok _ (bk g3 (itC x) 42) ∧ Thg.ok _ (bk A.g (shC A.pl A.pn) 78))) rfl (P6 17 13 20 18 3 0 rfl rfl rfl rfl rfl rfl) fun a12 H12 => ?_
  clear H11
  refine a_op 7 H12 rfl rfl (by kernel_rfl) (by kernel_rfl) (by kernel_rfl) (fun _ _ _ h => h) (wn rfl) (fun w hL => R_ld H12 rfl rfl (ld_inn (okc hL.1 1))) ((⟨LV.has hL (by simp), LV.has hL (by simp)⟩ : Thg.ok _ (bk g3 (itC x) 42) ∧ Thg.ok _ (bk A.g (shC A.pl A.pn) 78))) rfl (P6 19 17 13 20 3 0 rfl rfl rfl rfl rfl rfl) fun a13 H13 => ?_
  clear H12
  refine a_op 9 H13 rfl rfl (by kernel_rfl) (by kernel_rfl) (by kernel_rfl) (fun _ _ _ h => h) (wn rfl) (fun w hL => R_ld H13 rfl rfl (ld_inn (okc hL.1 2))) ((⟨LV.has hL (by simp), LV.has hL (by simp)⟩ : Thg.ok _ (bk g3 (itC x) 42) ∧ Thg.ok _ (bk A.g (shC A.pl A.pn) 78))) rfl (P6 21 19 17 13 3 0 rfl rfl rfl rfl rfl rfl) fun a14 H14 => ?_
  clear H13
  refine a_op 2 H14 rfl rfl (by kernel_rfl) (by kernel_rfl) (by kernel_rfl) (fun _ _ _ h => h) (wn rfl) (fun w hL => R_fa H14 rfl rfl fa_sh1) ((⟨LV.has hL (by simp), LV.has hL (by simp)⟩ : Thg.ok _ (bk g3 (itC x) 42) ∧ Thg.ok _ (bk A.g (shC A.pl A.pn) 78))) rfl (P6 14 21 19 17 3 0 rfl rfl rfl rfl rfl rfl) fun a15 H15 => ?_
  clear H14
  refine a_op 3 H15 rfl rfl (by kernel_rfl) (by kernel_rfl) (by kernel_rfl) (fun _ _ _ h => h) (wn rfl) (fun w hL => R_ld H15 rfl rfl (ld_psn (okc hL.2 1))) ((⟨LV.has hL (by simp), LV.has hL (by simp)⟩ : Thg.ok _ (bk g3 (itC x) 42) ∧ Thg.ok _ (bk A.g (shC A.pl A.pn) 78))) rfl (P6 15 21 19 17 3 0 rfl rfl rfl rfl rfl rfl) fun a16 H16 => ?_
  clear H15
  refine a_all1 10 (by kernel_rfl) ?_
  refine o_call 10 H16 rfl rfl (wn rfl) (R_call4 H16 rfl rfl rfl rfl rfl (fun w => by simp [go_sem])) rfl ?_
  refine (ask_any (LV.bkS (X := [_, _, _, _, _]) hL)).mono ?_
  rintro e w17 ⟨rfl, hw⟩
  replace hL := hL.eqw hw
  clear hw
  refine ⟨_, rfl, fun a17 HH => ?_⟩
  have H17 := HH _ (P3 22 3 0 rfl rfl rfl)
  clear HH H16
  refine ⟨(⟨LV.has hL (by simp), LV.has hL (by simp)⟩ : Thg.ok _ (bk g3 (itC x) 42) ∧ Thg.ok _ (bk A.g (shC A.pl A.pn) 78)), ?_⟩
  refine a_op 11 H17 rfl rfl (by kernel_rfl) (by kernel_rfl) (by kernel_rfl) (fun _ _ _ h => h) (wn rfl) (fun w hL => R_mv H17 rfl rfl) ((⟨LV.has hL (by simp), LV.has hL (by simp)⟩ : Thg.ok _ (bk g3 (itC x) 42) ∧ Thg.ok _ (bk A.g (shC A.pl A.pn) 78))) rfl (P3 11 3 0 rfl rfl rfl) fun a18 H18 => ?_
  clear H17
  refine a_op 12 H18 rfl rfl (by kernel_rfl) (by kernel_rfl) (by kernel_rfl) (fun _ _ _ h => h) (wn rfl) (fun w hL => R_ext H18 rfl rfl rfl) ((⟨LV.has hL (by simp), LV.has hL (by simp)⟩ : Thg.ok _ (bk g3 (itC x) 42) ∧ Thg.ok _ (bk A.g (shC A.pl A.pn) 78))) rfl (P4 23 11 3 0 rfl rfl rfl rfl) fun a19 H19 => ?_
  clear H18
  refine a_op 13 H19 rfl rfl (by kernel_rfl) (by kernel_rfl) (by kernel_rfl) (fun _ _ _ h => h) (wn rfl) (fun w hL => R_ext H19 rfl rfl rfl) ((⟨LV.has hL (by simp), LV.has hL (by simp)⟩ : Thg.ok _ (bk g3 (itC x) 42) ∧ Thg.ok _ (bk A.g (shC A.pl A.pn) 78))) rfl (P4 24 23 3 0 rfl rfl rfl rfl) fun a20 H20 => ?_
  clear H19
  refine a_op 14 H20 rfl rfl (by kernel_rfl) (by kernel_rfl) (by kernel_rfl) (fun _ _ _ h => h) (wn rfl) (fun w hL => R_as H20 rfl rfl) ((⟨LV.has hL (by simp), LV.has hL (by simp)⟩ : Thg.ok _ (bk g3 (itC x) 42) ∧ Thg.ok _ (bk A.g (shC A.pl A.pn) 78))) rfl (P4 7 24 3 0 rfl rfl rfl rfl) fun a21 H21 => ?_
  clear H20
  refine a_op 15 H21 rfl rfl (by kernel_rfl) (by kernel_rfl) (by kernel_rfl) (fun _ _ _ h => h) (wn rfl) (fun w hL => R_as H21 rfl rfl) ((⟨LV.has hL (by simp), LV.has hL (by simp)⟩ : Thg.ok _ (bk g3 (itC x) 42) ∧ Thg.ok _ (bk A.g (shC A.pl A.pn) 78))) rfl (P4 8 7 3 0 rfl rfl rfl rfl) fun a22 H22 => ?_
  clear H21
  refine wpAnyH_done (by kernel_rfl) ?_ _
  obtain ⟨q, hq⟩ : ∃ q, q = askM S.lo S.cd x.src x.seq x.low := ⟨_, rfl⟩
  rw [← hq] at hy
  replace H22 := H22.pick [(7, .int .i64 q.1), (8, .int .i64 q.2), (0, _), (3, _)] (by rw [hq]; exact (P4 7 8 0 3 rfl rfl rfl rfl))
  repeat (go_not_at_region 4; go_step)
  repeat (go_not_at_region 4; go_step)
  refine wp_region_lit ?_
  refine h_op H22 rfl (wn rfl) (R_mv H22 rfl rfl) rfl (P4 25 8 0 3 rfl rfl rfl rfl) fun a23 H23 => ?_
  clear H22
  refine h_end ?_
  repeat (go_not_at_region 6; go_step)
  refine wp_region_lit ?_
  refine h_op H23 rfl (wn rfl) (R_bin H23 rfl rfl rfl (B_eq Tryz.underlying3 _ _)) rfl (P5 28 25 8 0 3 rfl rfl rfl rfl rfl) fun a24 H24 => ?_
  clear H23
  refine h_op H24 rfl (wn rfl) (R_as H24 rfl rfl) rfl (P5 27 25 8 0 3 rfl rfl rfl rfl rfl) fun a25 H25 => ?_
  clear H24
  refine h_end ?_
  by_cases h0 : q.1 = 0
  · have e1 : (q.1 == 0) = true := by rw [h0]; rfl
    rw [e1] at H25
    rw [if_pos h0] at hy
    repeat (go_not_at_region 7; go_step)
    refine wp_cond_true (H25.ev (x := .tmp 27) rfl) ?_
    repeat (go_not_at_region 7; go_step)
    refine wp_region_lit ?_
    refine h_op H25 rfl (wn rfl) (R_as H25 rfl rfl) rfl (P1 4 rfl) fun a26 H26 => ?_
    clear H25
    refine h_op H26 rfl (wn rfl) (R_as H26 rfl rfl) rfl (P2 5 4 rfl rfl) fun a27 H27 => ?_
    clear H26
    refine h_op H27 rfl (wn rfl) (R_as H27 rfl rfl) rfl (P3 6 5 4 rfl rfl rfl) fun a28 H28 => ?_
    clear H27
    refine h_end ?_
    repeat (go_not_at_region 999; go_step)
    subst hy
    exact H28.ret3 rfl rfl rfl rfl ⟨_, [], rfl, PRow.nil, hL.tail⟩
  have e1 : (q.1 == 0) = false := beq_eq_false_iff_ne.2 h0
  rw [e1] at H25
  rw [if_neg h0] at hy
  clear e1
  repeat (go_not_at_region 8; go_step)
  refine wp_cond_false (H25.ev (x := .tmp 27) rfl) ?_
  repeat (go_not_at_region 8; go_step)
  refine wp_region_lit ?_
  refine h_op H25 rfl (wn rfl) (R_bin H25 rfl rfl rfl (B_eq Tryz.underlying3 _ _)) rfl (P4 30 8 0 3 rfl rfl rfl rfl) fun a26 H26 => ?_
  clear H25
  refine h_op H26 rfl (wn rfl) (R_as H26 rfl rfl) rfl (P4 29 8 0 3 rfl rfl rfl rfl) fun a27 H27 => ?_
  clear H26
  refine h_end ?_
  by_cases h3 : q.1 = 3
  · have e1 : (q.1 == 3) = true := by rw [h3]; rfl
    rw [e1] at H27
    rw [if_pos h3] at hy
    repeat (go_not_at_region 9; go_step)
    refine wp_cond_true (H27.ev (x := .tmp 29) rfl) ?_
    repeat (go_not_at_region 9; go_step)
    refine wp_region_lit ?_
    refine h_op H27 rfl (wn rfl) (R_mv H27 rfl rfl) rfl (P3 32 0 3 rfl rfl rfl) fun a28 H28 => ?_
    clear H27
    refine h_op H28 rfl (wn rfl) (R_ld H28 rfl rfl (ld_it hL.at_)) rfl (P4 33 32 0 3 rfl rfl rfl rfl) fun a29 H29 => ?_
    clear H28
    refine h_call H29 rfl (wn rfl) (R_call2 H29 rfl rfl rfl (fun w => by simp [go_sem])) rfl ?_
    refine (does_any hL.boxI hks hn).mono ?_
    rintro e w30 ⟨vd, Xd, rfl, hrd, hL2⟩
    clear hL
    have hL := hL2.boxOX
    clear hL2
    refine ⟨_, rfl, fun a30 HH => ?_⟩
    have H30 := HH _ (P3 34 0 3 rfl rfl rfl)
    clear HH H29
    refine h_op H30 rfl (wn rfl) (R_mv H30 rfl rfl) rfl (P3 31 0 3 rfl rfl rfl) fun a31 H31 => ?_
    clear H30
    refine h_op H31 rfl (wn rfl) (R_ext H31 rfl rfl rfl) rfl (P4 35 31 0 3 rfl rfl rfl rfl) fun a32 H32 => ?_
    clear H31
    refine h_op H32 rfl (wn rfl) (R_ext H32 rfl rfl rfl) rfl (P4 36 35 0 3 rfl rfl rfl rfl) fun a33 H33 => ?_
    clear H32
    refine h_op H33 rfl (wn rfl) (R_as H33 rfl rfl) rfl (P4 4 36 0 3 rfl rfl rfl rfl) fun a34 H34 => ?_
    clear H33
    refine h_op H34 rfl (wn rfl) (R_as H34 rfl rfl) rfl (P4 5 4 0 3 rfl rfl rfl rfl) fun a35 H35 => ?_
    clear H34
    refine h_end ?_
    repeat (go_not_at_region 10; go_step)
    refine wp_region_held_drew (S := fun w' => Thg.ok w' (bk g3 (itC x) 42) ∧ Thg.ok w' (bk A.g (shC A.pl A.pn) 78)) (by kernel_rfl) ((⟨LV.has hL.drew (by simp), LV.has hL.drew (by simp)⟩ : Thg.ok _ (bk g3 (itC x) 42) ∧ Thg.ok _ (bk A.g (shC A.pl A.pn) 78))) (fun _ => ?_)
    replace hL := hL.drew
    refine a_op 0 H35 rfl rfl (by kernel_rfl) (by kernel_rfl) (by kernel_rfl) (fun _ _ _ h => h) (wn rfl) (fun w hL => R_mv H35 rfl rfl) ((⟨LV.has hL (by simp), LV.has hL (by simp)⟩ : Thg.ok _ (bk g3 (itC x) 42) ∧ Thg.ok _ (bk A.g (shC A.pl A.pn) 78))) rfl (P4 37 5 4 3 rfl rfl rfl rfl) fun a36 H36 => ?_
    clear H35
    refine a_op 4 H36 rfl rfl (by kernel_rfl) (by kernel_rfl) (by kernel_rfl) (fun _ _ _ h => h) (wn rfl) (fun w hL => R_fa H36 rfl rfl (fi_k (by decide))) ((⟨LV.has hL (by simp), LV.has hL (by simp)⟩ : Thg.ok _ (bk g3 (itC x) 42) ∧ Thg.ok _ (bk A.g (shC A.pl A.pn) 78))) rfl (P5 41 37 5 4 3 rfl rfl rfl rfl rfl) fun a37 H37 => ?_
    clear H36
    refine a_op 6 H37 rfl rfl (by kernel_rfl) (by kernel_rfl) (by kernel_rfl) (fun _ _ _ h => h) (wn rfl) (fun w hL => R_fa H37 rfl rfl (fi_k (by decide))) ((⟨LV.has hL (by simp), LV.has hL (by simp)⟩ : Thg.ok _ (bk g3 (itC x) 42) ∧ Thg.ok _ (bk A.g (shC A.pl A.pn) 78))) rfl (P6 43 41 37 5 4 3 rfl rfl rfl rfl rfl rfl) fun a38 H38 => ?_
    clear H37
    refine a_op 8 H38 rfl rfl (by kernel_rfl) (by kernel_rfl) (by kernel_rfl) (fun _ _ _ h => h) (wn rfl) (fun w hL => R_fa H38 rfl rfl (fi_k (by decide))) ((⟨LV.has hL (by simp), LV.has hL (by simp)⟩ : Thg.ok _ (bk g3 (itC x) 42) ∧ Thg.ok _ (bk A.g (shC A.pl A.pn) 78))) rfl (P6 45 43 41 37 5 4 rfl rfl rfl rfl rfl rfl) fun a39 H39 => ?_
    clear H38
    refine a_op 10 H39 rfl rfl (by kernel_rfl) (by kernel_rfl) (by kernel_rfl) (fun _ _ _ h => h) (wn rfl) (fun w hL => R_mv H39 rfl rfl) ((⟨LV.has hL (by simp), LV.has hL (by simp)⟩ : Thg.ok _ (bk g3 (itC x) 42) ∧ Thg.ok _ (bk A.g (shC A.pl A.pn) 78))) rfl (P7 47 45 43 41 37 5 4 rfl rfl rfl rfl rfl rfl rfl) fun a40 H40 => ?_
    clear H39
    refine a_op 1 H40 rfl rfl (by kernel_rfl) (by kernel_rfl) (by kernel_rfl) (fun _ _ _ h => h) (wn rfl) (fun w hL => R_nc H40 rfl rfl) ((⟨LV.has hL (by simp), LV.has hL (by simp)⟩ : Thg.ok _ (bk g3 (itC x) 42) ∧ Thg.ok _ (bk A.g (shC A.pl A.pn) 78))) rfl (P7 38 47 45 43 41 5 4 rfl rfl rfl rfl rfl rfl rfl) fun a41 H41 => ?_
    clear H40
    refine a_op 5 H41 rfl rfl (by kernel_rfl) (by kernel_rfl) (by kernel_rfl) (fun _ _ _ h => h) (wn rfl) (fun w hL => R_ld H41 rfl rfl (ld_inn (okc hL.1 0))) ((⟨LV.has hL (by simp), LV.has hL (by simp)⟩ : Thg.ok _ (bk g3 (itC x) 42) ∧ Thg.ok _ (bk A.g (shC A.pl A.pn) 78))) rfl (P7 42 38 47 45 43 5 4 rfl rfl rfl rfl rfl rfl rfl) fun a42 H42 => ?_
    clear H41
    refine a_op 7 H42 rfl rfl (by kernel_rfl) (by kernel_rfl) (by kernel_rfl) (fun _ _ _ h => h) (wn rfl) (fun w hL => R_ld H42 rfl rfl (ld_inn (okc hL.1 1))) ((⟨LV.has hL (by simp), LV.has hL (by simp)⟩ : Thg.ok _ (bk g3 (itC x) 42) ∧ Thg.ok _ (bk A.g (shC A.pl A.pn) 78))) rfl (P7 44 42 38 47 45 5 4 rfl rfl rfl rfl rfl rfl rfl) fun a43 H43 => ?_
    clear H42
    refine a_op 9 H43 rfl rfl (by kernel_rfl) (by kernel_rfl) (by kernel_rfl) (fun _ _ _ h => h) (wn rfl) (fun w hL => R_ld H43 rfl rfl (ld_inn (okc hL.1 2))) ((⟨LV.has hL (by simp), LV.has hL (by simp)⟩ : Thg.ok _ (bk g3 (itC x) 42) ∧ Thg.ok _ (bk A.g (shC A.pl A.pn) 78))) rfl (P7 46 44 42 38 47 5 4 rfl rfl rfl rfl rfl rfl rfl) fun a44 H44 => ?_
    clear H43
    refine a_op 2 H44 rfl rfl (by kernel_rfl) (by kernel_rfl) (by kernel_rfl) (fun _ _ _ h => h) (wn rfl) (fun w hL => R_fa H44 rfl rfl fa_sh1) ((⟨LV.has hL (by simp), LV.has hL (by simp)⟩ : Thg.ok _ (bk g3 (itC x) 42) ∧ Thg.ok _ (bk A.g (shC A.pl A.pn) 78))) rfl (P7 39 46 44 42 47 5 4 rfl rfl rfl rfl rfl rfl rfl) fun a45 H45 => ?_
    clear H44
    refine a_op 3 H45 rfl rfl (by kernel_rfl) (by kernel_rfl) (by kernel_rfl) (fun _ _ _ h => h) (wn rfl) (fun w hL => R_ld H45 rfl rfl (ld_psn (okc hL.2 1))) ((⟨LV.has hL (by simp), LV.has hL (by simp)⟩ : Thg.ok _ (bk g3 (itC x) 42) ∧ Thg.ok _ (bk A.g (shC A.pl A.pn) 78))) rfl (P7 40 46 44 42 47 5 4 rfl rfl rfl rfl rfl rfl rfl) fun a46 H46 => ?_
    clear H45
    refine a_all1 11 (by kernel_rfl) ?_
    refine o_call 11 H46 rfl rfl (wn rfl) (R_call5 H46 rfl rfl rfl rfl rfl rfl (fun w => by simp [go_sem])) rfl ?_
    refine (note_any (n := (doM S x).1) (LV.stN (X := bk g3 (itC x) 42 :: Xd) hL) (by rw [doM_cd]; intro i; have := hc i; omega)).mono ?_
    rintro e w47 ⟨rfl, hL2⟩
    clear hL
    have hL := LV.stB (S := noteSt (doM S x).2.2 x (doM S x).1) (X := bk g3 (itC x) 42 :: Xd) hL2
    clear hL2
    refine ⟨_, rfl, fun a47 HH => ?_⟩
    have H47 := HH _ (P2 5 4 rfl rfl)
    clear HH H46
    refine ⟨(⟨LV.has hL (by simp), LV.has hL (by simp)⟩ : Thg.ok _ (bk g3 (itC x) 42) ∧ Thg.ok _ (bk A.g (shC A.pl A.pn) 78)), ?_⟩
    refine wpAnyH_done (by kernel_rfl) ?_ _
    repeat (go_not_at_region 11; go_step)
    refine wp_region_lit ?_
    refine h_op H47 rfl (wn rfl) (R_mv H47 rfl rfl) rfl (P3 49 4 5 rfl rfl rfl) fun a48 H48 => ?_
    clear H47
    refine h_op H48 rfl (wn rfl) (R_mv H48 rfl rfl) rfl (P4 50 49 4 5 rfl rfl rfl rfl) fun a49 H49 => ?_
    clear H48
    refine h_op H49 rfl (wn rfl) (R_as H49 rfl rfl) rfl (P3 4 50 5 rfl rfl rfl) fun a50 H50 => ?_
    clear H49
    refine h_op H50 rfl (wn rfl) (R_as H50 rfl rfl) rfl (P2 5 4 rfl rfl) fun a51 H51 => ?_
    clear H50
    refine h_op H51 rfl (wn rfl) (R_as H51 rfl rfl) rfl (P3 6 5 4 rfl rfl rfl) fun a52 H52 => ?_
    clear H51
    refine h_end ?_
    repeat (go_not_at_region 999; go_step)
    subst hy
    exact H52.ret3 rfl rfl rfl rfl ⟨_, Xd, rfl, hrd, hL.tail⟩
  have e1 : (q.1 == 3) = false := beq_eq_false_iff_ne.2 h3
  rw [e1] at H27
  rw [if_neg h3] at hy
  clear e1
  repeat (go_not_at_region 5; go_step)
  refine wp_cond_false (H27.ev (x := .tmp 29) rfl) ?_
  repeat (go_not_at_region 5; go_step)
  refine wp_region_lit ?_
  refine h_op H27 rfl (wn rfl) (R_mv H27 rfl rfl) rfl (P1 26 rfl) fun a28 H28 => ?_
  clear H27
  refine h_op H28 rfl (wn rfl) (R_as H28 rfl rfl) rfl (P1 4 rfl) fun a29 H29 => ?_
  clear H28
  refine h_op H29 rfl (wn rfl) (R_as H29 rfl rfl) rfl (P2 5 4 rfl rfl) fun a30 H30 => ?_
  clear H29
  refine h_op H30 rfl (wn rfl) (R_as H30 rfl rfl) rfl (P3 6 5 4 rfl rfl rfl) fun a31 H31 => ?_
  clear H30
  refine h_end ?_
  repeat (go_not_at_region 999; go_step)
  subst hy
  exact H31.ret3 rfl rfl rfl rfl ⟨_, [], rfl, PRow.nil, hL.tail⟩
/-- A state of nothing. -/
def newM : PSt := ⟨[], 0, fun _ => 1, fun _ => []⟩
theorem bd_sh {pl pn : Nat} : (Instr.build 78 #[(0, .pointer (some ⟨pl, 0, none⟩)), (1, .pointer (some ⟨pn, 0, none⟩))]).run Tryz.prog w = .ok (.agg (shC pl pn)) w := by
  simp [go_sem]
theorem bx_sh {pl pn : Nat} : (Instr.box 78 (.agg (shC pl pn))).run Tryz.prog w = .ok (.pointer (some ⟨w.heap.size, 0, none⟩)) (w.alloc (.cells (shC pl pn) 78)) := by
  simp [go_sem]
theorem LV.mkS {pl ps b pn g : Nat} {bs : Nat → Nat} (h : LV w0 (bk g (shC pl pn) 78 :: bk pn (snC (fun _ => 1) bs) 115 :: (snT bs (fun _ => []) ++ (bk pl (lnC ps 0) 111 :: bk ps (stC b) 151 :: mw b [] :: L))) w) : LV w0 (stT ⟨g, pl, ps, b, pn, bs⟩ newM L) w :=
  h.perm ((List.perm_append_comm_assoc (bk pn (snC (fun _ => 1) bs) 115 :: snT bs (fun _ => [])) [bk pl (lnC ps 0) 111, bk ps (stC b) 151, mw b []] L).cons _)
theorem shnew_any (hL : LV w0 L W) : Calls Tryz.prog 11 #[] W fun e W' => ∃ A : Adr, e = .returned (.pointer (some ⟨A.g, 0, none⟩)) ∧ LV w0 (stT A newM L) W' := by
  go_enter Tryz.func11, Tryz.ntmps11
  refine wp_fr (n := 5) (m := []) ⟨rfl, rfl, by intro p hp; cases hp⟩ fun a0 H0 => ?_
  repeat (go_not_at_region 0; go_step)
  refine wp_region_lit ?_
  refine h_op H0 rfl (wn rfl) (R_as H0 rfl rfl) rfl .nil fun a1 H1 => ?_
  clear H0
  refine h_end ?_
  repeat (go_not_at_region 1; go_step)
  refine wp_region_lit ?_
  refine h_call H1 rfl (wn rfl) (R_call0 H1 rfl (fun w => by simp [go_sem])) rfl ?_
  refine (lnew_any hL).mono ?_
  rintro e w2 ⟨pl, ps, b, rfl, hL2⟩
  clear hL
  have hL := hL2
  clear hL2
  refine ⟨_, rfl, fun a2 HH => ?_⟩
  have H2 := HH _ (P1 1 rfl)
  clear HH H1
  refine h_call H2 rfl (wn rfl) (R_call0 H2 rfl (fun w => by simp [go_sem])) rfl ?_
  refine (snew_any hL).mono ?_
  rintro e w3 ⟨pn, bs, rfl, hL2⟩
  clear hL
  have hL := hL2
  clear hL2
  refine ⟨_, rfl, fun a3 HH => ?_⟩
  have H3 := HH _ (P2 2 1 rfl rfl)
  clear HH H2
  refine h_op H3 rfl (wn rfl) (R_bd2 H3 rfl rfl rfl bd_sh) rfl (P1 3 rfl) fun a4 H4 => ?_
  clear H3
  refine h_opS (bk w3.heap.size (shC pl pn) 78 :: (bk pn (snC (fun _ => 1) bs) 115 :: (snT bs (fun _ => []) ++ (bk pl (lnC ps 0) 111 :: bk ps (stC b) 151 :: mw b [] :: L)))) H4 rfl (wn rfl) (R_box H4 rfl rfl bx_sh) (hL.alloc _ _) rfl (P1 4 rfl) fun a5 w5 H5 hL' => ?_
  replace hL := hL'
  clear H4 hL'
  refine h_op H5 rfl (wn rfl) (R_as H5 rfl rfl) rfl (P1 0 rfl) fun a6 H6 => ?_
  clear H5
  refine h_end ?_
  repeat (go_not_at_region 999; go_step)
  exact H6.ret1 rfl rfl ⟨⟨_, pl, ps, b, pn, bs⟩, rfl, hL.mkS⟩
set_option maxRecDepth 100000 in
theorem shmark_any (hL : LV w0 (stT A S L) W) : Calls Tryz.prog 25 #[.pointer (some ⟨A.g, 0, none⟩)] W fun e W' => e = .returned (.int .i64 S.mark) ∧ LV w0 (stT A S L) W' := by
  go_enter Tryz.func25, Tryz.ntmps25
  refine wp_fr (n := 10) (m := [(0, _)]) ⟨rfl, rfl, by intro p hp; simp only [List.mem_cons, List.not_mem_nil, or_false] at hp; rcases hp with rfl <;> rfl⟩ fun a0 H0 => ?_
  repeat (go_not_at_region 0; go_step)
  refine wp_region_lit ?_
  refine h_op H0 rfl (wn rfl) (R_as H0 rfl rfl) rfl (P1 0 rfl) fun a1 H1 => ?_
  clear H0
  refine h_end ?_
  repeat (go_not_at_region 1; go_step)
  refine wp_region_lit ?_
  refine h_op H1 rfl (wn rfl) (R_mv H1 rfl rfl) rfl (P2 3 0 rfl rfl) fun a2 H2 => ?_
  clear H1
  refine h_call H2 rfl (wn rfl) (R_call1 H2 rfl rfl (fun w => by simp [go_sem])) rfl ?_
  refine (shnone_any hL.at_).mono ?_
  rintro e w3 ⟨rfl, hw⟩
  replace hL := hL.eqw hw
  clear hw
  refine ⟨_, rfl, fun a3 HH => ?_⟩
  have H3 := HH _ (P2 4 0 rfl rfl)
  clear HH H2
  refine h_end ?_
  repeat (go_not_at_region 3; go_step)
  refine wp_cond_false (H3.ev (x := .tmp 4) rfl) ?_
  repeat (go_not_at_region 3; go_step)
  refine wp_region_lit ?_
  refine h_op H3 rfl (wn rfl) (R_mv H3 rfl rfl) rfl (P1 5 rfl) fun a4 H4 => ?_
  clear H3
  refine h_op H4 rfl (wn rfl) (R_nc H4 rfl rfl) rfl (P1 6 rfl) fun a5 H5 => ?_
  clear H4
  refine h_op H5 rfl (wn rfl) (R_fa H5 rfl rfl fa_sh0) rfl (P1 7 rfl) fun a6 H6 => ?_
  clear H5
  refine h_op H6 rfl (wn rfl) (R_ld H6 rfl rfl (ld_pln (hL.cell 0))) rfl (P1 8 rfl) fun a7 H7 => ?_
  clear H6
  refine h_call H7 rfl (wn rfl) (R_call1 H7 rfl rfl (fun w => by simp [go_sem])) rfl ?_
  refine (lat_any hL.tail.at_).mono ?_
  rintro e w8 ⟨rfl, hw⟩
  replace hL := hL.eqw hw
  clear hw
  refine ⟨_, rfl, fun a8 HH => ?_⟩
  have H8 := HH _ (P1 9 rfl)
  clear HH H7
  refine h_op H8 rfl (wn rfl) (R_as H8 rfl rfl) rfl (P1 2 rfl) fun a9 H9 => ?_
  clear H8
  refine h_end ?_
  repeat (go_not_at_region 999; go_step)
  exact H9.ret1 rfl rfl ⟨rfl, hL⟩
set_option maxRecDepth 100000 in
theorem shopen_any (hL : LV w0 (stT A S L) W) (hn : S.M.length < 100000) : Calls Tryz.prog 28 #[.pointer (some ⟨A.g, 0, none⟩)] W fun e W' => ∃ v X, e = .returned v ∧ PRow 57 10 v S.M.length (outF S.M) X ∧ LV w0 (X ++ stT A S L) W' := by
  go_enter Tryz.func28, Tryz.ntmps28
  refine wp_fr (n := 10) (m := [(0, _)]) ⟨rfl, rfl, by intro p hp; simp only [List.mem_cons, List.not_mem_nil, or_false] at hp; rcases hp with rfl <;> rfl⟩ fun a0 H0 => ?_
  repeat (go_not_at_region 0; go_step)
  refine wp_region_lit ?_
  refine h_op H0 rfl (wn rfl) (R_as H0 rfl rfl) rfl (P1 0 rfl) fun a1 H1 => ?_
  clear H0
  refine h_end ?_
  repeat (go_not_at_region 1; go_step)
  refine wp_region_lit ?_
  refine h_op H1 rfl (wn rfl) (R_mv H1 rfl rfl) rfl (P2 3 0 rfl rfl) fun a2 H2 => ?_
  clear H1
  refine h_call H2 rfl (wn rfl) (R_call1 H2 rfl rfl (fun w => by simp [go_sem])) rfl ?_
  refine (shnone_any hL.at_).mono ?_
  rintro e w3 ⟨rfl, hw⟩
  replace hL := hL.eqw hw
  clear hw
  refine ⟨_, rfl, fun a3 HH => ?_⟩
  have H3 := HH _ (P2 4 0 rfl rfl)
  clear HH H2
  refine h_end ?_
  repeat (go_not_at_region 3; go_step)
  refine wp_cond_false (H3.ev (x := .tmp 4) rfl) ?_
  repeat (go_not_at_region 3; go_step)
  refine wp_region_lit ?_
  refine h_op H3 rfl (wn rfl) (R_mv H3 rfl rfl) rfl (P1 5 rfl) fun a4 H4 => ?_
  clear H3
  refine h_op H4 rfl (wn rfl) (R_nc H4 rfl rfl) rfl (P1 6 rfl) fun a5 H5 => ?_
  clear H4
  refine h_op H5 rfl (wn rfl) (R_fa H5 rfl rfl fa_sh0) rfl (P1 7 rfl) fun a6 H6 => ?_
  clear H5
  refine h_op H6 rfl (wn rfl) (R_ld H6 rfl rfl (ld_pln (hL.cell 0))) rfl (P1 8 rfl) fun a7 H7 => ?_
  clear H6
  refine h_call H7 rfl (wn rfl) (R_call1 H7 rfl rfl (fun w => by simp [go_sem])) rfl ?_
  refine (lopen_any (LV.bk3 (X := [_]) hL) hn).mono ?_
  rintro e w8 ⟨vo, Xo, rfl, hro, hL2⟩
  clear hL
  have hL := hL2.inX (Y := [bk A.g (shC A.pl A.pn) 78])
  clear hL2
  refine ⟨_, rfl, fun a8 HH => ?_⟩
  have H8 := HH _ (P1 9 rfl)
  clear HH H7
  refine h_op H8 rfl (wn rfl) (R_as H8 rfl rfl) rfl (P1 2 rfl) fun a9 H9 => ?_
  clear H8
  refine h_end ?_
  repeat (go_not_at_region 999; go_step)
  exact H9.ret1 rfl rfl ⟨_, Xo, rfl, hro, hL⟩
end
end Go.Proofs.YtnjfjdfjheiocaaGreat
