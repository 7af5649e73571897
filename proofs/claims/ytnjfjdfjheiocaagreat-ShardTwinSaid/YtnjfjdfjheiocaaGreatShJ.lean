/-
  store.All.
-/
import Derived.Test.YtnjfjdfjheiocaaGreatShI
set_option linter.unusedSimpArgs false
set_option linter.unusedVariables false
namespace Go.Proofs.YtnjfjdfjheiocaaGreat
open Go.RowKit
section
variable {w0 W W' w : World} {L R X : List Thg} {M Z : Wins} {b ps : Nat} {a c d e f : Thg} {v : Value}
theorem LV.fr1 (h : LV w0 (a :: (X ++ R)) w) : LV w0 (X ++ (a :: R)) w := h.perm (List.perm_append_comm_assoc [a] X R)
theorem LV.bk1 (h : LV w0 (X ++ (a :: R)) w) : LV w0 (a :: (X ++ R)) w := h.perm (List.perm_append_comm_assoc X [a] R)
theorem LV.fr2 (h : LV w0 (a :: c :: (X ++ R)) w) : LV w0 (X ++ (a :: c :: R)) w := h.perm (List.perm_append_comm_assoc [a, c] X R)
theorem LV.bk2 (h : LV w0 (X ++ (a :: c :: R)) w) : LV w0 (a :: c :: (X ++ R)) w := h.perm (List.perm_append_comm_assoc X [a, c] R)
theorem LV.fr3 (h : LV w0 (a :: c :: d :: (X ++ R)) w) : LV w0 (X ++ (a :: c :: d :: R)) w := h.perm (List.perm_append_comm_assoc [a, c, d] X R)
theorem LV.bk3 (h : LV w0 (X ++ (a :: c :: d :: R)) w) : LV w0 (a :: c :: d :: (X ++ R)) w := h.perm (List.perm_append_comm_assoc X [a, c, d] R)
theorem nd_len {α : Type} [DecidableEq α] : ∀ (Z M : List α), Z.Nodup → (∀ p ∈ Z, p ∈ M) → Z.length ≤ M.length
  | [], _, _, _ => Nat.zero_le _
  | z :: r, M, hn, hs => by
    obtain ⟨h1, h2⟩ := List.nodup_cons.1 hn
    have hm : z ∈ M := hs z List.mem_cons_self
    have h3 := nd_len r (M.erase z) h2 fun p hp => (List.mem_erase_of_ne (fun e => h1 (by rw [← e]; exact hp))).2 (hs p (List.mem_cons_of_mem _ hp))
    rw [List.length_erase_of_mem hm] at h3
    have h4 := List.length_pos_of_mem hm
    simp only [List.length_cons]
    omega
theorem LV.bk1' {p q : Thg} (h : LV w0 (p :: (X ++ (q :: R))) w) : LV w0 (X ++ (q :: p :: R)) w := h.fr1.perm (List.Perm.append_left X (.swap _ _ _))
theorem B_pst {A B : Operand} {a : Addr} : ((do eqGuard .eql 108 A B (.pointer (some a)) (.pointer none); binOp .eql 108 (.pointer (some a)) (.pointer none)) : Sem Value).run Tryz.prog w = .ok (.bool false) w := by simp [go_sem]
theorem bd_out {s : ByteArray} {t : Int} {x : A8} : (Instr.build 57 #[(0, .string s), (1, .int .i64 t), (2, .agg x.arr)]).run Tryz.prog w = .ok (.agg (outA ((t, s), x))) w := by
  unfold A8.arr outA outE
  simp [go_sem]
theorem bs_out {p : Win × A8} : (Instr.buildSlice 27 1 #[(0, .agg (outA p))]).run Tryz.prog w = .ok (.slice (some ⟨w.heap.size, 0, none⟩) 1 1) (w.alloc (.cells (outA p) 57)) := by
  unfold outA outE
  simp [go_sem]
theorem infoOut : (Tryz.prog.info? 57).map (fun i => (i.zero, i.size, i.bytes)) = some (some (.agg #[.string .empty, .int .i64 0, .int .i64 0, .int .i64 0, .int .i64 0, .int .i64 0, .int .i64 0, .int .i64 0, .int .i64 0, .int .i64 0]), 10, 88) := by kernel_rfl
theorem outE_one (p : Win × A8) : ∀ u ∈ outE p, u.oneCell' = true := fun u hu => by
  simp only [outE, List.mem_cons, List.not_mem_nil, or_false] at hu
  rcases hu with rfl | rfl | rfl | rfl | rfl | rfl | rfl | rfl | rfl | rfl <;> rfl
theorem WinAt.rise (h : WinAt W b M) : Rise M := by
  obtain ⟨D, hD, _⟩ := h
  exact hD.rise
theorem WinAt.kok (h : WinAt W b M) : ∀ p ∈ M, KOk p.1 := by
  obtain ⟨D, hD, _⟩ := h
  exact hD.ok
set_option maxRecDepth 100000 in
theorem all_any (hL : LV w0 (bk ps (stC b) 151 :: mw b M :: L) W) (hn : M.length < 100000) : Calls Tryz.prog 85 #[.pointer (some ⟨ps, 0, none⟩)] W fun e W' => ∃ v X, e = .returned v ∧ PRow 57 10 v M.length (outF M) X ∧ LV w0 (X ++ (bk ps (stC b) 151 :: mw b M :: L)) W' := by
  obtain ⟨i0, hi, hz0, hz1, hz2⟩ := info_parts infoOut
  have hM : Rise M := (hL.tail.mem_win (M := M) List.mem_cons_self).rise
  go_enter Tryz.func85, Tryz.ntmps85
  refine wp_fr (n := 30) (m := [(0, _)]) ⟨rfl, rfl, by intro p hp; simp only [List.mem_cons, List.not_mem_nil, or_false] at hp; rcases hp with rfl <;> rfl⟩ fun a0 H0 => ?_
  repeat (go_not_at_region 0; go_step)
  refine wp_region_lit ?_
  refine h_op H0 rfl (wn rfl) (R_as H0 rfl rfl) rfl (P1 0 rfl) fun a1 H1 => ?_
  clear H0
  refine h_end ?_
  repeat (go_not_at_region 1; go_step)
  refine wp_region_lit ?_
  refine h_op H1 rfl (wn rfl) (R_mv H1 rfl rfl) rfl (P2 6 0 rfl rfl) fun a2 H2 => ?_
  clear H1
  refine h_op H2 rfl (wn rfl) (R_bin H2 rfl rfl rfl B_pst) rfl (P2 7 0 rfl rfl) fun a3 H3 => ?_
  clear H2
  refine h_end ?_
  repeat (go_not_at_region 3; go_step)
  refine wp_cond_false (H3.ev (x := .tmp 7) rfl) ?_
  repeat (go_not_at_region 3; go_step)
  refine wp_region_lit ?_
  refine h_op H3 rfl (wn rfl) (R_as H3 rfl rfl) rfl (P2 3 0 rfl rfl) fun a4 H4 => ?_
  clear H3
  refine h_end ?_
  repeat (go_not_at_region 4; go_step)
  refine wp_region_lit ?_
  refine h_op H4 rfl (wn rfl) (R_mv H4 rfl rfl) rfl (P2 8 3 rfl rfl) fun a5 H5 => ?_
  clear H4
  refine h_op H5 rfl (wn rfl) (R_nc H5 rfl rfl) rfl (P2 9 3 rfl rfl) fun a6 H6 => ?_
  clear H5
  refine h_op H6 rfl (wn rfl) (R_fa H6 rfl rfl fa_st0) rfl (P2 10 3 rfl rfl) fun a7 H7 => ?_
  clear H6
  refine h_op H7 rfl (wn rfl) (R_ld H7 rfl rfl (ld_mpw (hL.cell 0))) rfl (P2 11 3 rfl rfl) fun a8 H8 => ?_
  clear H7
  obtain ⟨W1, mo, it0, cnt0, hrun, hLn, hR⟩ := rng_start hL.swap
  refine h_opS (ob W.heap.size it0 :: ob b mo :: bk ps (stC b) 151 :: L) H8 rfl (wn rfl) (R_rg H8 rfl rfl hrun) (hLn) rfl (P2 12 3 rfl rfl) fun a9 w9 H9 hL' => ?_
  replace hL := hL'
  clear H8 hL'
  refine h_end ?_
  obtain ⟨gr, hgr⟩ : ∃ g, g = W.heap.size := ⟨_, rfl⟩
  rw [← hgr] at H9 hL hR
  clear hgr
  repeat (go_not_at_region 5; go_step)
  obtain ⟨I, hI⟩ : ∃ I : Nat → Act → World → Prop, ∀ n a' w', I n a' w' ↔ ∃ (Z : Wins) (it : Obj) (cnt : Nat) (vl : Value) (X : List Thg), n = cnt ∧ Fr a' 30 [(3, vl), (12, .pointer (some ⟨gr, 0, none⟩))] ∧ PRow 57 10 vl Z.length (outF Z) X ∧ LV w0 (X ++ (ob gr it :: ob b mo :: bk ps (stC b) 151 :: L)) w' ∧ Rng M b gr mo it Z cnt := ⟨_, fun _ _ _ => Iff.rfl⟩
  have HI := Lib.hid hI
  clear hI
  refine wp_loop_ghost I cnt0 ((HI.out _ _ _).2 ⟨[], it0, cnt0, _, [], rfl, H9.pick _ (P2 3 12 rfl rfl), PRow.nil, hL, hR⟩) ?_
  clear hL hR H9
  intro n a1 wl hi'
  obtain ⟨Z, it, cnt, vl, X, rfl, H0, hr, hL, hR⟩ := (HI.out _ _ _).1 hi'
  clear hi'
  have hZ : Z.length ≤ M.length := by
    obtain ⟨_, _, _, _, _, _, h5, h6⟩ := hR
    exact nd_len _ _ h5 h6
  rcases rng_next hL.bk2 hR 0 with ⟨hc0, hzm, hrun⟩ | ⟨p, W1, it', cnt', hp, hpZ, hrun, hLn, hR', hlt, hen⟩
  · repeat (go_not_at_region 5; go_step)
    repeat (go_not_at_region 5; go_step)
    refine wp_region_lit ?_
    refine h_op H0 rfl (wn rfl) (R_nx H0 rfl rfl hrun) rfl (P2 13 3 rfl rfl) fun a1 H1 => ?_
    clear H0
    refine h_op H1 rfl (wn rfl) (R_ext H1 rfl rfl rfl) rfl (P2 14 3 rfl rfl) fun a2 H2 => ?_
    clear H1
    refine h_end ?_
    repeat (go_not_at_region 8; go_step)
    refine wp_cond_false (H2.ev (x := .tmp 14) rfl) ?_
    repeat (go_not_at_region 8; go_step)
    refine wp_region_lit ?_
    refine h_op H2 rfl (wn rfl) (R_mv H2 rfl rfl) rfl (P2 27 3 rfl rfl) fun a3 H3 => ?_
    clear H2
    refine h_call H3 rfl (wn rfl) (R_call2 H3 rfl rfl rfl (fun w => by simp [go_sem])) rfl ?_
    have hL1 := rng_end hL.bk2 hR
    have hL2 := (hL1.bk1' : LV w0 (X ++ (bk ps (stC b) 151 :: mw b M :: L)) wl)
    refine (sorto_any hr hL2 hzm hM (by omega)).mono ?_
    rintro e w4 ⟨rfl, X2, hr2, hL3⟩
    clear hL hL1 hL2 hr
    refine ⟨_, rfl, fun a4 HH => ?_⟩
    have H4 := HH _ (P1 3 rfl)
    clear HH H3
    refine h_end ?_
    repeat (go_not_at_region 9; go_step)
    refine wp_region_lit ?_
    refine h_op H4 rfl (wn rfl) (R_mv H4 rfl rfl) rfl (P1 29 rfl) fun a5 H5 => ?_
    clear H4
    refine h_op H5 rfl (wn rfl) (R_as H5 rfl rfl) rfl (P1 2 rfl) fun a6 H6 => ?_
    clear H5
    refine h_end ?_
    repeat (go_not_at_region 999; go_step)
    exact H6.ret1 rfl rfl ⟨_, X2, rfl, hr2, hL3⟩
  · repeat (go_not_at_region 5; go_step)
    repeat (go_not_at_region 5; go_step)
    refine wp_region_lit ?_
    refine h_op H0 rfl (wn rfl) (R_nx H0 rfl rfl hrun) rfl (P3 13 3 12 rfl rfl rfl) fun a1 H1 => ?_
    clear H0
    refine h_op H1 rfl (wn rfl) (R_ext H1 rfl rfl rfl) rfl (P3 14 3 12 rfl rfl rfl) fun a2 H2 => ?_
    clear H1
    refine h_end ?_
    replace hL := hLn.fr2
    clear hLn
    repeat (go_not_at_region 6; go_step)
    refine wp_cond_true (H2.ev (x := .tmp 14) rfl) ?_
    repeat (go_not_at_region 6; go_step)
    refine wp_region_lit ?_
    refine h_op H2 rfl (wn rfl) (R_en H2 rfl rfl hen) rfl (P3 15 3 12 rfl rfl rfl) fun a3 H3 => ?_
    clear H2
    refine h_op H3 rfl (wn rfl) (R_ext H3 rfl rfl rfl) rfl (P4 16 15 3 12 rfl rfl rfl rfl) fun a4 H4 => ?_
    clear H3
    refine h_op H4 rfl (wn rfl) (R_ext H4 rfl rfl rfl) rfl (P4 17 16 3 12 rfl rfl rfl rfl) fun a5 H5 => ?_
    clear H4
    refine h_opS (bk W1.heap.size #[.int .i64 0, .string .empty] 162 :: (X ++ (ob gr it' :: ob b mo :: bk ps (stC b) 151 :: L))) H5 rfl (wn rfl) (R_alloc rfl al_win) (hL.alloc _ _) rfl (P5 4 17 16 3 12 rfl rfl rfl rfl rfl) fun a6 w6 H6 hL' => ?_
    replace hL := hL'
    clear H5 hL'
    refine h_opS (bk w6.heap.size A8.zero.arr 55 :: bk W1.heap.size #[.int .i64 0, .string .empty] 162 :: (X ++ (ob gr it' :: ob b mo :: bk ps (stC b) 151 :: L))) H6 rfl (wn rfl) (R_alloc rfl al_agg) (hL.alloc _ _) rfl (P6 5 4 17 16 3 12 rfl rfl rfl rfl rfl rfl) fun a7 w7 H7 hL' => ?_
    replace hL := hL'
    clear H6 hL'
    refine h_stS (bk w6.heap.size A8.zero.arr 55 :: bk W1.heap.size #[.int .i64 p.1.1, .string p.1.2] 162 :: (X ++ (ob gr it' :: ob b mo :: bk ps (stC b) 151 :: L))) H7 rfl (wn rfl) (R_st H7 rfl rfl rfl (st_win (k' := (0, .empty)) (k := p.1) hL.tail.at_)) ((hL.swap.row _).swap) fun a8 w8 H8 hL' => ?_
    replace hL := hL'
    clear H7 hL'
    refine h_stS (bk w6.heap.size p.2.arr 55 :: bk W1.heap.size #[.int .i64 p.1.1, .string p.1.2] 162 :: (X ++ (ob gr it' :: ob b mo :: bk ps (stC b) 151 :: L))) H8 rfl (wn rfl) (R_st H8 rfl rfl rfl (st_agg (a := p.2) hL.at_)) (hL.row _) fun a9 w9 H9 hL' => ?_
    replace hL := hL'
    clear H8 hL'
    refine h_end ?_
    obtain ⟨g4, hg4⟩ : ∃ g, g = W1.heap.size := ⟨_, rfl⟩
    obtain ⟨g5, hg5⟩ : ∃ g, g = w6.heap.size := ⟨_, rfl⟩
    rw [← hg4, ← hg5] at H9 hL
    clear hg4 hg5
    repeat (go_not_at_region 7; go_step)
    refine wp_region_lit ?_
    refine h_op H9 rfl (wn rfl) (R_mv H9 rfl rfl) rfl (P5 18 5 4 3 12 rfl rfl rfl rfl rfl) fun a10 H10 => ?_
    clear H9
    refine h_op H10 rfl (wn rfl) (R_fa H10 rfl rfl fa_win1) rfl (P6 19 18 5 4 3 12 rfl rfl rfl rfl rfl rfl) fun a11 H11 => ?_
    clear H10
    refine h_op H11 rfl (wn rfl) (R_ld H11 rfl rfl (ld_txt (hL.tail.cell 1))) rfl (P6 20 18 5 4 3 12 rfl rfl rfl rfl rfl rfl) fun a12 H12 => ?_
    clear H11
    refine h_op H12 rfl (wn rfl) (R_fa H12 rfl rfl fa_win0) rfl (P6 21 20 18 5 3 12 rfl rfl rfl rfl rfl rfl) fun a13 H13 => ?_
    clear H12
    refine h_op H13 rfl (wn rfl) (R_ld H13 rfl rfl (ld_lon (hL.tail.cell 0))) rfl (P6 22 20 18 5 3 12 rfl rfl rfl rfl rfl rfl) fun a14 H14 => ?_
    clear H13
    refine h_op H14 rfl (wn rfl) (R_ld H14 rfl rfl (ld_agg hL.at_)) rfl (P6 23 22 20 18 3 12 rfl rfl rfl rfl rfl rfl) fun a15 H15 => ?_
    clear H14
    refine h_op H15 rfl (wn rfl) (R_bd3 H15 rfl rfl rfl rfl bd_out) rfl (P4 24 18 3 12 rfl rfl rfl rfl) fun a16 H16 => ?_
    clear H15
    refine h_opS (bk w9.heap.size (outA p) 57 :: bk g5 p.2.arr 55 :: bk g4 #[.int .i64 p.1.1, .string p.1.2] 162 :: (X ++ (ob gr it' :: ob b mo :: bk ps (stC b) 151 :: L))) H16 rfl (wn rfl) (R_bs1 H16 rfl rfl bs_out) (hL.alloc _ _) rfl (P4 25 18 3 12 rfl rfl rfl rfl) fun a17 w17 H17 hL' => ?_
    replace hL := hL'
    clear H16 hL'
    obtain ⟨v2, W2, X2, hrun2, hr2, hL2⟩ := app_run (cn := 1) (m := 1) hr hL.fr3 List.mem_cons_self rfl Tryz.underlying27 hi hz0 hz1 hz2 rfl (by decide) rfl (outE_one p) (by omega) (by decide) 27
    refine h_opS (X2 ++ (bk w9.heap.size (outA p) 57 :: bk g5 p.2.arr 55 :: bk g4 #[.int .i64 p.1.1, .string p.1.2] 162 :: (ob gr it' :: ob b mo :: bk ps (stC b) 151 :: L))) H17 rfl (wn rfl) (R_app H17 rfl rfl rfl hrun2) (hL2) rfl (P3 26 3 12 rfl rfl rfl) fun a18 w18 H18 hL' => ?_
    replace hL := hL'
    clear H17 hL'
    refine h_op H18 rfl (wn rfl) (R_as H18 rfl rfl) rfl (P2 3 12 rfl rfl) fun a19 H19 => ?_
    clear H18
    refine h_end ?_
    have hr3 := hr2
    rw [← outF_app] at hr3
    exact ⟨cnt', hlt, (HI.out _ _ _).2 ⟨Z ++ [p], it', cnt', v2, X2, rfl, H19.pick _ (P2 3 12 rfl rfl), by rw [List.length_append]; exact hr3, hL.bk3.tail.tail.tail, hR'⟩⟩
end
end Go.Proofs.YtnjfjdfjheiocaaGreat
