/-
  meterref04.Bytes: a message's bytes by the document.
-/
import Derived.Test.YtmmhchpilcjflaaMsgWi
import Derived.Test.YtmmhchpilcjflaaMsgRl
import Derived.Deep.Cut
set_option linter.unusedSimpArgs false
set_option linter.unusedVariables false
namespace Go.Proofs.Ytmmhchpilcjflaa
open Go.RowKit
section
variable {W : World} {m : PMsg} {vo vs : Value}
set_option maxHeartbeats 16000000 in
set_option maxRecDepth 100000 in
theorem rBytes_ok (hf : m.Fits) (hkk : m.kind < 256) (hik : m.ikind < 256) (h1 : Rd W vo m.owner) (h2 : Rd W vs m.set) (l1 : m.owner.length ≤ 1000000000000) (l2 : m.set.length ≤ 1000000000000) (hr : rightR m = 0) :
    Calls Try.prog 20 #[.agg (mcells m vo vs)] W fun e W' => e = .returned (.tuple #[.string (packL (outM m)), .int .i64 0]) ∧ Below W.heap.size W W' := by
  have hok : 1 ≤ m.kind ∧ m.kind ≤ 14 ∧ okR m = true := by
    unfold rightR at hr
    split at hr
    · rename_i h
      split at hr
      · rename_i h'
        exact ⟨h.1, h.2, h'⟩
      · cases hr
    · cases hr
  obtain ⟨hk1, hk14, hok⟩ := hok
  unfold okR itemB at hok
  simp only [Bool.and_eq_true, decide_eq_true_eq] at hok
  obtain ⟨⟨⟨⟨⟨⟨⟨⟨⟨⟨⟨⟨hsame, bmove⟩, bpart⟩, bto⟩, bn⟩, bcount⟩, bcode⟩, ⟨⟨⟨bisrc, biseq⟩, bilow⟩, bipart⟩, bikey⟩, bepoch⟩, bnodes⟩, bowner, lowner⟩, bset, lset⟩, bdata⟩ := hok
  clear hsame
  have hL := (Live.init W).alloc (mcells m vo vs) 29
  have K1 : ∀ {w}, Below W.heap.size W w → Rd w vo m.owner := fun hb => h1.kept fun k hk => hb.block k hk
  have K2 : ∀ {w}, Below W.heap.size W w → Rd w vs m.set := fun hb => h2.kept fun k hk => hb.block k hk
  obtain ⟨A1, c1, rfl⟩ := h1.slc
  obtain ⟨A2, c2, rfl⟩ := h2.slc
  have zmove := in_small bmove
  have zpart := in_small bpart
  have zto := in_small bto
  have zn := in_small bn
  have zcount := in_small bcount
  have zcode := in_small bcode
  have zisrc := in_small bisrc
  have ziseq := in_small biseq
  have zilow := in_small bilow
  have zipart := in_small bipart
  have zepoch := in_small bepoch
  have znodes := in_small bnodes
  have zat := vbytes_le (zig_lt hf.at0 hf.at1)
  have zia := vbytes_le (zig_lt hf.iat0 hf.iat1)
  have ziN := vbytes_le (zig_lt hf.iN0 hf.iN1)
  have zdig := vbytes_le hf.digest
  have zlo := vbytes_le (x := m.owner.length) (by omega)
  have zls := vbytes_le (x := m.set.length) (by omega)
  have zld := vbytes_le (x := m.data.size) (by omega)
  have zlk := vbytes_le (x := m.ikey.size) (by omega)
  have zow := listB_len bowner
  have zst := listB_len bset
  have zd := bytes_size m.data
  have zk := bytes_size m.ikey
  have zitem : (itemOut m).length ≤ 400 := by
    unfold itemOut
    simp only [List.length_append, List.length_cons, List.length_nil]
    omega
  obtain ⟨pre, hpre⟩ : ∃ pre, pre = m.kind :: (if 4 ≤ m.kind ∧ m.kind ≤ 13 then vbytes m.move.toNat ++ vbytes m.part.toNat else []) := ⟨_, rfl⟩
  have zpre : pre.length ≤ 21 := by
    rw [hpre]
    split <;> simp only [List.length_append, List.length_cons, List.length_nil] <;> omega
  go_enter Try.func20, Try.ntmps20
  refine wp_fr (n := 163) (m := [(0, _)]) ⟨rfl, rfl, by intro p hp; simp only [List.mem_cons, List.not_mem_nil, or_false] at hp; rcases hp with rfl <;> rfl⟩ fun a0 H0 => ?_
  repeat (go_not_at_region 0; go_step)
  refine wp_region_lit ?_
  refine h_op (m' := [(1, _)]) H0 rfl (wn rfl) (R_box H0 rfl rfl bx_row) rfl (.cons rfl .nil) fun a1 H1 => ?_
  clear H0
  refine h_op (m' := [(1, _)]) H1 rfl (wn rfl) (R_as H1 rfl rfl) rfl (.cons rfl .nil) fun a2 H2 => ?_
  clear H1
  refine h_op (m' := [(1, _)]) H2 rfl (wn rfl) (R_as H2 rfl rfl) rfl (.cons rfl .nil) fun a3 H3 => ?_
  clear H2
  refine h_end ?_
  repeat (go_not_at_region 1; go_step)
  refine wp_region_lit ?_
  refine h_op (m' := [(8, _), (1, _)]) H3 rfl (wn rfl) (R_ld H3 rfl rfl (ld_row (m := m) (vo := .slice A1 m.owner.length c1) (vs := .slice A2 m.set.length c2) hL.at_)) rfl (.cons rfl (.cons rfl .nil)) fun a4 H4 => ?_
  clear H3
  refine h_call H4 rfl (wn rfl) (R_call1 H4 rfl rfl (fun w => by simp [go_sem])) rfl ?_
  refine (refRight_any (K1 hL.1) (K2 hL.1) l1 l2).mono ?_
  rintro e wx ⟨rfl, hb⟩
  replace hL := hL.call hb
  clear hb
  rw [hr]
  refine ⟨_, rfl, fun a5 HH => ?_⟩
  have H5 := HH [(9, _), (1, _)] (.cons rfl (.cons rfl .nil))
  clear HH H4
  refine h_op (m' := [(4, _), (1, _)]) H5 rfl (wn rfl) (R_as H5 rfl rfl) rfl (.cons rfl (.cons rfl .nil)) fun a6 H6 => ?_
  clear H5
  refine h_end ?_
  repeat (go_not_at_region 2; go_step)
  refine wp_region_lit ?_
  refine h_op (m' := [(10, _), (1, _)]) H6 rfl (wn rfl) (R_mv H6 rfl rfl) rfl (.cons rfl (.cons rfl .nil)) fun a7 H7 => ?_
  clear H6
  refine h_op (m' := [(11, _), (1, _)]) H7 rfl (wn rfl) (R_bin H7 rfl rfl rfl (B_to (y := false) (B_ne Try.underlying3 _ _) (by decide))) rfl (.cons rfl (.cons rfl .nil)) fun a8 H8 => ?_
  clear H7
  refine h_end ?_
  repeat (go_not_at_region 4; go_step)
  refine wp_cond_false (H8.ev (x := .tmp 11) rfl) ?_
  repeat (go_not_at_region 4; go_step)
  refine wp_region_lit ?_
  refine h_op (m' := [(13, _), (1, _)]) H8 rfl (wn rfl) (R_fa H8 rfl rfl (fa29_0 _ _)) rfl (.cons rfl (.cons rfl .nil)) fun a9 H9 => ?_
  clear H8
  refine h_op (m' := [(14, _), (1, _)]) H9 rfl (wn rfl) (R_ld H9 rfl rfl (ld_u8 (hL.cell 0))) rfl (.cons rfl (.cons rfl .nil)) fun a10 H10 => ?_
  clear H9
  refine h_op (m' := [(15, _), (1, _)]) H10 rfl (wn rfl) (R_bs1 H10 rfl rfl (bs_u8 _)) rfl (.cons rfl (.cons rfl .nil)) fun a11 H11 => ?_
  clear H10
  replace hL := hL.alloc #[.int .u8 (m.kind : Nat)] 5
  refine h_op (m' := [(16, _), (1, _)]) H11 rfl (wn rfl) (R_cv H11 rfl rfl (cv_u8 hkk hL)) rfl (.cons rfl (.cons rfl .nil)) fun a12 H12 => ?_
  clear H11
  replace hL := hL.tail
  refine h_op (m' := [(5, _), (1, _)]) H12 rfl (wn rfl) (R_as H12 rfl rfl) rfl (.cons rfl (.cons rfl .nil)) fun a13 H13 => ?_
  clear H12
  refine h_end ?_
  repeat (go_not_at_region 5; go_step)
  refine wp_region_lit ?_
  refine h_op (m' := [(17, _), (5, _), (1, _)]) H13 rfl (wn rfl) (R_fa H13 rfl rfl (fa29_0 _ _)) rfl (.cons rfl (.cons rfl (.cons rfl .nil))) fun a14 H14 => ?_
  clear H13
  refine h_op (m' := [(18, _), (5, _), (1, _)]) H14 rfl (wn rfl) (R_ld H14 rfl rfl (ld_u8 (hL.cell 0))) rfl (.cons rfl (.cons rfl (.cons rfl .nil))) fun a15 H15 => ?_
  clear H14
  refine h_op (m' := [(19, _), (5, _), (1, _)]) H15 rfl (wn rfl) (R_bin H15 rfl rfl rfl (B8_ge _ _)) rfl (.cons rfl (.cons rfl (.cons rfl .nil))) fun a16 H16 => ?_
  clear H15
  refine h_op (m' := [(20, _), (5, _), (1, _)]) H16 rfl (wn rfl) (R_mv H16 rfl rfl) rfl (.cons rfl (.cons rfl (.cons rfl .nil))) fun a17 H17 => ?_
  clear H16
  replace H17 := H17.pick [(1, .pointer (some ⟨W.heap.size, 0, none⟩)), (5, .string (packL [m.kind])), (20, .bool (decide ((m.kind : Int) ≥ 4)))] (.cons rfl (.cons rfl (.cons rfl .nil)))
  generalize ht0 : (decide ((m.kind : Int) ≥ 4)) = t0 at H17
  refine wpList_cut [_, _, _, _] (R := fun a' w' => Fr a' 163 [(1, .pointer (some ⟨W.heap.size, 0, none⟩)), (5, .string (packL [m.kind])), (24, .bool (t0 && (decide ((m.kind : Int) ≤ 13))))] ∧ Live W [(W.heap.size, mcells m (.slice A1 m.owner.length c1) (.slice A2 m.set.length c2), 29)] w') ?_ ?_
  · cases t0
    · refine h_skip (m' := [(1, _), (5, _), (20, _)]) H17 rfl (H17.wf rfl rfl rfl) rfl (.cons rfl (.cons rfl (.cons rfl .nil))) fun a18 H18 => ?_
      clear H17
      refine h_skip (m' := [(1, _), (5, _), (20, _)]) H18 rfl (H18.wf rfl rfl rfl) rfl (.cons rfl (.cons rfl (.cons rfl .nil))) fun a19 H19 => ?_
      clear H18
      refine h_skip (m' := [(1, _), (5, _), (20, _)]) H19 rfl (H19.wf rfl rfl rfl) rfl (.cons rfl (.cons rfl (.cons rfl .nil))) fun a20 H20 => ?_
      clear H19
      refine h_op (m' := [(24, _), (1, _), (5, _)]) H20 rfl (wn rfl) (R_pick H20 rfl rfl rfl) rfl (.cons rfl (.cons rfl (.cons rfl .nil))) fun a21 H21 => ?_
      clear H20
      exact h_end ⟨H21.pick _ (.cons rfl (.cons rfl (.cons rfl .nil))), hL⟩
    · refine h_op (m' := [(21, _), (1, _), (5, _), (20, _)]) H17 rfl (H17.wt rfl rfl rfl) (R_fa H17 rfl rfl (fa29_0 _ _)) rfl (.cons rfl (.cons rfl (.cons rfl (.cons rfl .nil)))) fun a18 H18 => ?_
      clear H17
      refine h_op (m' := [(22, _), (1, _), (5, _), (20, _)]) H18 rfl (H18.wt rfl rfl rfl) (R_ld H18 rfl rfl (ld_u8 (hL.cell 0))) rfl (.cons rfl (.cons rfl (.cons rfl (.cons rfl .nil)))) fun a19 H19 => ?_
      clear H18
      refine h_op (m' := [(23, _), (1, _), (5, _), (20, _)]) H19 rfl (H19.wt rfl rfl rfl) (R_bin H19 rfl rfl rfl (B8_le _ _)) rfl (.cons rfl (.cons rfl (.cons rfl (.cons rfl .nil)))) fun a20 H20 => ?_
      clear H19
      refine h_op (m' := [(24, _), (1, _), (5, _)]) H20 rfl (wn rfl) (R_pick H20 rfl rfl rfl) rfl (.cons rfl (.cons rfl (.cons rfl .nil))) fun a21 H21 => ?_
      clear H20
      exact h_end ⟨H21.pick _ (.cons rfl (.cons rfl (.cons rfl .nil))), hL⟩
  clear hL H17
  rintro a22 wx ⟨H22, hL⟩
  generalize ht1 : (t0 && (decide ((m.kind : Int) ≤ 13))) = t1 at H22
  refine h_end ?_
  repeat (go_not_at_region 6; go_step)
  refine wp_cut (fun a' w' => Fr a' 163 [(1, .pointer (some ⟨W.heap.size, 0, none⟩)), (5, .string (packL pre))] ∧ Live W [(W.heap.size, mcells m (.slice A1 m.owner.length c1) (.slice A2 m.set.length c2), 29)] w') ?_ ?_
  rotate_left
  · intro J K' hJ hM
    cases t1
    · have hp : [m.kind] = pre := by
        rw [hpre, if_neg]
        rintro ⟨ha, hb⟩
        rw [← ht0, decide_eq_true (by omega), decide_eq_true (by omega)] at ht1
        cases ht1
      rw [hp] at H22
      refine wp_cond (t := false) (H22.ev (x := .tmp 24) rfl) ?_
      simp only [Bool.false_eq_true, if_false]
      refine wp_skip ?_
      exact hM _ _ (Met.intro (hJ _ _ ⟨H22.pick _ (.cons rfl (.cons rfl .nil)), hL⟩))
    · have hp : [m.kind] ++ vbytes m.move.toNat ++ vbytes m.part.toNat = pre := by
        have e := ht1
        rw [← ht0, Bool.and_eq_true, decide_eq_true_eq, decide_eq_true_eq] at e
        rw [hpre, if_pos ⟨by omega, by omega⟩]
        simp
      refine wp_cond (t := true) (H22.ev (x := .tmp 24) rfl) ?_
      simp only [if_true]
      repeat (go_not_at_region 6; go_step)
      refine wp_region_held_drew (S := fun w' => Live W [(W.heap.size, mcells m (.slice A1 m.owner.length c1) (.slice A2 m.set.length c2), 29)] w') (by kernel_rfl) hL.drew (fun hL' => ?_)
      replace hL := hL'
      clear hL'
      refine a_op (m' := [(25, _), (1, _), (5, _)]) 0 H22 rfl rfl (by kernel_rfl) (by kernel_rfl) (by kernel_rfl) (fun _ _ _ h => h) (wn rfl) (fun w hL => R_mv H22 rfl rfl) hL rfl (.cons rfl (.cons rfl (.cons rfl .nil))) fun a23 H23 => ?_
      clear H22
      refine a_op (m' := [(26, _), (25, _), (1, _), (5, _)]) 1 H23 rfl rfl (by kernel_rfl) (by kernel_rfl) (by kernel_rfl) (fun _ _ _ h => h) (wn rfl) (fun w hL => R_fa H23 rfl rfl (fa29_1 _ _)) hL rfl (.cons rfl (.cons rfl (.cons rfl (.cons rfl .nil)))) fun a24 H24 => ?_
      clear H23
      refine a_op (m' := [(30, _), (26, _), (25, _), (1, _), (5, _)]) 5 H24 rfl rfl (by kernel_rfl) (by kernel_rfl) (by kernel_rfl) (fun _ _ _ h => h) (wn rfl) (fun w hL => R_fa H24 rfl rfl (fa29_2 _ _)) hL rfl (.cons rfl (.cons rfl (.cons rfl (.cons rfl (.cons rfl .nil))))) fun a25 H25 => ?_
      clear H24
      refine a_op (m' := [(27, _), (30, _), (25, _), (1, _), (5, _)]) 2 H25 rfl rfl (by kernel_rfl) (by kernel_rfl) (by kernel_rfl) (fun _ _ _ h => h) (wn rfl) (fun w hL => R_ld H25 rfl rfl (ld_int (hL.cell 1))) hL rfl (.cons rfl (.cons rfl (.cons rfl (.cons rfl (.cons rfl .nil))))) fun a26 H26 => ?_
      clear H25
      refine a_op (m' := [(31, _), (27, _), (25, _), (1, _), (5, _)]) 6 H26 rfl rfl (by kernel_rfl) (by kernel_rfl) (by kernel_rfl) (fun _ _ _ h => h) (wn rfl) (fun w hL => R_ld H26 rfl rfl (ld_int (hL.cell 2))) hL rfl (.cons rfl (.cons rfl (.cons rfl (.cons rfl (.cons rfl .nil))))) fun a27 H27 => ?_
      clear H26
      refine a_all1 3 (by kernel_rfl) ?_
      refine o_callB (m' := [(28, _), (31, _), (25, _), (1, _), (5, _)]) 3 H27 rfl rfl (wn rfl) (R_call1 H27 rfl rfl (fun w => by simp [go_sem])) rfl hL (rnum_in bmove) (.cons rfl (.cons rfl (.cons rfl (.cons rfl (.cons rfl .nil))))) fun a28 w28 H28 hL' => ⟨hL', ?_⟩
      replace hL := hL'
      clear H27 hL'
      refine a_op (m' := [(29, _), (31, _), (1, _), (5, _)]) 4 H28 rfl rfl (by kernel_rfl) (by kernel_rfl) (by kernel_rfl) (fun _ _ _ h => h) (wn rfl) (fun w hL => R_bin H28 rfl rfl rfl (B_catL _ _ (by (try simp only [List.length_append, List.length_cons, List.length_nil]); omega))) hL rfl (.cons rfl (.cons rfl (.cons rfl (.cons rfl .nil)))) fun a29 H29 => ?_
      clear H28
      refine a_all1 7 (by kernel_rfl) ?_
      refine o_callB (m' := [(32, _), (29, _), (1, _), (5, _)]) 7 H29 rfl rfl (wn rfl) (R_call1 H29 rfl rfl (fun w => by simp [go_sem])) rfl hL (rnum_in bpart) (.cons rfl (.cons rfl (.cons rfl (.cons rfl .nil)))) fun a30 w30 H30 hL' => ⟨hL', ?_⟩
      replace hL := hL'
      clear H29 hL'
      refine a_op (m' := [(33, _), (1, _), (5, _)]) 8 H30 rfl rfl (by kernel_rfl) (by kernel_rfl) (by kernel_rfl) (fun _ _ _ h => h) (wn rfl) (fun w hL => R_bin H30 rfl rfl rfl (B_catL _ _ (by (try simp only [List.length_append, List.length_cons, List.length_nil]); omega))) hL rfl (.cons rfl (.cons rfl (.cons rfl .nil))) fun a31 H31 => ?_
      clear H30
      refine a_op (m' := [(5, _), (1, _)]) 9 H31 rfl rfl (by kernel_rfl) (by kernel_rfl) (by kernel_rfl) (fun _ _ _ h => h) (wn rfl) (fun w hL => R_as H31 rfl rfl) hL rfl (.cons rfl (.cons rfl .nil)) fun a32 H32 => ?_
      clear H31
      refine wpAnyH_done (by kernel_rfl) ?_ _
      rw [hp] at H32
      exact hM _ _ (Met.intro (hJ _ _ ⟨H32.pick _ (.cons rfl (.cons rfl .nil)), hL⟩))
  clear ht0 ht1 hL
  intro ac wc hcut
  obtain ⟨H0, hL⟩ := hcut
  repeat (go_not_at_region 7; go_step)
  refine wp_region_held_drew (S := fun w' => Live W [(W.heap.size, mcells m (.slice A1 m.owner.length c1) (.slice A2 m.set.length c2), 29)] w') (by kernel_rfl) hL.drew (fun hL' => ?_)
  replace hL := hL'
  clear hL'
  refine a_op (m' := [(34, _), (1, _), (5, _)]) 0 H0 rfl rfl (by kernel_rfl) (by kernel_rfl) (by kernel_rfl) (fun _ _ _ h => h) (wn rfl) (fun w hL => R_fa H0 rfl rfl (fa29_9 _ _)) hL rfl (.cons rfl (.cons rfl (.cons rfl .nil))) fun a1 H1 => ?_
  clear H0
  refine a_op (m' := [(38, _), (34, _), (1, _), (5, _)]) 4 H1 rfl rfl (by kernel_rfl) (by kernel_rfl) (by kernel_rfl) (fun _ _ _ h => h) (wn rfl) (fun w hL => R_fa H1 rfl rfl (fa29_9 _ _)) hL rfl (.cons rfl (.cons rfl (.cons rfl (.cons rfl .nil)))) fun a2 H2 => ?_
  clear H1
  refine a_op (m' := [(35, _), (38, _), (1, _), (5, _)]) 1 H2 rfl rfl (by kernel_rfl) (by kernel_rfl) (by kernel_rfl) (fun _ _ _ h => h) (wn rfl) (fun w hL => R_fa H2 rfl rfl (fa24_0 _ _)) hL rfl (.cons rfl (.cons rfl (.cons rfl (.cons rfl .nil)))) fun a3 H3 => ?_
  clear H2
  refine a_op (m' := [(39, _), (35, _), (1, _), (5, _)]) 5 H3 rfl rfl (by kernel_rfl) (by kernel_rfl) (by kernel_rfl) (fun _ _ _ h => h) (wn rfl) (fun w hL => R_fa H3 rfl rfl (fa24_1 _ _)) hL rfl (.cons rfl (.cons rfl (.cons rfl (.cons rfl .nil)))) fun a4 H4 => ?_
  clear H3
  refine a_op (m' := [(36, _), (39, _), (1, _), (5, _)]) 2 H4 rfl rfl (by kernel_rfl) (by kernel_rfl) (by kernel_rfl) (fun _ _ _ h => h) (wn rfl) (fun w hL => R_ld H4 rfl rfl (ld_int (hL.cell 9))) hL rfl (.cons rfl (.cons rfl (.cons rfl (.cons rfl .nil)))) fun a5 H5 => ?_
  clear H4
  refine a_op (m' := [(40, _), (36, _), (1, _), (5, _)]) 6 H5 rfl rfl (by kernel_rfl) (by kernel_rfl) (by kernel_rfl) (fun _ _ _ h => h) (wn rfl) (fun w hL => R_ld H5 rfl rfl (ld_int (hL.cell 10))) hL rfl (.cons rfl (.cons rfl (.cons rfl (.cons rfl .nil)))) fun a6 H6 => ?_
  clear H5
  refine a_all1 3 (by kernel_rfl) ?_
  refine o_callB (m' := [(37, _), (40, _), (1, _), (5, _)]) 3 H6 rfl rfl (wn rfl) (R_call1 H6 rfl rfl (fun w => by simp [go_sem])) rfl hL (rnum_in bisrc) (.cons rfl (.cons rfl (.cons rfl (.cons rfl .nil)))) fun a7 w7 H7 hL' => ⟨hL', ?_⟩
  replace hL := hL'
  clear H6 hL'
  refine a_all1 7 (by kernel_rfl) ?_
  refine o_callB (m' := [(41, _), (37, _), (1, _), (5, _)]) 7 H7 rfl rfl (wn rfl) (R_call1 H7 rfl rfl (fun w => by simp [go_sem])) rfl hL (rnum_in biseq) (.cons rfl (.cons rfl (.cons rfl (.cons rfl .nil)))) fun a8 w8 H8 hL' => ⟨hL', ?_⟩
  replace hL := hL'
  clear H7 hL'
  refine a_op (m' := [(42, _), (1, _), (5, _)]) 8 H8 rfl rfl (by kernel_rfl) (by kernel_rfl) (by kernel_rfl) (fun _ _ _ h => h) (wn rfl) (fun w hL => R_bin H8 rfl rfl rfl (B_catL _ _ (by (try simp only [List.length_append, List.length_cons, List.length_nil]); omega))) hL rfl (.cons rfl (.cons rfl (.cons rfl .nil))) fun a9 H9 => ?_
  clear H8
  refine a_op (m' := [(6, _), (1, _), (5, _)]) 9 H9 rfl rfl (by kernel_rfl) (by kernel_rfl) (by kernel_rfl) (fun _ _ _ h => h) (wn rfl) (fun w hL => R_as H9 rfl rfl) hL rfl (.cons rfl (.cons rfl (.cons rfl .nil))) fun a10 H10 => ?_
  clear H9
  refine wpAnyH_done (by kernel_rfl) ?_ _
  repeat (go_not_at_region 8; go_step)
  refine wp_region_held_drew (S := fun w' => Live W [(W.heap.size, mcells m (.slice A1 m.owner.length c1) (.slice A2 m.set.length c2), 29)] w') (by kernel_rfl) hL.drew (fun hL' => ?_)
  replace hL := hL'
  clear hL'
  refine a_op (m' := [(43, _), (6, _), (1, _), (5, _)]) 0 H10 rfl rfl (by kernel_rfl) (by kernel_rfl) (by kernel_rfl) (fun _ _ _ h => h) (wn rfl) (fun w hL => R_fa H10 rfl rfl (fa29_10 _ _)) hL rfl (.cons rfl (.cons rfl (.cons rfl (.cons rfl .nil)))) fun a11 H11 => ?_
  clear H10
  refine a_op (m' := [(47, _), (43, _), (6, _), (1, _), (5, _)]) 4 H11 rfl rfl (by kernel_rfl) (by kernel_rfl) (by kernel_rfl) (fun _ _ _ h => h) (wn rfl) (fun w hL => R_fa H11 rfl rfl (fa29_10 _ _)) hL rfl (.cons rfl (.cons rfl (.cons rfl (.cons rfl (.cons rfl .nil))))) fun a12 H12 => ?_
  clear H11
  refine a_op (m' := [(52, _), (47, _), (43, _), (6, _), (1, _), (5, _)]) 9 H12 rfl rfl (by kernel_rfl) (by kernel_rfl) (by kernel_rfl) (fun _ _ _ h => h) (wn rfl) (fun w hL => R_fa H12 rfl rfl (fa29_10 _ _)) hL rfl (.cons rfl (.cons rfl (.cons rfl (.cons rfl (.cons rfl (.cons rfl .nil)))))) fun a13 H13 => ?_
  clear H12
  refine a_op (m' := [(44, _), (52, _), (47, _), (6, _), (1, _), (5, _)]) 1 H13 rfl rfl (by kernel_rfl) (by kernel_rfl) (by kernel_rfl) (fun _ _ _ h => h) (wn rfl) (fun w hL => R_fa H13 rfl rfl (fa27_0 _ _)) hL rfl (.cons rfl (.cons rfl (.cons rfl (.cons rfl (.cons rfl (.cons rfl .nil)))))) fun a14 H14 => ?_
  clear H13
  refine a_op (m' := [(48, _), (44, _), (52, _), (6, _), (1, _), (5, _)]) 5 H14 rfl rfl (by kernel_rfl) (by kernel_rfl) (by kernel_rfl) (fun _ _ _ h => h) (wn rfl) (fun w hL => R_fa H14 rfl rfl (fa27_1 _ _)) hL rfl (.cons rfl (.cons rfl (.cons rfl (.cons rfl (.cons rfl (.cons rfl .nil)))))) fun a15 H15 => ?_
  clear H14
  refine a_op (m' := [(53, _), (48, _), (44, _), (6, _), (1, _), (5, _)]) 10 H15 rfl rfl (by kernel_rfl) (by kernel_rfl) (by kernel_rfl) (fun _ _ _ h => h) (wn rfl) (fun w hL => R_fa H15 rfl rfl (fa27_2 _ _)) hL rfl (.cons rfl (.cons rfl (.cons rfl (.cons rfl (.cons rfl (.cons rfl .nil)))))) fun a16 H16 => ?_
  clear H15
  refine a_op (m' := [(45, _), (53, _), (48, _), (6, _), (1, _), (5, _)]) 2 H16 rfl rfl (by kernel_rfl) (by kernel_rfl) (by kernel_rfl) (fun _ _ _ h => h) (wn rfl) (fun w hL => R_ld H16 rfl rfl (ld_int (hL.cell 17))) hL rfl (.cons rfl (.cons rfl (.cons rfl (.cons rfl (.cons rfl (.cons rfl .nil)))))) fun a17 H17 => ?_
  clear H16
  refine a_op (m' := [(49, _), (45, _), (53, _), (6, _), (1, _), (5, _)]) 6 H17 rfl rfl (by kernel_rfl) (by kernel_rfl) (by kernel_rfl) (fun _ _ _ h => h) (wn rfl) (fun w hL => R_ld H17 rfl rfl (ld_int (hL.cell 18))) hL rfl (.cons rfl (.cons rfl (.cons rfl (.cons rfl (.cons rfl (.cons rfl .nil)))))) fun a18 H18 => ?_
  clear H17
  refine a_op (m' := [(54, _), (49, _), (45, _), (6, _), (1, _), (5, _)]) 11 H18 rfl rfl (by kernel_rfl) (by kernel_rfl) (by kernel_rfl) (fun _ _ _ h => h) (wn rfl) (fun w hL => R_ld H18 rfl rfl (ld_sl (hL.cell 19))) hL rfl (.cons rfl (.cons rfl (.cons rfl (.cons rfl (.cons rfl (.cons rfl .nil)))))) fun a19 H19 => ?_
  clear H18
  refine a_all1 3 (by kernel_rfl) ?_
  refine o_callB (m' := [(46, _), (54, _), (49, _), (6, _), (1, _), (5, _)]) 3 H19 rfl rfl (wn rfl) (R_call1 H19 rfl rfl (fun w => by simp [go_sem])) rfl hL (rnum_in bepoch) (.cons rfl (.cons rfl (.cons rfl (.cons rfl (.cons rfl (.cons rfl .nil)))))) fun a20 w20 H20 hL' => ⟨hL', ?_⟩
  replace hL := hL'
  clear H19 hL'
  refine a_all1 7 (by kernel_rfl) ?_
  refine o_callB (m' := [(50, _), (46, _), (54, _), (6, _), (1, _), (5, _)]) 7 H20 rfl rfl (wn rfl) (R_call1 H20 rfl rfl (fun w => by simp [go_sem])) rfl hL (rnum_in bnodes) (.cons rfl (.cons rfl (.cons rfl (.cons rfl (.cons rfl (.cons rfl .nil)))))) fun a21 w21 H21 hL' => ⟨hL', ?_⟩
  replace hL := hL'
  clear H20 hL'
  refine a_op (m' := [(51, _), (54, _), (6, _), (1, _), (5, _)]) 8 H21 rfl rfl (by kernel_rfl) (by kernel_rfl) (by kernel_rfl) (fun _ _ _ h => h) (wn rfl) (fun w hL => R_bin H21 rfl rfl rfl (B_catL _ _ (by (try simp only [List.length_append, List.length_cons, List.length_nil]); omega))) hL rfl (.cons rfl (.cons rfl (.cons rfl (.cons rfl (.cons rfl .nil))))) fun a22 H22 => ?_
  clear H21
  refine a_all1 12 (by kernel_rfl) ?_
  refine o_callB (m' := [(55, _), (51, _), (6, _), (1, _), (5, _)]) 12 H22 rfl rfl (wn rfl) (R_call1 H22 rfl rfl (fun w => by simp [go_sem])) rfl hL (rlist_any (K1 hL.1) bowner (by omega)) (.cons rfl (.cons rfl (.cons rfl (.cons rfl (.cons rfl .nil))))) fun a23 w23 H23 hL' => ⟨hL', ?_⟩
  replace hL := hL'
  clear H22 hL'
  refine a_op (m' := [(56, _), (6, _), (1, _), (5, _)]) 13 H23 rfl rfl (by kernel_rfl) (by kernel_rfl) (by kernel_rfl) (fun _ _ _ h => h) (wn rfl) (fun w hL => R_bin H23 rfl rfl rfl (B_catL _ _ (by (try simp only [List.length_append, List.length_cons, List.length_nil]); omega))) hL rfl (.cons rfl (.cons rfl (.cons rfl (.cons rfl .nil)))) fun a24 H24 => ?_
  clear H23
  refine a_op (m' := [(7, _), (6, _), (1, _), (5, _)]) 14 H24 rfl rfl (by kernel_rfl) (by kernel_rfl) (by kernel_rfl) (fun _ _ _ h => h) (wn rfl) (fun w hL => R_as H24 rfl rfl) hL rfl (.cons rfl (.cons rfl (.cons rfl (.cons rfl .nil)))) fun a25 H25 => ?_
  clear H24
  refine wpAnyH_done (by kernel_rfl) ?_ _
  repeat (go_not_at_region 9; go_step)
  refine wp_region_lit ?_
  refine h_op (m' := [(57, _), (7, _), (6, _), (1, _), (5, _)]) H25 rfl (wn rfl) (R_fa H25 rfl rfl (fa29_0 _ _)) rfl (.cons rfl (.cons rfl (.cons rfl (.cons rfl (.cons rfl .nil))))) fun a26 H26 => ?_
  clear H25
  refine h_op (m' := [(58, _), (7, _), (6, _), (1, _), (5, _)]) H26 rfl (wn rfl) (R_ld H26 rfl rfl (ld_u8 (hL.cell 0))) rfl (.cons rfl (.cons rfl (.cons rfl (.cons rfl (.cons rfl .nil))))) fun a27 H27 => ?_
  clear H26
  refine h_end ?_
  by_cases hc : m.kind = 1
  · repeat (go_not_at_region 10; go_step)
    refine wp_region_lit ?_
    refine h_op (m' := [(60, _), (58, _), (7, _), (6, _), (1, _), (5, _)]) H27 rfl (wn rfl) (R_bin H27 rfl rfl rfl (B_to (y := true) (B8_eq _ _) (by rw [hc]; rfl))) rfl (.cons rfl (.cons rfl (.cons rfl (.cons rfl (.cons rfl (.cons rfl .nil)))))) fun a28 H28 => ?_
    clear H27
    refine h_op (m' := [(59, _), (58, _), (7, _), (6, _), (1, _), (5, _)]) H28 rfl (wn rfl) (R_as H28 rfl rfl) rfl (.cons rfl (.cons rfl (.cons rfl (.cons rfl (.cons rfl (.cons rfl .nil)))))) fun a29 H29 => ?_
    clear H28
    refine h_end ?_
    repeat (go_not_at_region 11; go_step)
    refine wp_cond_true (H29.ev (x := .tmp 59) rfl) ?_
    repeat (go_not_at_region 11; go_step)
    refine wp_region_lit ?_
    refine h_op (m' := [(61, _), (1, _), (5, _)]) H29 rfl (wn rfl) (R_mv H29 rfl rfl) rfl (.cons rfl (.cons rfl (.cons rfl .nil))) fun a30 H30 => ?_
    clear H29
    refine h_op (m' := [(62, _), (61, _), (5, _)]) H30 rfl (wn rfl) (R_fa H30 rfl rfl (fa29_9 _ _)) rfl (.cons rfl (.cons rfl (.cons rfl .nil))) fun a31 H31 => ?_
    clear H30
    refine h_op (m' := [(63, _), (61, _), (5, _)]) H31 rfl (wn rfl) (R_ld H31 rfl rfl (ld_item (hL.cell 9) (hL.cell 10) (hL.cell 11) (hL.cell 12) (hL.cell 13) (hL.cell 14) (hL.cell 15) (hL.cell 16))) rfl (.cons rfl (.cons rfl (.cons rfl .nil))) fun a32 H32 => ?_
    clear H31
    refine h_call H32 rfl (wn rfl) (R_call1 H32 rfl rfl (fun w => by simp [go_sem])) rfl ?_
    refine (rItem_any (m := m) bisrc biseq bilow hik (by omega) bipart hf.iat0 hf.iat1 hf.iN0 hf.iN1).mono ?_
    rintro e wx ⟨rfl, hb⟩
    replace hL := hL.call hb
    clear hb
    refine ⟨_, rfl, fun a33 HH => ?_⟩
    have H33 := HH [(64, _), (61, _), (5, _)] (.cons rfl (.cons rfl (.cons rfl .nil)))
    clear HH H32
    refine h_op (m' := [(65, _), (5, _)]) H33 rfl (wn rfl) (R_bin H33 rfl rfl rfl (B_catL _ _ (by (try simp only [List.length_append, List.length_cons, List.length_nil]); omega))) rfl (.cons rfl (.cons rfl .nil)) fun a34 H34 => ?_
    clear H33
    refine h_op (m' := [(5, _)]) H34 rfl (wn rfl) (R_as H34 rfl rfl) rfl (.cons rfl .nil) fun a35 H35 => ?_
    clear H34
    refine h_end ?_
    repeat (go_not_at_region 33; go_step)
    refine wp_region_lit ?_
    refine h_op (m' := [(162, _)]) H35 rfl (wn rfl) (R_mv H35 rfl rfl) rfl (.cons rfl .nil) fun a36 H36 => ?_
    clear H35
    refine h_op (m' := [(2, _)]) H36 rfl (wn rfl) (R_as H36 rfl rfl) rfl (.cons rfl .nil) fun a37 H37 => ?_
    clear H36
    refine h_op (m' := [(3, _), (2, _)]) H37 rfl (wn rfl) (R_as H37 rfl rfl) rfl (.cons rfl (.cons rfl .nil)) fun a38 H38 => ?_
    clear H37
    refine h_end ?_
    repeat (go_not_at_region 999; go_step)
    refine H38.ret2 rfl rfl rfl ⟨congrArg (fun l => Ending.returned (.tuple #[.string (packL l), .int .i64 0])) ?_, hL.1⟩
    rw [hpre]
    simp [outM, emsM, hc, emN, emB, emI, emU, emT, emL, itemOut]
  repeat (go_not_at_region 10; go_step)
  refine wp_region_lit ?_
  refine h_op (m' := [(60, _), (58, _), (7, _), (6, _), (1, _), (5, _)]) H27 rfl (wn rfl) (R_bin H27 rfl rfl rfl (B_to (y := false) (B8_eq _ _) (beq_eq_false_iff_ne.2 (by omega)))) rfl (.cons rfl (.cons rfl (.cons rfl (.cons rfl (.cons rfl (.cons rfl .nil)))))) fun a28 H28 => ?_
  clear H27
  refine h_op (m' := [(59, _), (58, _), (7, _), (6, _), (1, _), (5, _)]) H28 rfl (wn rfl) (R_as H28 rfl rfl) rfl (.cons rfl (.cons rfl (.cons rfl (.cons rfl (.cons rfl (.cons rfl .nil)))))) fun a29 H29 => ?_
  clear H28
  refine h_end ?_
  repeat (go_not_at_region 12; go_step)
  refine wp_cond_false (H29.ev (x := .tmp 59) rfl) ?_
  repeat (go_not_at_region 12; go_step)
  by_cases hc : m.kind = 2
  · repeat (go_not_at_region 12; go_step)
    refine wp_region_lit ?_
    refine h_op (m' := [(67, _), (58, _), (7, _), (6, _), (1, _), (5, _)]) H29 rfl (wn rfl) (R_bin H29 rfl rfl rfl (B_to (y := true) (B8_eq _ _) (by rw [hc]; rfl))) rfl (.cons rfl (.cons rfl (.cons rfl (.cons rfl (.cons rfl (.cons rfl .nil)))))) fun a30 H30 => ?_
    clear H29
    refine h_op (m' := [(66, _), (58, _), (7, _), (6, _), (1, _), (5, _)]) H30 rfl (wn rfl) (R_as H30 rfl rfl) rfl (.cons rfl (.cons rfl (.cons rfl (.cons rfl (.cons rfl (.cons rfl .nil)))))) fun a31 H31 => ?_
    clear H30
    refine h_end ?_
    repeat (go_not_at_region 13; go_step)
    refine wp_cond_true (H31.ev (x := .tmp 66) rfl) ?_
    repeat (go_not_at_region 13; go_step)
    refine wp_region_lit ?_
    refine h_op (m' := [(68, _), (6, _), (1, _), (5, _)]) H31 rfl (wn rfl) (R_mv H31 rfl rfl) rfl (.cons rfl (.cons rfl (.cons rfl (.cons rfl .nil)))) fun a32 H32 => ?_
    clear H31
    refine h_op (m' := [(69, _), (68, _), (1, _), (5, _)]) H32 rfl (wn rfl) (R_mv H32 rfl rfl) rfl (.cons rfl (.cons rfl (.cons rfl (.cons rfl .nil)))) fun a33 H33 => ?_
    clear H32
    refine h_op (m' := [(70, _), (1, _), (5, _)]) H33 rfl (wn rfl) (R_bin H33 rfl rfl rfl (B_catL _ _ (by (try simp only [List.length_append, List.length_cons, List.length_nil]); omega))) rfl (.cons rfl (.cons rfl (.cons rfl .nil))) fun a34 H34 => ?_
    clear H33
    refine h_op (m' := [(71, _), (70, _), (5, _)]) H34 rfl (wn rfl) (R_fa H34 rfl rfl (fa29_6 _ _)) rfl (.cons rfl (.cons rfl (.cons rfl .nil))) fun a35 H35 => ?_
    clear H34
    refine h_op (m' := [(72, _), (70, _), (5, _)]) H35 rfl (wn rfl) (R_ld H35 rfl rfl (ld_int (hL.cell 6))) rfl (.cons rfl (.cons rfl (.cons rfl .nil))) fun a36 H36 => ?_
    clear H35
    refine h_call H36 rfl (wn rfl) (R_call1 H36 rfl rfl (fun w => by simp [go_sem])) rfl ?_
    refine (rnum_in bcode).mono ?_
    rintro e wx ⟨rfl, hb⟩
    replace hL := hL.call hb
    clear hb
    refine ⟨_, rfl, fun a37 HH => ?_⟩
    have H37 := HH [(73, _), (70, _), (5, _)] (.cons rfl (.cons rfl (.cons rfl .nil)))
    clear HH H36
    refine h_op (m' := [(74, _), (5, _)]) H37 rfl (wn rfl) (R_bin H37 rfl rfl rfl (B_catL _ _ (by (try simp only [List.length_append, List.length_cons, List.length_nil]); omega))) rfl (.cons rfl (.cons rfl .nil)) fun a38 H38 => ?_
    clear H37
    refine h_op (m' := [(5, _)]) H38 rfl (wn rfl) (R_as H38 rfl rfl) rfl (.cons rfl .nil) fun a39 H39 => ?_
    clear H38
    refine h_end ?_
    repeat (go_not_at_region 33; go_step)
    refine wp_region_lit ?_
    refine h_op (m' := [(162, _)]) H39 rfl (wn rfl) (R_mv H39 rfl rfl) rfl (.cons rfl .nil) fun a40 H40 => ?_
    clear H39
    refine h_op (m' := [(2, _)]) H40 rfl (wn rfl) (R_as H40 rfl rfl) rfl (.cons rfl .nil) fun a41 H41 => ?_
    clear H40
    refine h_op (m' := [(3, _), (2, _)]) H41 rfl (wn rfl) (R_as H41 rfl rfl) rfl (.cons rfl (.cons rfl .nil)) fun a42 H42 => ?_
    clear H41
    refine h_end ?_
    repeat (go_not_at_region 999; go_step)
    refine H42.ret2 rfl rfl rfl ⟨congrArg (fun l => Ending.returned (.tuple #[.string (packL l), .int .i64 0])) ?_, hL.1⟩
    rw [hpre]
    simp [outM, emsM, hc, emN, emB, emI, emU, emT, emL, itemOut]
  repeat (go_not_at_region 12; go_step)
  refine wp_region_lit ?_
  refine h_op (m' := [(67, _), (58, _), (7, _), (6, _), (1, _), (5, _)]) H29 rfl (wn rfl) (R_bin H29 rfl rfl rfl (B_to (y := false) (B8_eq _ _) (beq_eq_false_iff_ne.2 (by omega)))) rfl (.cons rfl (.cons rfl (.cons rfl (.cons rfl (.cons rfl (.cons rfl .nil)))))) fun a30 H30 => ?_
  clear H29
  refine h_op (m' := [(66, _), (58, _), (7, _), (6, _), (1, _), (5, _)]) H30 rfl (wn rfl) (R_as H30 rfl rfl) rfl (.cons rfl (.cons rfl (.cons rfl (.cons rfl (.cons rfl (.cons rfl .nil)))))) fun a31 H31 => ?_
  clear H30
  refine h_end ?_
  repeat (go_not_at_region 14; go_step)
  refine wp_cond_false (H31.ev (x := .tmp 66) rfl) ?_
  repeat (go_not_at_region 14; go_step)
  by_cases hc : m.kind = 3
  · repeat (go_not_at_region 14; go_step)
    refine wp_region_lit ?_
    refine h_op (m' := [(76, _), (58, _), (7, _), (6, _), (1, _), (5, _)]) H31 rfl (wn rfl) (R_bin H31 rfl rfl rfl (B_to (y := true) (B8_eq _ _) (by rw [hc]; rfl))) rfl (.cons rfl (.cons rfl (.cons rfl (.cons rfl (.cons rfl (.cons rfl .nil)))))) fun a32 H32 => ?_
    clear H31
    refine h_op (m' := [(75, _), (58, _), (7, _), (6, _), (1, _), (5, _)]) H32 rfl (wn rfl) (R_as H32 rfl rfl) rfl (.cons rfl (.cons rfl (.cons rfl (.cons rfl (.cons rfl (.cons rfl .nil)))))) fun a33 H33 => ?_
    clear H32
    refine h_end ?_
    repeat (go_not_at_region 15; go_step)
    refine wp_cond_true (H33.ev (x := .tmp 75) rfl) ?_
    repeat (go_not_at_region 15; go_step)
    refine wp_region_lit ?_
    refine h_op (m' := [(77, _), (7, _), (6, _), (5, _)]) H33 rfl (wn rfl) (R_mv H33 rfl rfl) rfl (.cons rfl (.cons rfl (.cons rfl (.cons rfl .nil)))) fun a34 H34 => ?_
    clear H33
    refine h_op (m' := [(78, _), (77, _), (7, _), (5, _)]) H34 rfl (wn rfl) (R_mv H34 rfl rfl) rfl (.cons rfl (.cons rfl (.cons rfl (.cons rfl .nil)))) fun a35 H35 => ?_
    clear H34
    refine h_op (m' := [(79, _), (7, _), (5, _)]) H35 rfl (wn rfl) (R_bin H35 rfl rfl rfl (B_catL _ _ (by (try simp only [List.length_append, List.length_cons, List.length_nil]); omega))) rfl (.cons rfl (.cons rfl (.cons rfl .nil))) fun a36 H36 => ?_
    clear H35
    refine h_op (m' := [(80, _), (79, _), (5, _)]) H36 rfl (wn rfl) (R_mv H36 rfl rfl) rfl (.cons rfl (.cons rfl (.cons rfl .nil))) fun a37 H37 => ?_
    clear H36
    refine h_op (m' := [(81, _), (5, _)]) H37 rfl (wn rfl) (R_bin H37 rfl rfl rfl (B_catL _ _ (by (try simp only [List.length_append, List.length_cons, List.length_nil]); omega))) rfl (.cons rfl (.cons rfl .nil)) fun a38 H38 => ?_
    clear H37
    refine h_op (m' := [(5, _)]) H38 rfl (wn rfl) (R_as H38 rfl rfl) rfl (.cons rfl .nil) fun a39 H39 => ?_
    clear H38
    refine h_end ?_
    repeat (go_not_at_region 33; go_step)
    refine wp_region_lit ?_
    refine h_op (m' := [(162, _)]) H39 rfl (wn rfl) (R_mv H39 rfl rfl) rfl (.cons rfl .nil) fun a40 H40 => ?_
    clear H39
    refine h_op (m' := [(2, _)]) H40 rfl (wn rfl) (R_as H40 rfl rfl) rfl (.cons rfl .nil) fun a41 H41 => ?_
    clear H40
    refine h_op (m' := [(3, _), (2, _)]) H41 rfl (wn rfl) (R_as H41 rfl rfl) rfl (.cons rfl (.cons rfl .nil)) fun a42 H42 => ?_
    clear H41
    refine h_end ?_
    repeat (go_not_at_region 999; go_step)
    refine H42.ret2 rfl rfl rfl ⟨congrArg (fun l => Ending.returned (.tuple #[.string (packL l), .int .i64 0])) ?_, hL.1⟩
    rw [hpre]
    simp [outM, emsM, hc, emN, emB, emI, emU, emT, emL, itemOut]
  repeat (go_not_at_region 14; go_step)
  refine wp_region_lit ?_
  refine h_op (m' := [(76, _), (58, _), (7, _), (6, _), (1, _), (5, _)]) H31 rfl (wn rfl) (R_bin H31 rfl rfl rfl (B_to (y := false) (B8_eq _ _) (beq_eq_false_iff_ne.2 (by omega)))) rfl (.cons rfl (.cons rfl (.cons rfl (.cons rfl (.cons rfl (.cons rfl .nil)))))) fun a32 H32 => ?_
  clear H31
  refine h_op (m' := [(75, _), (58, _), (7, _), (6, _), (1, _), (5, _)]) H32 rfl (wn rfl) (R_as H32 rfl rfl) rfl (.cons rfl (.cons rfl (.cons rfl (.cons rfl (.cons rfl (.cons rfl .nil)))))) fun a33 H33 => ?_
  clear H32
  refine h_end ?_
  repeat (go_not_at_region 16; go_step)
  refine wp_cond_false (H33.ev (x := .tmp 75) rfl) ?_
  repeat (go_not_at_region 16; go_step)
  by_cases hc : m.kind = 4
  · repeat (go_not_at_region 16; go_step)
    refine wp_region_lit ?_
    refine h_op (m' := [(83, _), (58, _), (7, _), (6, _), (1, _), (5, _)]) H33 rfl (wn rfl) (R_bin H33 rfl rfl rfl (B_to (y := true) (B8_eq _ _) (by rw [hc]; rfl))) rfl (.cons rfl (.cons rfl (.cons rfl (.cons rfl (.cons rfl (.cons rfl .nil)))))) fun a34 H34 => ?_
    clear H33
    refine h_op (m' := [(82, _), (58, _), (7, _), (6, _), (1, _), (5, _)]) H34 rfl (wn rfl) (R_as H34 rfl rfl) rfl (.cons rfl (.cons rfl (.cons rfl (.cons rfl (.cons rfl (.cons rfl .nil)))))) fun a35 H35 => ?_
    clear H34
    refine h_end ?_
    repeat (go_not_at_region 17; go_step)
    refine wp_cond_true (H35.ev (x := .tmp 82) rfl) ?_
    repeat (go_not_at_region 17; go_step)
    refine wp_region_lit ?_
    refine h_op (m' := [(84, _), (1, _), (5, _)]) H35 rfl (wn rfl) (R_mv H35 rfl rfl) rfl (.cons rfl (.cons rfl (.cons rfl .nil))) fun a36 H36 => ?_
    clear H35
    refine h_op (m' := [(85, _), (84, _), (5, _)]) H36 rfl (wn rfl) (R_fa H36 rfl rfl (fa29_3 _ _)) rfl (.cons rfl (.cons rfl (.cons rfl .nil))) fun a37 H37 => ?_
    clear H36
    refine h_op (m' := [(86, _), (84, _), (5, _)]) H37 rfl (wn rfl) (R_ld H37 rfl rfl (ld_int (hL.cell 3))) rfl (.cons rfl (.cons rfl (.cons rfl .nil))) fun a38 H38 => ?_
    clear H37
    refine h_call H38 rfl (wn rfl) (R_call1 H38 rfl rfl (fun w => by simp [go_sem])) rfl ?_
    refine (rnum_in bto).mono ?_
    rintro e wx ⟨rfl, hb⟩
    replace hL := hL.call hb
    clear hb
    refine ⟨_, rfl, fun a39 HH => ?_⟩
    have H39 := HH [(87, _), (84, _), (5, _)] (.cons rfl (.cons rfl (.cons rfl .nil)))
    clear HH H38
    refine h_op (m' := [(88, _), (5, _)]) H39 rfl (wn rfl) (R_bin H39 rfl rfl rfl (B_catL _ _ (by (try simp only [List.length_append, List.length_cons, List.length_nil]); omega))) rfl (.cons rfl (.cons rfl .nil)) fun a40 H40 => ?_
    clear H39
    refine h_op (m' := [(5, _)]) H40 rfl (wn rfl) (R_as H40 rfl rfl) rfl (.cons rfl .nil) fun a41 H41 => ?_
    clear H40
    refine h_end ?_
    repeat (go_not_at_region 33; go_step)
    refine wp_region_lit ?_
    refine h_op (m' := [(162, _)]) H41 rfl (wn rfl) (R_mv H41 rfl rfl) rfl (.cons rfl .nil) fun a42 H42 => ?_
    clear H41
    refine h_op (m' := [(2, _)]) H42 rfl (wn rfl) (R_as H42 rfl rfl) rfl (.cons rfl .nil) fun a43 H43 => ?_
    clear H42
    refine h_op (m' := [(3, _), (2, _)]) H43 rfl (wn rfl) (R_as H43 rfl rfl) rfl (.cons rfl (.cons rfl .nil)) fun a44 H44 => ?_
    clear H43
    refine h_end ?_
    repeat (go_not_at_region 999; go_step)
    refine H44.ret2 rfl rfl rfl ⟨congrArg (fun l => Ending.returned (.tuple #[.string (packL l), .int .i64 0])) ?_, hL.1⟩
    rw [hpre]
    simp [outM, emsM, hc, emN, emB, emI, emU, emT, emL, itemOut]
  repeat (go_not_at_region 16; go_step)
  refine wp_region_lit ?_
  refine h_op (m' := [(83, _), (58, _), (7, _), (6, _), (1, _), (5, _)]) H33 rfl (wn rfl) (R_bin H33 rfl rfl rfl (B_to (y := false) (B8_eq _ _) (beq_eq_false_iff_ne.2 (by omega)))) rfl (.cons rfl (.cons rfl (.cons rfl (.cons rfl (.cons rfl (.cons rfl .nil)))))) fun a34 H34 => ?_
  clear H33
  refine h_op (m' := [(82, _), (58, _), (7, _), (6, _), (1, _), (5, _)]) H34 rfl (wn rfl) (R_as H34 rfl rfl) rfl (.cons rfl (.cons rfl (.cons rfl (.cons rfl (.cons rfl (.cons rfl .nil)))))) fun a35 H35 => ?_
  clear H34
  refine h_end ?_
  repeat (go_not_at_region 18; go_step)
  refine wp_cond_false (H35.ev (x := .tmp 82) rfl) ?_
  repeat (go_not_at_region 18; go_step)
  by_cases hc : m.kind = 5
  · repeat (go_not_at_region 18; go_step)
    refine wp_region_lit ?_
    refine h_op (m' := [(90, _), (58, _), (7, _), (6, _), (1, _), (5, _)]) H35 rfl (wn rfl) (R_bin H35 rfl rfl rfl (B_to (y := true) (B8_eq _ _) (by rw [hc]; rfl))) rfl (.cons rfl (.cons rfl (.cons rfl (.cons rfl (.cons rfl (.cons rfl .nil)))))) fun a36 H36 => ?_
    clear H35
    refine h_op (m' := [(89, _), (58, _), (7, _), (6, _), (1, _), (5, _)]) H36 rfl (wn rfl) (R_as H36 rfl rfl) rfl (.cons rfl (.cons rfl (.cons rfl (.cons rfl (.cons rfl (.cons rfl .nil)))))) fun a37 H37 => ?_
    clear H36
    refine h_end ?_
    repeat (go_not_at_region 19; go_step)
    refine wp_cond_true (H37.ev (x := .tmp 89) rfl) ?_
    repeat (go_not_at_region 19; go_step)
    refine wp_region_held_drew (S := fun w' => Live W [(W.heap.size, mcells m (.slice A1 m.owner.length c1) (.slice A2 m.set.length c2), 29)] w') (by kernel_rfl) hL.drew (fun hL' => ?_)
    replace hL := hL'
    clear hL'
    refine a_op (m' := [(91, _), (1, _), (5, _)]) 0 H37 rfl rfl (by kernel_rfl) (by kernel_rfl) (by kernel_rfl) (fun _ _ _ h => h) (wn rfl) (fun w hL => R_mv H37 rfl rfl) hL rfl (.cons rfl (.cons rfl (.cons rfl .nil))) fun a38 H38 => ?_
    clear H37
    refine a_op (m' := [(92, _), (91, _), (1, _), (5, _)]) 1 H38 rfl rfl (by kernel_rfl) (by kernel_rfl) (by kernel_rfl) (fun _ _ _ h => h) (wn rfl) (fun w hL => R_fa H38 rfl rfl (fa29_4 _ _)) hL rfl (.cons rfl (.cons rfl (.cons rfl (.cons rfl .nil)))) fun a39 H39 => ?_
    clear H38
    refine a_op (m' := [(96, _), (92, _), (91, _), (1, _), (5, _)]) 5 H39 rfl rfl (by kernel_rfl) (by kernel_rfl) (by kernel_rfl) (fun _ _ _ h => h) (wn rfl) (fun w hL => R_fa H39 rfl rfl (fa29_5 _ _)) hL rfl (.cons rfl (.cons rfl (.cons rfl (.cons rfl (.cons rfl .nil))))) fun a40 H40 => ?_
    clear H39
    refine a_op (m' := [(100, _), (96, _), (92, _), (91, _), (5, _)]) 9 H40 rfl rfl (by kernel_rfl) (by kernel_rfl) (by kernel_rfl) (fun _ _ _ h => h) (wn rfl) (fun w hL => R_fa H40 rfl rfl (fa29_12 _ _)) hL rfl (.cons rfl (.cons rfl (.cons rfl (.cons rfl (.cons rfl .nil))))) fun a41 H41 => ?_
    clear H40
    refine a_op (m' := [(93, _), (100, _), (96, _), (91, _), (5, _)]) 2 H41 rfl rfl (by kernel_rfl) (by kernel_rfl) (by kernel_rfl) (fun _ _ _ h => h) (wn rfl) (fun w hL => R_ld H41 rfl rfl (ld_int (hL.cell 4))) hL rfl (.cons rfl (.cons rfl (.cons rfl (.cons rfl (.cons rfl .nil))))) fun a42 H42 => ?_
    clear H41
    refine a_op (m' := [(97, _), (93, _), (100, _), (91, _), (5, _)]) 6 H42 rfl rfl (by kernel_rfl) (by kernel_rfl) (by kernel_rfl) (fun _ _ _ h => h) (wn rfl) (fun w hL => R_ld H42 rfl rfl (ld_int (hL.cell 5))) hL rfl (.cons rfl (.cons rfl (.cons rfl (.cons rfl (.cons rfl .nil))))) fun a43 H43 => ?_
    clear H42
    refine a_op (m' := [(101, _), (97, _), (93, _), (91, _), (5, _)]) 10 H43 rfl rfl (by kernel_rfl) (by kernel_rfl) (by kernel_rfl) (fun _ _ _ h => h) (wn rfl) (fun w hL => R_ld H43 rfl rfl (ld_str (hL.cell 21))) hL rfl (.cons rfl (.cons rfl (.cons rfl (.cons rfl (.cons rfl .nil))))) fun a44 H44 => ?_
    clear H43
    refine a_all1 3 (by kernel_rfl) ?_
    refine o_callB (m' := [(94, _), (101, _), (97, _), (91, _), (5, _)]) 3 H44 rfl rfl (wn rfl) (R_call1 H44 rfl rfl (fun w => by simp [go_sem])) rfl hL (rnum_in bn) (.cons rfl (.cons rfl (.cons rfl (.cons rfl (.cons rfl .nil))))) fun a45 w45 H45 hL' => ⟨hL', ?_⟩
    replace hL := hL'
    clear H44 hL'
    refine a_op (m' := [(95, _), (101, _), (97, _), (5, _)]) 4 H45 rfl rfl (by kernel_rfl) (by kernel_rfl) (by kernel_rfl) (fun _ _ _ h => h) (wn rfl) (fun w hL => R_bin H45 rfl rfl rfl (B_catL _ _ (by (try simp only [List.length_append, List.length_cons, List.length_nil]); omega))) hL rfl (.cons rfl (.cons rfl (.cons rfl (.cons rfl .nil)))) fun a46 H46 => ?_
    clear H45
    refine a_all1 7 (by kernel_rfl) ?_
    refine o_callB (m' := [(98, _), (95, _), (101, _), (5, _)]) 7 H46 rfl rfl (wn rfl) (R_call1 H46 rfl rfl (fun w => by simp [go_sem])) rfl hL (rnum_in bcount) (.cons rfl (.cons rfl (.cons rfl (.cons rfl .nil)))) fun a47 w47 H47 hL' => ⟨hL', ?_⟩
    replace hL := hL'
    clear H46 hL'
    refine a_op (m' := [(99, _), (101, _), (5, _)]) 8 H47 rfl rfl (by kernel_rfl) (by kernel_rfl) (by kernel_rfl) (fun _ _ _ h => h) (wn rfl) (fun w hL => R_bin H47 rfl rfl rfl (B_catL _ _ (by (try simp only [List.length_append, List.length_cons, List.length_nil]); omega))) hL rfl (.cons rfl (.cons rfl (.cons rfl .nil))) fun a48 H48 => ?_
    clear H47
    refine a_all1 11 (by kernel_rfl) ?_
    refine o_callB (m' := [(102, _), (99, _), (5, _)]) 11 H48 rfl rfl (wn rfl) (R_call1 H48 rfl rfl (fun w => by simp [go_sem])) rfl hL (rText_any (by omega)) (.cons rfl (.cons rfl (.cons rfl .nil))) fun a49 w49 H49 hL' => ⟨hL', ?_⟩
    replace hL := hL'
    clear H48 hL'
    refine a_op (m' := [(103, _), (5, _)]) 12 H49 rfl rfl (by kernel_rfl) (by kernel_rfl) (by kernel_rfl) (fun _ _ _ h => h) (wn rfl) (fun w hL => R_bin H49 rfl rfl rfl (B_catL _ _ (by (try simp only [List.length_append, List.length_cons, List.length_nil]); omega))) hL rfl (.cons rfl (.cons rfl .nil)) fun a50 H50 => ?_
    clear H49
    refine a_op (m' := [(5, _)]) 13 H50 rfl rfl (by kernel_rfl) (by kernel_rfl) (by kernel_rfl) (fun _ _ _ h => h) (wn rfl) (fun w hL => R_as H50 rfl rfl) hL rfl (.cons rfl .nil) fun a51 H51 => ?_
    clear H50
    refine wpAnyH_done (by kernel_rfl) ?_ _
    repeat (go_not_at_region 33; go_step)
    refine wp_region_lit ?_
    refine h_op (m' := [(162, _)]) H51 rfl (wn rfl) (R_mv H51 rfl rfl) rfl (.cons rfl .nil) fun a52 H52 => ?_
    clear H51
    refine h_op (m' := [(2, _)]) H52 rfl (wn rfl) (R_as H52 rfl rfl) rfl (.cons rfl .nil) fun a53 H53 => ?_
    clear H52
    refine h_op (m' := [(3, _), (2, _)]) H53 rfl (wn rfl) (R_as H53 rfl rfl) rfl (.cons rfl (.cons rfl .nil)) fun a54 H54 => ?_
    clear H53
    refine h_end ?_
    repeat (go_not_at_region 999; go_step)
    refine H54.ret2 rfl rfl rfl ⟨congrArg (fun l => Ending.returned (.tuple #[.string (packL l), .int .i64 0])) ?_, hL.1⟩
    rw [hpre]
    simp [outM, emsM, hc, emN, emB, emI, emU, emT, emL, itemOut]
  repeat (go_not_at_region 18; go_step)
  refine wp_region_lit ?_
  refine h_op (m' := [(90, _), (58, _), (7, _), (6, _), (1, _), (5, _)]) H35 rfl (wn rfl) (R_bin H35 rfl rfl rfl (B_to (y := false) (B8_eq _ _) (beq_eq_false_iff_ne.2 (by omega)))) rfl (.cons rfl (.cons rfl (.cons rfl (.cons rfl (.cons rfl (.cons rfl .nil)))))) fun a36 H36 => ?_
  clear H35
  refine h_op (m' := [(89, _), (58, _), (7, _), (6, _), (1, _), (5, _)]) H36 rfl (wn rfl) (R_as H36 rfl rfl) rfl (.cons rfl (.cons rfl (.cons rfl (.cons rfl (.cons rfl (.cons rfl .nil)))))) fun a37 H37 => ?_
  clear H36
  refine h_end ?_
  repeat (go_not_at_region 20; go_step)
  refine wp_cond_false (H37.ev (x := .tmp 89) rfl) ?_
  repeat (go_not_at_region 20; go_step)
  by_cases hc : m.kind = 6
  · repeat (go_not_at_region 20; go_step)
    refine wp_region_lit ?_
    refine h_op (m' := [(105, _), (58, _), (7, _), (6, _), (1, _), (5, _)]) H37 rfl (wn rfl) (R_bin H37 rfl rfl rfl (B_to (y := true) (B8_eq _ _) (by rw [hc]; rfl))) rfl (.cons rfl (.cons rfl (.cons rfl (.cons rfl (.cons rfl (.cons rfl .nil)))))) fun a38 H38 => ?_
    clear H37
    refine h_op (m' := [(104, _), (58, _), (7, _), (6, _), (1, _), (5, _)]) H38 rfl (wn rfl) (R_as H38 rfl rfl) rfl (.cons rfl (.cons rfl (.cons rfl (.cons rfl (.cons rfl (.cons rfl .nil)))))) fun a39 H39 => ?_
    clear H38
    refine h_end ?_
    repeat (go_not_at_region 21; go_step)
    refine wp_cond_true (H39.ev (x := .tmp 104) rfl) ?_
    repeat (go_not_at_region 21; go_step)
    refine wp_region_held_drew (S := fun w' => Live W [(W.heap.size, mcells m (.slice A1 m.owner.length c1) (.slice A2 m.set.length c2), 29)] w') (by kernel_rfl) hL.drew (fun hL' => ?_)
    replace hL := hL'
    clear hL'
    refine a_op (m' := [(106, _), (1, _), (5, _)]) 0 H39 rfl rfl (by kernel_rfl) (by kernel_rfl) (by kernel_rfl) (fun _ _ _ h => h) (wn rfl) (fun w hL => R_mv H39 rfl rfl) hL rfl (.cons rfl (.cons rfl (.cons rfl .nil))) fun a40 H40 => ?_
    clear H39
    refine a_op (m' := [(107, _), (106, _), (1, _), (5, _)]) 1 H40 rfl rfl (by kernel_rfl) (by kernel_rfl) (by kernel_rfl) (fun _ _ _ h => h) (wn rfl) (fun w hL => R_fa H40 rfl rfl (fa29_4 _ _)) hL rfl (.cons rfl (.cons rfl (.cons rfl (.cons rfl .nil)))) fun a41 H41 => ?_
    clear H40
    refine a_op (m' := [(111, _), (107, _), (106, _), (5, _)]) 5 H41 rfl rfl (by kernel_rfl) (by kernel_rfl) (by kernel_rfl) (fun _ _ _ h => h) (wn rfl) (fun w hL => R_fa H41 rfl rfl (fa29_11 _ _)) hL rfl (.cons rfl (.cons rfl (.cons rfl (.cons rfl .nil)))) fun a42 H42 => ?_
    clear H41
    refine a_op (m' := [(108, _), (111, _), (106, _), (5, _)]) 2 H42 rfl rfl (by kernel_rfl) (by kernel_rfl) (by kernel_rfl) (fun _ _ _ h => h) (wn rfl) (fun w hL => R_ld H42 rfl rfl (ld_int (hL.cell 4))) hL rfl (.cons rfl (.cons rfl (.cons rfl (.cons rfl .nil)))) fun a43 H43 => ?_
    clear H42
    refine a_op (m' := [(112, _), (108, _), (106, _), (5, _)]) 6 H43 rfl rfl (by kernel_rfl) (by kernel_rfl) (by kernel_rfl) (fun _ _ _ h => h) (wn rfl) (fun w hL => R_ld H43 rfl rfl (ld_sl (hL.cell 20))) hL rfl (.cons rfl (.cons rfl (.cons rfl (.cons rfl .nil)))) fun a44 H44 => ?_
    clear H43
    refine a_all1 3 (by kernel_rfl) ?_
    refine o_callB (m' := [(109, _), (112, _), (106, _), (5, _)]) 3 H44 rfl rfl (wn rfl) (R_call1 H44 rfl rfl (fun w => by simp [go_sem])) rfl hL (rnum_in bn) (.cons rfl (.cons rfl (.cons rfl (.cons rfl .nil)))) fun a45 w45 H45 hL' => ⟨hL', ?_⟩
    replace hL := hL'
    clear H44 hL'
    refine a_op (m' := [(110, _), (112, _), (5, _)]) 4 H45 rfl rfl (by kernel_rfl) (by kernel_rfl) (by kernel_rfl) (fun _ _ _ h => h) (wn rfl) (fun w hL => R_bin H45 rfl rfl rfl (B_catL _ _ (by (try simp only [List.length_append, List.length_cons, List.length_nil]); omega))) hL rfl (.cons rfl (.cons rfl (.cons rfl .nil))) fun a46 H46 => ?_
    clear H45
    refine a_all1 7 (by kernel_rfl) ?_
    refine o_callB (m' := [(113, _), (110, _), (5, _)]) 7 H46 rfl rfl (wn rfl) (R_call1 H46 rfl rfl (fun w => by simp [go_sem])) rfl hL (rlist_any (K2 hL.1) bset (by omega)) (.cons rfl (.cons rfl (.cons rfl .nil))) fun a47 w47 H47 hL' => ⟨hL', ?_⟩
    replace hL := hL'
    clear H46 hL'
    refine a_op (m' := [(114, _), (5, _)]) 8 H47 rfl rfl (by kernel_rfl) (by kernel_rfl) (by kernel_rfl) (fun _ _ _ h => h) (wn rfl) (fun w hL => R_bin H47 rfl rfl rfl (B_catL _ _ (by (try simp only [List.length_append, List.length_cons, List.length_nil]); omega))) hL rfl (.cons rfl (.cons rfl .nil)) fun a48 H48 => ?_
    clear H47
    refine a_op (m' := [(5, _)]) 9 H48 rfl rfl (by kernel_rfl) (by kernel_rfl) (by kernel_rfl) (fun _ _ _ h => h) (wn rfl) (fun w hL => R_as H48 rfl rfl) hL rfl (.cons rfl .nil) fun a49 H49 => ?_
    clear H48
    refine wpAnyH_done (by kernel_rfl) ?_ _
    repeat (go_not_at_region 33; go_step)
    refine wp_region_lit ?_
    refine h_op (m' := [(162, _)]) H49 rfl (wn rfl) (R_mv H49 rfl rfl) rfl (.cons rfl .nil) fun a50 H50 => ?_
    clear H49
    refine h_op (m' := [(2, _)]) H50 rfl (wn rfl) (R_as H50 rfl rfl) rfl (.cons rfl .nil) fun a51 H51 => ?_
    clear H50
    refine h_op (m' := [(3, _), (2, _)]) H51 rfl (wn rfl) (R_as H51 rfl rfl) rfl (.cons rfl (.cons rfl .nil)) fun a52 H52 => ?_
    clear H51
    refine h_end ?_
    repeat (go_not_at_region 999; go_step)
    refine H52.ret2 rfl rfl rfl ⟨congrArg (fun l => Ending.returned (.tuple #[.string (packL l), .int .i64 0])) ?_, hL.1⟩
    rw [hpre]
    simp [outM, emsM, hc, emN, emB, emI, emU, emT, emL, itemOut]
  repeat (go_not_at_region 20; go_step)
  refine wp_region_lit ?_
  refine h_op (m' := [(105, _), (58, _), (7, _), (6, _), (1, _), (5, _)]) H37 rfl (wn rfl) (R_bin H37 rfl rfl rfl (B_to (y := false) (B8_eq _ _) (beq_eq_false_iff_ne.2 (by omega)))) rfl (.cons rfl (.cons rfl (.cons rfl (.cons rfl (.cons rfl (.cons rfl .nil)))))) fun a38 H38 => ?_
  clear H37
  refine h_op (m' := [(104, _), (58, _), (7, _), (6, _), (1, _), (5, _)]) H38 rfl (wn rfl) (R_as H38 rfl rfl) rfl (.cons rfl (.cons rfl (.cons rfl (.cons rfl (.cons rfl (.cons rfl .nil)))))) fun a39 H39 => ?_
  clear H38
  refine h_end ?_
  repeat (go_not_at_region 22; go_step)
  refine wp_cond_false (H39.ev (x := .tmp 104) rfl) ?_
  repeat (go_not_at_region 22; go_step)
  by_cases hc : m.kind = 7
  · repeat (go_not_at_region 22; go_step)
    refine wp_region_lit ?_
    refine h_op (m' := [(116, _), (58, _), (7, _), (6, _), (1, _), (5, _)]) H39 rfl (wn rfl) (R_bin H39 rfl rfl rfl (B_to (y := true) (B8_eq _ _) (by rw [hc]; rfl))) rfl (.cons rfl (.cons rfl (.cons rfl (.cons rfl (.cons rfl (.cons rfl .nil)))))) fun a40 H40 => ?_
    clear H39
    refine h_op (m' := [(115, _), (58, _), (7, _), (6, _), (1, _), (5, _)]) H40 rfl (wn rfl) (R_as H40 rfl rfl) rfl (.cons rfl (.cons rfl (.cons rfl (.cons rfl (.cons rfl (.cons rfl .nil)))))) fun a41 H41 => ?_
    clear H40
    refine h_end ?_
    repeat (go_not_at_region 23; go_step)
    refine wp_cond_true (H41.ev (x := .tmp 115) rfl) ?_
    repeat (go_not_at_region 23; go_step)
    refine wp_region_held_drew (S := fun w' => Live W [(W.heap.size, mcells m (.slice A1 m.owner.length c1) (.slice A2 m.set.length c2), 29)] w') (by kernel_rfl) hL.drew (fun hL' => ?_)
    replace hL := hL'
    clear hL'
    refine a_op (m' := [(117, _), (1, _), (5, _)]) 0 H41 rfl rfl (by kernel_rfl) (by kernel_rfl) (by kernel_rfl) (fun _ _ _ h => h) (wn rfl) (fun w hL => R_mv H41 rfl rfl) hL rfl (.cons rfl (.cons rfl (.cons rfl .nil))) fun a42 H42 => ?_
    clear H41
    refine a_op (m' := [(118, _), (117, _), (1, _), (5, _)]) 1 H42 rfl rfl (by kernel_rfl) (by kernel_rfl) (by kernel_rfl) (fun _ _ _ h => h) (wn rfl) (fun w hL => R_fa H42 rfl rfl (fa29_4 _ _)) hL rfl (.cons rfl (.cons rfl (.cons rfl (.cons rfl .nil)))) fun a43 H43 => ?_
    clear H42
    refine a_op (m' := [(122, _), (118, _), (117, _), (5, _)]) 5 H43 rfl rfl (by kernel_rfl) (by kernel_rfl) (by kernel_rfl) (fun _ _ _ h => h) (wn rfl) (fun w hL => R_fa H43 rfl rfl (fa29_9 _ _)) hL rfl (.cons rfl (.cons rfl (.cons rfl (.cons rfl .nil)))) fun a44 H44 => ?_
    clear H43
    refine a_op (m' := [(119, _), (122, _), (117, _), (5, _)]) 2 H44 rfl rfl (by kernel_rfl) (by kernel_rfl) (by kernel_rfl) (fun _ _ _ h => h) (wn rfl) (fun w hL => R_ld H44 rfl rfl (ld_int (hL.cell 4))) hL rfl (.cons rfl (.cons rfl (.cons rfl (.cons rfl .nil)))) fun a45 H45 => ?_
    clear H44
    refine a_op (m' := [(123, _), (119, _), (117, _), (5, _)]) 6 H45 rfl rfl (by kernel_rfl) (by kernel_rfl) (by kernel_rfl) (fun _ _ _ h => h) (wn rfl) (fun w hL => R_ld H45 rfl rfl (ld_item (hL.cell 9) (hL.cell 10) (hL.cell 11) (hL.cell 12) (hL.cell 13) (hL.cell 14) (hL.cell 15) (hL.cell 16))) hL rfl (.cons rfl (.cons rfl (.cons rfl (.cons rfl .nil)))) fun a46 H46 => ?_
    clear H45
    refine a_all1 3 (by kernel_rfl) ?_
    refine o_callB (m' := [(120, _), (123, _), (117, _), (5, _)]) 3 H46 rfl rfl (wn rfl) (R_call1 H46 rfl rfl (fun w => by simp [go_sem])) rfl hL (rnum_in bn) (.cons rfl (.cons rfl (.cons rfl (.cons rfl .nil)))) fun a47 w47 H47 hL' => ⟨hL', ?_⟩
    replace hL := hL'
    clear H46 hL'
    refine a_op (m' := [(121, _), (123, _), (5, _)]) 4 H47 rfl rfl (by kernel_rfl) (by kernel_rfl) (by kernel_rfl) (fun _ _ _ h => h) (wn rfl) (fun w hL => R_bin H47 rfl rfl rfl (B_catL _ _ (by (try simp only [List.length_append, List.length_cons, List.length_nil]); omega))) hL rfl (.cons rfl (.cons rfl (.cons rfl .nil))) fun a48 H48 => ?_
    clear H47
    refine a_all1 7 (by kernel_rfl) ?_
    refine o_callB (m' := [(124, _), (121, _), (5, _)]) 7 H48 rfl rfl (wn rfl) (R_call1 H48 rfl rfl (fun w => by simp [go_sem])) rfl hL (rItem_any (m := m) bisrc biseq bilow hik (by omega) bipart hf.iat0 hf.iat1 hf.iN0 hf.iN1) (.cons rfl (.cons rfl (.cons rfl .nil))) fun a49 w49 H49 hL' => ⟨hL', ?_⟩
    replace hL := hL'
    clear H48 hL'
    refine a_op (m' := [(125, _), (5, _)]) 8 H49 rfl rfl (by kernel_rfl) (by kernel_rfl) (by kernel_rfl) (fun _ _ _ h => h) (wn rfl) (fun w hL => R_bin H49 rfl rfl rfl (B_catL _ _ (by (try simp only [List.length_append, List.length_cons, List.length_nil]); omega))) hL rfl (.cons rfl (.cons rfl .nil)) fun a50 H50 => ?_
    clear H49
    refine a_op (m' := [(5, _)]) 9 H50 rfl rfl (by kernel_rfl) (by kernel_rfl) (by kernel_rfl) (fun _ _ _ h => h) (wn rfl) (fun w hL => R_as H50 rfl rfl) hL rfl (.cons rfl .nil) fun a51 H51 => ?_
    clear H50
    refine wpAnyH_done (by kernel_rfl) ?_ _
    repeat (go_not_at_region 33; go_step)
    refine wp_region_lit ?_
    refine h_op (m' := [(162, _)]) H51 rfl (wn rfl) (R_mv H51 rfl rfl) rfl (.cons rfl .nil) fun a52 H52 => ?_
    clear H51
    refine h_op (m' := [(2, _)]) H52 rfl (wn rfl) (R_as H52 rfl rfl) rfl (.cons rfl .nil) fun a53 H53 => ?_
    clear H52
    refine h_op (m' := [(3, _), (2, _)]) H53 rfl (wn rfl) (R_as H53 rfl rfl) rfl (.cons rfl (.cons rfl .nil)) fun a54 H54 => ?_
    clear H53
    refine h_end ?_
    repeat (go_not_at_region 999; go_step)
    refine H54.ret2 rfl rfl rfl ⟨congrArg (fun l => Ending.returned (.tuple #[.string (packL l), .int .i64 0])) ?_, hL.1⟩
    rw [hpre]
    simp [outM, emsM, hc, emN, emB, emI, emU, emT, emL, itemOut]
  repeat (go_not_at_region 22; go_step)
  refine wp_region_lit ?_
  refine h_op (m' := [(116, _), (58, _), (7, _), (6, _), (1, _), (5, _)]) H39 rfl (wn rfl) (R_bin H39 rfl rfl rfl (B_to (y := false) (B8_eq _ _) (beq_eq_false_iff_ne.2 (by omega)))) rfl (.cons rfl (.cons rfl (.cons rfl (.cons rfl (.cons rfl (.cons rfl .nil)))))) fun a40 H40 => ?_
  clear H39
  refine h_op (m' := [(115, _), (58, _), (7, _), (6, _), (1, _), (5, _)]) H40 rfl (wn rfl) (R_as H40 rfl rfl) rfl (.cons rfl (.cons rfl (.cons rfl (.cons rfl (.cons rfl (.cons rfl .nil)))))) fun a41 H41 => ?_
  clear H40
  refine h_end ?_
  repeat (go_not_at_region 24; go_step)
  refine wp_cond_false (H41.ev (x := .tmp 115) rfl) ?_
  repeat (go_not_at_region 24; go_step)
  by_cases hc : m.kind = 8
  · repeat (go_not_at_region 24; go_step)
    refine wp_region_lit ?_
    refine h_op (m' := [(127, _), (58, _), (7, _), (6, _), (1, _), (5, _)]) H41 rfl (wn rfl) (R_bin H41 rfl rfl rfl (B_to (y := true) (B8_eq _ _) (by rw [hc]; rfl))) rfl (.cons rfl (.cons rfl (.cons rfl (.cons rfl (.cons rfl (.cons rfl .nil)))))) fun a42 H42 => ?_
    clear H41
    refine h_op (m' := [(126, _), (58, _), (7, _), (6, _), (1, _), (5, _)]) H42 rfl (wn rfl) (R_as H42 rfl rfl) rfl (.cons rfl (.cons rfl (.cons rfl (.cons rfl (.cons rfl (.cons rfl .nil)))))) fun a43 H43 => ?_
    clear H42
    refine h_end ?_
    repeat (go_not_at_region 25; go_step)
    refine wp_cond_true (H43.ev (x := .tmp 126) rfl) ?_
    repeat (go_not_at_region 25; go_step)
    refine wp_region_lit ?_
    refine h_op (m' := [(128, _), (1, _), (5, _)]) H43 rfl (wn rfl) (R_mv H43 rfl rfl) rfl (.cons rfl (.cons rfl (.cons rfl .nil))) fun a44 H44 => ?_
    clear H43
    refine h_op (m' := [(129, _), (128, _), (5, _)]) H44 rfl (wn rfl) (R_fa H44 rfl rfl (fa29_4 _ _)) rfl (.cons rfl (.cons rfl (.cons rfl .nil))) fun a45 H45 => ?_
    clear H44
    refine h_op (m' := [(130, _), (128, _), (5, _)]) H45 rfl (wn rfl) (R_ld H45 rfl rfl (ld_int (hL.cell 4))) rfl (.cons rfl (.cons rfl (.cons rfl .nil))) fun a46 H46 => ?_
    clear H45
    refine h_call H46 rfl (wn rfl) (R_call1 H46 rfl rfl (fun w => by simp [go_sem])) rfl ?_
    refine (rnum_in bn).mono ?_
    rintro e wx ⟨rfl, hb⟩
    replace hL := hL.call hb
    clear hb
    refine ⟨_, rfl, fun a47 HH => ?_⟩
    have H47 := HH [(131, _), (128, _), (5, _)] (.cons rfl (.cons rfl (.cons rfl .nil)))
    clear HH H46
    refine h_op (m' := [(132, _), (5, _)]) H47 rfl (wn rfl) (R_bin H47 rfl rfl rfl (B_catL _ _ (by (try simp only [List.length_append, List.length_cons, List.length_nil]); omega))) rfl (.cons rfl (.cons rfl .nil)) fun a48 H48 => ?_
    clear H47
    refine h_op (m' := [(5, _)]) H48 rfl (wn rfl) (R_as H48 rfl rfl) rfl (.cons rfl .nil) fun a49 H49 => ?_
    clear H48
    refine h_end ?_
    repeat (go_not_at_region 33; go_step)
    refine wp_region_lit ?_
    refine h_op (m' := [(162, _)]) H49 rfl (wn rfl) (R_mv H49 rfl rfl) rfl (.cons rfl .nil) fun a50 H50 => ?_
    clear H49
    refine h_op (m' := [(2, _)]) H50 rfl (wn rfl) (R_as H50 rfl rfl) rfl (.cons rfl .nil) fun a51 H51 => ?_
    clear H50
    refine h_op (m' := [(3, _), (2, _)]) H51 rfl (wn rfl) (R_as H51 rfl rfl) rfl (.cons rfl (.cons rfl .nil)) fun a52 H52 => ?_
    clear H51
    refine h_end ?_
    repeat (go_not_at_region 999; go_step)
    refine H52.ret2 rfl rfl rfl ⟨congrArg (fun l => Ending.returned (.tuple #[.string (packL l), .int .i64 0])) ?_, hL.1⟩
    rw [hpre]
    simp [outM, emsM, hc, emN, emB, emI, emU, emT, emL, itemOut]
  repeat (go_not_at_region 24; go_step)
  refine wp_region_lit ?_
  refine h_op (m' := [(127, _), (58, _), (7, _), (6, _), (1, _), (5, _)]) H41 rfl (wn rfl) (R_bin H41 rfl rfl rfl (B_to (y := false) (B8_eq _ _) (beq_eq_false_iff_ne.2 (by omega)))) rfl (.cons rfl (.cons rfl (.cons rfl (.cons rfl (.cons rfl (.cons rfl .nil)))))) fun a42 H42 => ?_
  clear H41
  refine h_op (m' := [(126, _), (58, _), (7, _), (6, _), (1, _), (5, _)]) H42 rfl (wn rfl) (R_as H42 rfl rfl) rfl (.cons rfl (.cons rfl (.cons rfl (.cons rfl (.cons rfl (.cons rfl .nil)))))) fun a43 H43 => ?_
  clear H42
  refine h_end ?_
  repeat (go_not_at_region 26; go_step)
  refine wp_cond_false (H43.ev (x := .tmp 126) rfl) ?_
  repeat (go_not_at_region 26; go_step)
  by_cases hc : m.kind = 9
  · repeat (go_not_at_region 26; go_step)
    refine wp_region_lit ?_
    refine h_op (m' := [(134, _), (58, _), (7, _), (6, _), (1, _), (5, _)]) H43 rfl (wn rfl) (R_bin H43 rfl rfl rfl (B_to (y := true) (B8_eq _ _) (by rw [hc]; rfl))) rfl (.cons rfl (.cons rfl (.cons rfl (.cons rfl (.cons rfl (.cons rfl .nil)))))) fun a44 H44 => ?_
    clear H43
    refine h_op (m' := [(133, _), (58, _), (7, _), (6, _), (1, _), (5, _)]) H44 rfl (wn rfl) (R_as H44 rfl rfl) rfl (.cons rfl (.cons rfl (.cons rfl (.cons rfl (.cons rfl (.cons rfl .nil)))))) fun a45 H45 => ?_
    clear H44
    refine h_end ?_
    repeat (go_not_at_region 27; go_step)
    refine wp_cond_true (H45.ev (x := .tmp 133) rfl) ?_
    repeat (go_not_at_region 27; go_step)
    refine wp_region_held_drew (S := fun w' => Live W [(W.heap.size, mcells m (.slice A1 m.owner.length c1) (.slice A2 m.set.length c2), 29)] w') (by kernel_rfl) hL.drew (fun hL' => ?_)
    replace hL := hL'
    clear hL'
    refine a_op (m' := [(135, _), (1, _), (5, _)]) 0 H45 rfl rfl (by kernel_rfl) (by kernel_rfl) (by kernel_rfl) (fun _ _ _ h => h) (wn rfl) (fun w hL => R_mv H45 rfl rfl) hL rfl (.cons rfl (.cons rfl (.cons rfl .nil))) fun a46 H46 => ?_
    clear H45
    refine a_op (m' := [(136, _), (135, _), (1, _), (5, _)]) 1 H46 rfl rfl (by kernel_rfl) (by kernel_rfl) (by kernel_rfl) (fun _ _ _ h => h) (wn rfl) (fun w hL => R_fa H46 rfl rfl (fa29_4 _ _)) hL rfl (.cons rfl (.cons rfl (.cons rfl (.cons rfl .nil)))) fun a47 H47 => ?_
    clear H46
    refine a_op (m' := [(140, _), (136, _), (135, _), (1, _), (5, _)]) 5 H47 rfl rfl (by kernel_rfl) (by kernel_rfl) (by kernel_rfl) (fun _ _ _ h => h) (wn rfl) (fun w hL => R_fa H47 rfl rfl (fa29_8 _ _)) hL rfl (.cons rfl (.cons rfl (.cons rfl (.cons rfl (.cons rfl .nil))))) fun a48 H48 => ?_
    clear H47
    refine a_op (m' := [(145, _), (140, _), (136, _), (135, _), (5, _)]) 10 H48 rfl rfl (by kernel_rfl) (by kernel_rfl) (by kernel_rfl) (fun _ _ _ h => h) (wn rfl) (fun w hL => R_fa H48 rfl rfl (fa29_7 _ _)) hL rfl (.cons rfl (.cons rfl (.cons rfl (.cons rfl (.cons rfl .nil))))) fun a49 H49 => ?_
    clear H48
    refine a_op (m' := [(137, _), (145, _), (140, _), (135, _), (5, _)]) 2 H49 rfl rfl (by kernel_rfl) (by kernel_rfl) (by kernel_rfl) (fun _ _ _ h => h) (wn rfl) (fun w hL => R_ld H49 rfl rfl (ld_int (hL.cell 4))) hL rfl (.cons rfl (.cons rfl (.cons rfl (.cons rfl (.cons rfl .nil))))) fun a50 H50 => ?_
    clear H49
    refine a_op (m' := [(141, _), (137, _), (145, _), (135, _), (5, _)]) 6 H50 rfl rfl (by kernel_rfl) (by kernel_rfl) (by kernel_rfl) (fun _ _ _ h => h) (wn rfl) (fun w hL => R_ld H50 rfl rfl (ld_i64 (hL.cell 8))) hL rfl (.cons rfl (.cons rfl (.cons rfl (.cons rfl (.cons rfl .nil))))) fun a51 H51 => ?_
    clear H50
    refine a_op (m' := [(146, _), (141, _), (137, _), (135, _), (5, _)]) 11 H51 rfl rfl (by kernel_rfl) (by kernel_rfl) (by kernel_rfl) (fun _ _ _ h => h) (wn rfl) (fun w hL => R_ld H51 rfl rfl (ld_u64 (hL.cell 7))) hL rfl (.cons rfl (.cons rfl (.cons rfl (.cons rfl (.cons rfl .nil))))) fun a52 H52 => ?_
    clear H51
    refine a_all1 3 (by kernel_rfl) ?_
    refine o_callB (m' := [(138, _), (146, _), (141, _), (135, _), (5, _)]) 3 H52 rfl rfl (wn rfl) (R_call1 H52 rfl rfl (fun w => by simp [go_sem])) rfl hL (rnum_in bn) (.cons rfl (.cons rfl (.cons rfl (.cons rfl (.cons rfl .nil))))) fun a53 w53 H53 hL' => ⟨hL', ?_⟩
    replace hL := hL'
    clear H52 hL'
    refine a_op (m' := [(139, _), (146, _), (141, _), (5, _)]) 4 H53 rfl rfl (by kernel_rfl) (by kernel_rfl) (by kernel_rfl) (fun _ _ _ h => h) (wn rfl) (fun w hL => R_bin H53 rfl rfl rfl (B_catL _ _ (by (try simp only [List.length_append, List.length_cons, List.length_nil]); omega))) hL rfl (.cons rfl (.cons rfl (.cons rfl (.cons rfl .nil)))) fun a54 H54 => ?_
    clear H53
    refine a_all1 7 (by kernel_rfl) ?_
    refine o_callB (m' := [(142, _), (139, _), (146, _), (5, _)]) 7 H54 rfl rfl (wn rfl) (R_call1 H54 rfl rfl (fun w => by simp [go_sem])) rfl hL (rZig_b hf.at0 hf.at1 _) (.cons rfl (.cons rfl (.cons rfl (.cons rfl .nil)))) fun a55 w55 H55 hL' => ⟨hL', ?_⟩
    replace hL := hL'
    clear H54 hL'
    refine a_all1 8 (by kernel_rfl) ?_
    refine o_callB (m' := [(143, _), (139, _), (146, _), (5, _)]) 8 H55 rfl rfl (wn rfl) (R_call1 H55 rfl rfl (fun w => by simp [go_sem])) rfl hL (rNum_b (zig_lt hf.at0 hf.at1) _) (.cons rfl (.cons rfl (.cons rfl (.cons rfl .nil)))) fun a56 w56 H56 hL' => ⟨hL', ?_⟩
    replace hL := hL'
    clear H55 hL'
    refine a_op (m' := [(144, _), (146, _), (5, _)]) 9 H56 rfl rfl (by kernel_rfl) (by kernel_rfl) (by kernel_rfl) (fun _ _ _ h => h) (wn rfl) (fun w hL => R_bin H56 rfl rfl rfl (B_catL _ _ (by (try simp only [List.length_append, List.length_cons, List.length_nil]); omega))) hL rfl (.cons rfl (.cons rfl (.cons rfl .nil))) fun a57 H57 => ?_
    clear H56
    refine a_all1 12 (by kernel_rfl) ?_
    refine o_callB (m' := [(147, _), (144, _), (5, _)]) 12 H57 rfl rfl (wn rfl) (R_call1 H57 rfl rfl (fun w => by simp [go_sem])) rfl hL (rNum_b hf.digest _) (.cons rfl (.cons rfl (.cons rfl .nil))) fun a58 w58 H58 hL' => ⟨hL', ?_⟩
    replace hL := hL'
    clear H57 hL'
    refine a_op (m' := [(148, _), (5, _)]) 13 H58 rfl rfl (by kernel_rfl) (by kernel_rfl) (by kernel_rfl) (fun _ _ _ h => h) (wn rfl) (fun w hL => R_bin H58 rfl rfl rfl (B_catL _ _ (by (try simp only [List.length_append, List.length_cons, List.length_nil]); omega))) hL rfl (.cons rfl (.cons rfl .nil)) fun a59 H59 => ?_
    clear H58
    refine a_op (m' := [(5, _)]) 14 H59 rfl rfl (by kernel_rfl) (by kernel_rfl) (by kernel_rfl) (fun _ _ _ h => h) (wn rfl) (fun w hL => R_as H59 rfl rfl) hL rfl (.cons rfl .nil) fun a60 H60 => ?_
    clear H59
    refine wpAnyH_done (by kernel_rfl) ?_ _
    repeat (go_not_at_region 33; go_step)
    refine wp_region_lit ?_
    refine h_op (m' := [(162, _)]) H60 rfl (wn rfl) (R_mv H60 rfl rfl) rfl (.cons rfl .nil) fun a61 H61 => ?_
    clear H60
    refine h_op (m' := [(2, _)]) H61 rfl (wn rfl) (R_as H61 rfl rfl) rfl (.cons rfl .nil) fun a62 H62 => ?_
    clear H61
    refine h_op (m' := [(3, _), (2, _)]) H62 rfl (wn rfl) (R_as H62 rfl rfl) rfl (.cons rfl (.cons rfl .nil)) fun a63 H63 => ?_
    clear H62
    refine h_end ?_
    repeat (go_not_at_region 999; go_step)
    refine H63.ret2 rfl rfl rfl ⟨congrArg (fun l => Ending.returned (.tuple #[.string (packL l), .int .i64 0])) ?_, hL.1⟩
    rw [hpre]
    simp [outM, emsM, hc, emN, emB, emI, emU, emT, emL, itemOut]
  repeat (go_not_at_region 26; go_step)
  refine wp_region_lit ?_
  refine h_op (m' := [(134, _), (58, _), (7, _), (6, _), (1, _), (5, _)]) H43 rfl (wn rfl) (R_bin H43 rfl rfl rfl (B_to (y := false) (B8_eq _ _) (beq_eq_false_iff_ne.2 (by omega)))) rfl (.cons rfl (.cons rfl (.cons rfl (.cons rfl (.cons rfl (.cons rfl .nil)))))) fun a44 H44 => ?_
  clear H43
  refine h_op (m' := [(133, _), (58, _), (7, _), (6, _), (1, _), (5, _)]) H44 rfl (wn rfl) (R_as H44 rfl rfl) rfl (.cons rfl (.cons rfl (.cons rfl (.cons rfl (.cons rfl (.cons rfl .nil)))))) fun a45 H45 => ?_
  clear H44
  refine h_end ?_
  repeat (go_not_at_region 28; go_step)
  refine wp_cond_false (H45.ev (x := .tmp 133) rfl) ?_
  repeat (go_not_at_region 28; go_step)
  by_cases hc : m.kind = 10
  · repeat (go_not_at_region 28; go_step)
    refine wp_region_lit ?_
    refine h_op (m' := [(150, _), (58, _), (7, _), (6, _), (1, _), (5, _)]) H45 rfl (wn rfl) (R_bin H45 rfl rfl rfl (B_to (y := true) (B8_eq _ _) (by rw [hc]; rfl))) rfl (.cons rfl (.cons rfl (.cons rfl (.cons rfl (.cons rfl (.cons rfl .nil)))))) fun a46 H46 => ?_
    clear H45
    refine h_op (m' := [(149, _), (58, _), (7, _), (6, _), (1, _), (5, _)]) H46 rfl (wn rfl) (R_as H46 rfl rfl) rfl (.cons rfl (.cons rfl (.cons rfl (.cons rfl (.cons rfl (.cons rfl .nil)))))) fun a47 H47 => ?_
    clear H46
    refine h_end ?_
    repeat (go_not_at_region 29; go_step)
    refine wp_cond_true (H47.ev (x := .tmp 149) rfl) ?_
    repeat (go_not_at_region 29; go_step)
    refine wp_region_lit ?_
    refine h_op (m' := [(151, _), (1, _), (5, _)]) H47 rfl (wn rfl) (R_mv H47 rfl rfl) rfl (.cons rfl (.cons rfl (.cons rfl .nil))) fun a48 H48 => ?_
    clear H47
    refine h_op (m' := [(152, _), (151, _), (5, _)]) H48 rfl (wn rfl) (R_fa H48 rfl rfl (fa29_6 _ _)) rfl (.cons rfl (.cons rfl (.cons rfl .nil))) fun a49 H49 => ?_
    clear H48
    refine h_op (m' := [(153, _), (151, _), (5, _)]) H49 rfl (wn rfl) (R_ld H49 rfl rfl (ld_int (hL.cell 6))) rfl (.cons rfl (.cons rfl (.cons rfl .nil))) fun a50 H50 => ?_
    clear H49
    refine h_call H50 rfl (wn rfl) (R_call1 H50 rfl rfl (fun w => by simp [go_sem])) rfl ?_
    refine (rnum_in bcode).mono ?_
    rintro e wx ⟨rfl, hb⟩
    replace hL := hL.call hb
    clear hb
    refine ⟨_, rfl, fun a51 HH => ?_⟩
    have H51 := HH [(154, _), (151, _), (5, _)] (.cons rfl (.cons rfl (.cons rfl .nil)))
    clear HH H50
    refine h_op (m' := [(155, _), (5, _)]) H51 rfl (wn rfl) (R_bin H51 rfl rfl rfl (B_catL _ _ (by (try simp only [List.length_append, List.length_cons, List.length_nil]); omega))) rfl (.cons rfl (.cons rfl .nil)) fun a52 H52 => ?_
    clear H51
    refine h_op (m' := [(5, _)]) H52 rfl (wn rfl) (R_as H52 rfl rfl) rfl (.cons rfl .nil) fun a53 H53 => ?_
    clear H52
    refine h_end ?_
    repeat (go_not_at_region 33; go_step)
    refine wp_region_lit ?_
    refine h_op (m' := [(162, _)]) H53 rfl (wn rfl) (R_mv H53 rfl rfl) rfl (.cons rfl .nil) fun a54 H54 => ?_
    clear H53
    refine h_op (m' := [(2, _)]) H54 rfl (wn rfl) (R_as H54 rfl rfl) rfl (.cons rfl .nil) fun a55 H55 => ?_
    clear H54
    refine h_op (m' := [(3, _), (2, _)]) H55 rfl (wn rfl) (R_as H55 rfl rfl) rfl (.cons rfl (.cons rfl .nil)) fun a56 H56 => ?_
    clear H55
    refine h_end ?_
    repeat (go_not_at_region 999; go_step)
    refine H56.ret2 rfl rfl rfl ⟨congrArg (fun l => Ending.returned (.tuple #[.string (packL l), .int .i64 0])) ?_, hL.1⟩
    rw [hpre]
    simp [outM, emsM, hc, emN, emB, emI, emU, emT, emL, itemOut]
  repeat (go_not_at_region 28; go_step)
  refine wp_region_lit ?_
  refine h_op (m' := [(150, _), (58, _), (7, _), (6, _), (1, _), (5, _)]) H45 rfl (wn rfl) (R_bin H45 rfl rfl rfl (B_to (y := false) (B8_eq _ _) (beq_eq_false_iff_ne.2 (by omega)))) rfl (.cons rfl (.cons rfl (.cons rfl (.cons rfl (.cons rfl (.cons rfl .nil)))))) fun a46 H46 => ?_
  clear H45
  refine h_op (m' := [(149, _), (58, _), (7, _), (6, _), (1, _), (5, _)]) H46 rfl (wn rfl) (R_as H46 rfl rfl) rfl (.cons rfl (.cons rfl (.cons rfl (.cons rfl (.cons rfl (.cons rfl .nil)))))) fun a47 H47 => ?_
  clear H46
  refine h_end ?_
  repeat (go_not_at_region 30; go_step)
  refine wp_cond_false (H47.ev (x := .tmp 149) rfl) ?_
  repeat (go_not_at_region 30; go_step)
  by_cases hc : m.kind = 11
  · repeat (go_not_at_region 30; go_step)
    refine wp_region_lit ?_
    refine h_op (m' := [(157, _), (58, _), (7, _), (6, _), (1, _), (5, _)]) H47 rfl (wn rfl) (R_bin H47 rfl rfl rfl (B_to (y := true) (B8_eq _ _) (by rw [hc]; rfl))) rfl (.cons rfl (.cons rfl (.cons rfl (.cons rfl (.cons rfl (.cons rfl .nil)))))) fun a48 H48 => ?_
    clear H47
    refine h_op (m' := [(156, _), (58, _), (7, _), (6, _), (1, _), (5, _)]) H48 rfl (wn rfl) (R_as H48 rfl rfl) rfl (.cons rfl (.cons rfl (.cons rfl (.cons rfl (.cons rfl (.cons rfl .nil)))))) fun a49 H49 => ?_
    clear H48
    refine h_end ?_
    repeat (go_not_at_region 32; go_step)
    refine wp_cond_true (H49.ev (x := .tmp 156) rfl) ?_
    repeat (go_not_at_region 32; go_step)
    refine wp_cond_true (H49.ev (x := .tmp 156) rfl) ?_
    repeat (go_not_at_region 32; go_step)
    refine wp_region_lit ?_
    refine h_op (m' := [(159, _), (7, _), (5, _)]) H49 rfl (wn rfl) (R_mv H49 rfl rfl) rfl (.cons rfl (.cons rfl (.cons rfl .nil))) fun a50 H50 => ?_
    clear H49
    refine h_op (m' := [(160, _), (159, _), (5, _)]) H50 rfl (wn rfl) (R_mv H50 rfl rfl) rfl (.cons rfl (.cons rfl (.cons rfl .nil))) fun a51 H51 => ?_
    clear H50
    refine h_op (m' := [(161, _), (5, _)]) H51 rfl (wn rfl) (R_bin H51 rfl rfl rfl (B_catL _ _ (by (try simp only [List.length_append, List.length_cons, List.length_nil]); omega))) rfl (.cons rfl (.cons rfl .nil)) fun a52 H52 => ?_
    clear H51
    refine h_op (m' := [(5, _)]) H52 rfl (wn rfl) (R_as H52 rfl rfl) rfl (.cons rfl .nil) fun a53 H53 => ?_
    clear H52
    refine h_end ?_
    repeat (go_not_at_region 33; go_step)
    refine wp_region_lit ?_
    refine h_op (m' := [(162, _)]) H53 rfl (wn rfl) (R_mv H53 rfl rfl) rfl (.cons rfl .nil) fun a54 H54 => ?_
    clear H53
    refine h_op (m' := [(2, _)]) H54 rfl (wn rfl) (R_as H54 rfl rfl) rfl (.cons rfl .nil) fun a55 H55 => ?_
    clear H54
    refine h_op (m' := [(3, _), (2, _)]) H55 rfl (wn rfl) (R_as H55 rfl rfl) rfl (.cons rfl (.cons rfl .nil)) fun a56 H56 => ?_
    clear H55
    refine h_end ?_
    repeat (go_not_at_region 999; go_step)
    refine H56.ret2 rfl rfl rfl ⟨congrArg (fun l => Ending.returned (.tuple #[.string (packL l), .int .i64 0])) ?_, hL.1⟩
    rw [hpre]
    simp [outM, emsM, hc, emN, emB, emI, emU, emT, emL, itemOut]
  repeat (go_not_at_region 30; go_step)
  refine wp_region_lit ?_
  refine h_op (m' := [(157, _), (58, _), (7, _), (6, _), (1, _), (5, _)]) H47 rfl (wn rfl) (R_bin H47 rfl rfl rfl (B_to (y := false) (B8_eq _ _) (beq_eq_false_iff_ne.2 (by omega)))) rfl (.cons rfl (.cons rfl (.cons rfl (.cons rfl (.cons rfl (.cons rfl .nil)))))) fun a48 H48 => ?_
  clear H47
  refine h_op (m' := [(156, _), (58, _), (7, _), (6, _), (1, _), (5, _)]) H48 rfl (wn rfl) (R_as H48 rfl rfl) rfl (.cons rfl (.cons rfl (.cons rfl (.cons rfl (.cons rfl (.cons rfl .nil)))))) fun a49 H49 => ?_
  clear H48
  refine h_end ?_
  repeat (go_not_at_region 31; go_step)
  refine wp_cond_false (H49.ev (x := .tmp 156) rfl) ?_
  repeat (go_not_at_region 31; go_step)
  by_cases hc : m.kind = 14
  · repeat (go_not_at_region 31; go_step)
    refine wp_region_lit ?_
    refine h_op (m' := [(158, _), (156, _), (58, _), (7, _), (6, _), (1, _), (5, _)]) H49 rfl (wn rfl) (R_bin H49 rfl rfl rfl (B_to (y := true) (B8_eq _ _) (by rw [hc]; rfl))) rfl (.cons rfl (.cons rfl (.cons rfl (.cons rfl (.cons rfl (.cons rfl (.cons rfl .nil))))))) fun a50 H50 => ?_
    clear H49
    refine h_op (m' := [(156, _), (58, _), (7, _), (6, _), (1, _), (5, _)]) H50 rfl (wn rfl) (R_as H50 rfl rfl) rfl (.cons rfl (.cons rfl (.cons rfl (.cons rfl (.cons rfl (.cons rfl .nil)))))) fun a51 H51 => ?_
    clear H50
    refine h_end ?_
    repeat (go_not_at_region 32; go_step)
    refine wp_cond_true (H51.ev (x := .tmp 156) rfl) ?_
    repeat (go_not_at_region 32; go_step)
    refine wp_region_lit ?_
    refine h_op (m' := [(159, _), (7, _), (5, _)]) H51 rfl (wn rfl) (R_mv H51 rfl rfl) rfl (.cons rfl (.cons rfl (.cons rfl .nil))) fun a52 H52 => ?_
    clear H51
    refine h_op (m' := [(160, _), (159, _), (5, _)]) H52 rfl (wn rfl) (R_mv H52 rfl rfl) rfl (.cons rfl (.cons rfl (.cons rfl .nil))) fun a53 H53 => ?_
    clear H52
    refine h_op (m' := [(161, _), (5, _)]) H53 rfl (wn rfl) (R_bin H53 rfl rfl rfl (B_catL _ _ (by (try simp only [List.length_append, List.length_cons, List.length_nil]); omega))) rfl (.cons rfl (.cons rfl .nil)) fun a54 H54 => ?_
    clear H53
    refine h_op (m' := [(5, _)]) H54 rfl (wn rfl) (R_as H54 rfl rfl) rfl (.cons rfl .nil) fun a55 H55 => ?_
    clear H54
    refine h_end ?_
    repeat (go_not_at_region 33; go_step)
    refine wp_region_lit ?_
    refine h_op (m' := [(162, _)]) H55 rfl (wn rfl) (R_mv H55 rfl rfl) rfl (.cons rfl .nil) fun a56 H56 => ?_
    clear H55
    refine h_op (m' := [(2, _)]) H56 rfl (wn rfl) (R_as H56 rfl rfl) rfl (.cons rfl .nil) fun a57 H57 => ?_
    clear H56
    refine h_op (m' := [(3, _), (2, _)]) H57 rfl (wn rfl) (R_as H57 rfl rfl) rfl (.cons rfl (.cons rfl .nil)) fun a58 H58 => ?_
    clear H57
    refine h_end ?_
    repeat (go_not_at_region 999; go_step)
    refine H58.ret2 rfl rfl rfl ⟨congrArg (fun l => Ending.returned (.tuple #[.string (packL l), .int .i64 0])) ?_, hL.1⟩
    rw [hpre]
    simp [outM, emsM, hc, emN, emB, emI, emU, emT, emL, itemOut]
  repeat (go_not_at_region 31; go_step)
  refine wp_region_lit ?_
  refine h_op (m' := [(158, _), (156, _), (58, _), (7, _), (6, _), (1, _), (5, _)]) H49 rfl (wn rfl) (R_bin H49 rfl rfl rfl (B_to (y := false) (B8_eq _ _) (beq_eq_false_iff_ne.2 (by omega)))) rfl (.cons rfl (.cons rfl (.cons rfl (.cons rfl (.cons rfl (.cons rfl (.cons rfl .nil))))))) fun a50 H50 => ?_
  clear H49
  refine h_op (m' := [(156, _), (58, _), (7, _), (6, _), (1, _), (5, _)]) H50 rfl (wn rfl) (R_as H50 rfl rfl) rfl (.cons rfl (.cons rfl (.cons rfl (.cons rfl (.cons rfl (.cons rfl .nil)))))) fun a51 H51 => ?_
  clear H50
  refine h_end ?_
  repeat (go_not_at_region 33; go_step)
  refine wp_cond_false (H51.ev (x := .tmp 156) rfl) ?_
  repeat (go_not_at_region 33; go_step)
  repeat (go_not_at_region 33; go_step)
  refine wp_region_lit ?_
  refine h_op (m' := [(162, _)]) H51 rfl (wn rfl) (R_mv H51 rfl rfl) rfl (.cons rfl .nil) fun a52 H52 => ?_
  clear H51
  refine h_op (m' := [(2, _)]) H52 rfl (wn rfl) (R_as H52 rfl rfl) rfl (.cons rfl .nil) fun a53 H53 => ?_
  clear H52
  refine h_op (m' := [(3, _), (2, _)]) H53 rfl (wn rfl) (R_as H53 rfl rfl) rfl (.cons rfl (.cons rfl .nil)) fun a54 H54 => ?_
  clear H53
  refine h_end ?_
  repeat (go_not_at_region 999; go_step)
  refine H54.ret2 rfl rfl rfl ⟨congrArg (fun l => Ending.returned (.tuple #[.string (packL l), .int .i64 0])) ?_, hL.1⟩
  have hc : m.kind = 12 ∨ m.kind = 13 := by omega
  rcases hc with hc | hc <;> (rw [hpre]; simp [outM, emsM, hc, emN, emB, emI, emU, emT, emL, itemOut])
end
end Go.Proofs.Ytmmhchpilcjflaa
