/-
  MsgWrites: its walk.
-/
import Derived.Test.YtmmhchpilcjflaaMsgWb
import Derived.Test.YtmmhchpilcjflaaMsgWf
set_option linter.unusedSimpArgs false
set_option linter.unusedVariables false
namespace Go.Proofs.Ytmmhchpilcjflaa
open Go.RowKit

section
variable {W : World} {a m : PMsg} {ao aS vo vs : Value}
set_option maxRecDepth 100000 in
theorem rBytes_bad (h1 : Rd W vo m.owner) (h2 : Rd W vs m.set) (l1 : m.owner.length ≤ 1000000000000) (l2 : m.set.length ≤ 1000000000000) (hr : rightR m ≠ 0) :
    Calls Try.prog 20 #[.agg (mcells m vo vs)] W fun e W' => e = .returned (.tuple #[.string .empty, .int .i64 (rightR m)]) ∧ Below W.heap.size W W' := by
  have hL := (Live.init W).alloc (mcells m vo vs) 29
  have K1 : ∀ {w}, Below W.heap.size W w → Rd w vo m.owner := fun hb => h1.kept fun k hk => hb.block k hk
  have K2 : ∀ {w}, Below W.heap.size W w → Rd w vs m.set := fun hb => h2.kept fun k hk => hb.block k hk
  go_enter Try.func20, Try.ntmps20
  refine wp_fr (n := 163) (m := [(0, _)]) ⟨rfl, rfl, by intro p hp; simp only [List.mem_cons, List.not_mem_nil, or_false] at hp; rcases hp with rfl <;> rfl⟩ fun a0 H0 => ?_
  repeat (go_not_at_region 0; go_step)
  refine wp_region_lit ?_
  refine h_op (m' := [(1, _)]) H0 rfl (wn rfl) (R_box H0 rfl rfl bx_row) rfl (.cons rfl .nil) fun a1 H1 => ?_
  clear H0
  refine h_op (m' := [(1, _)]) H1 rfl (wn rfl) (R_as H1 rfl rfl) rfl (.cons rfl .nil) fun a2 H2 => ?_
  clear H1
  refine h_op (m' := [(1, _)]) H2 rfl (wn rfl) (R_as H2 rfl rfl) rfl (.cons rfl .nil) fun a3 H3 => ?_
  clear H2
  refine h_end ?_
  repeat (go_not_at_region 1; go_step)
  refine wp_region_lit ?_
  refine h_op (m' := [(8, _), (1, _)]) H3 rfl (wn rfl) (R_ld H3 rfl rfl (ld_row (m := m) (vo := vo) (vs := vs) hL.at_)) rfl (.cons rfl (.cons rfl .nil)) fun a4 H4 => ?_
  clear H3
  refine h_call H4 rfl (wn rfl) (R_call1 H4 rfl rfl (fun w => by simp [go_sem])) rfl ?_
  refine (refRight_any (K1 hL.1) (K2 hL.1) l1 l2).mono ?_
  rintro e wx ⟨rfl, hb⟩
  replace hL := hL.call hb
  clear hb
  refine ⟨_, rfl, fun a5 HH => ?_⟩
  have H5 := HH [(9, _), (1, _)] (.cons rfl (.cons rfl .nil))
  clear HH H4
  refine h_op (m' := [(4, _), (1, _)]) H5 rfl (wn rfl) (R_as H5 rfl rfl) rfl (.cons rfl (.cons rfl .nil)) fun a6 H6 => ?_
  clear H5
  refine h_end ?_
  repeat (go_not_at_region 2; go_step)
  refine wp_region_lit ?_
  refine h_op (m' := [(10, _), (4, _)]) H6 rfl (wn rfl) (R_mv H6 rfl rfl) rfl (.cons rfl (.cons rfl .nil)) fun a7 H7 => ?_
  clear H6
  refine h_op (m' := [(11, _), (4, _)]) H7 rfl (wn rfl) (R_bin H7 rfl rfl rfl (B_to (y := true) (B_ne Try.underlying3 _ _) (bne_iff_ne.2 hr))) rfl (.cons rfl (.cons rfl .nil)) fun a8 H8 => ?_
  clear H7
  refine h_end ?_
  repeat (go_not_at_region 3; go_step)
  refine wp_cond_true (H8.ev (x := .tmp 11) rfl) ?_
  repeat (go_not_at_region 3; go_step)
  refine wp_region_lit ?_
  refine h_op (m' := [(12, _)]) H8 rfl (wn rfl) (R_mv H8 rfl rfl) rfl (.cons rfl .nil) fun a9 H9 => ?_
  clear H8
  refine h_op (m' := [(2, _), (12, _)]) H9 rfl (wn rfl) (R_as H9 rfl rfl) rfl (.cons rfl (.cons rfl .nil)) fun a10 H10 => ?_
  clear H9
  refine h_op (m' := [(3, _), (2, _)]) H10 rfl (wn rfl) (R_as H10 rfl rfl) rfl (.cons rfl (.cons rfl .nil)) fun a11 H11 => ?_
  clear H10
  refine h_end ?_
  repeat (go_not_at_region 999; go_step)
  exact H11.ret2 rfl rfl rfl ⟨rfl, hL.1⟩
set_option maxHeartbeats 16000000 in
set_option maxRecDepth 100000 in
theorem writes_law (na : a.FitsN)
    (h1 : Rd W ao a.owner) (h2 : Rd W aS a.set) (l1 : a.owner.length ≤ 9223372036854775807) (l2 : a.set.length ≤ 9223372036854775807) :
    Calls Try.prog 6 #[.agg (mcells a ao aS)] W fun e W' => e = .returned (.bool true) ∧ Below W.heap.size W W' := by
  have hL := ((Live.init W).alloc (mcells a ao aS) 29)
  have K1 : ∀ {w}, Below W.heap.size W w → Rd w ao a.owner := fun hb => h1.kept fun k hk => hb.block k hk
  have K2 : ∀ {w}, Below W.heap.size W w → Rd w aS a.set := fun hb => h2.kept fun k hk => hb.block k hk
  go_enter Try.func6, Try.ntmps6
  refine wp_fr (n := 60) (m := [(0, _)]) ⟨rfl, rfl, by intro p hp; simp only [List.mem_cons, List.not_mem_nil, or_false] at hp; rcases hp with rfl <;> rfl⟩ fun a0 H0 => ?_
  repeat (go_not_at_region 0; go_step)
  refine wp_region_lit ?_
  refine h_op (m' := [(1, _)]) H0 rfl (wn rfl) (R_box H0 rfl rfl bx_row) rfl (.cons rfl .nil) fun a1 H1 => ?_
  clear H0
  refine h_op (m' := [(1, _)]) H1 rfl (wn rfl) (R_as H1 rfl rfl) rfl (.cons rfl .nil) fun a2 H2 => ?_
  clear H1
  refine h_end ?_
  repeat (go_not_at_region 1; go_step)
  refine wp_region_lit ?_
  refine h_call H2 rfl (wn rfl) (R_call0 H2 rfl (fun w => by simp [go_sem])) rfl ?_
  refine (awake_ok).mono ?_
  rintro e wx ⟨rfl, hb⟩
  replace hL := hL.call hb
  clear hb
  refine ⟨_, rfl, fun a3 HH => ?_⟩
  have H3 := HH [(10, _), (1, _)] (.cons rfl (.cons rfl .nil))
  clear HH H2
  refine h_op (m' := [(11, _), (1, _)]) H3 rfl (wn rfl) (R_not H3 rfl rfl) rfl (.cons rfl (.cons rfl .nil)) fun a4 H4 => ?_
  clear H3
  refine h_end ?_
  repeat (go_not_at_region 3; go_step)
  refine wp_cond_false (H4.ev (x := .tmp 11) rfl) ?_
  repeat (go_not_at_region 3; go_step)
  cases ga : greatB a
  rotate_left
  · refine wp_region_lit ?_
    refine h_op (m' := [(12, _), (1, _)]) H4 rfl (wn rfl) (R_ld H4 rfl rfl (ld_row (m := a) (vo := ao) (vs := aS) (hL.mem_at (by simp)))) rfl (.cons rfl (.cons rfl .nil)) fun a5 H5 => ?_
    clear H4
    refine h_call H5 rfl (wn rfl) (R_call1 H5 rfl rfl (fun w => by simp [go_sem])) rfl ?_
    refine (Great_any (K1 hL.1) (K2 hL.1) l1 l2).mono ?_
    rintro e wx ⟨rfl, hb⟩
    replace hL := hL.call hb
    clear hb
    rw [ga]
    refine ⟨_, rfl, fun a6 HH => ?_⟩
    have H6 := HH [(13, _), (1, _)] (.cons rfl (.cons rfl .nil))
    clear HH H5
    refine h_end ?_
    repeat (go_not_at_region 4; go_step)
    refine wp_cond_true (H6.ev (x := .tmp 13) rfl) ?_
    repeat (go_not_at_region 4; go_step)
    refine wp_region_lit ?_
    refine h_op (m' := [(2, _)]) H6 rfl (wn rfl) (R_as H6 rfl rfl) rfl (.cons rfl .nil) fun a7 H7 => ?_
    clear H6
    refine h_end ?_
    repeat (go_not_at_region 999; go_step)
    refine H7.ret1 (v := .bool true) rfl rfl ?_
    exact ⟨rfl, hL.1⟩
  refine wp_region_lit ?_
  refine h_op (m' := [(12, _), (1, _)]) H4 rfl (wn rfl) (R_ld H4 rfl rfl (ld_row (m := a) (vo := ao) (vs := aS) (hL.mem_at (by simp)))) rfl (.cons rfl (.cons rfl .nil)) fun a5 H5 => ?_
  clear H4
  refine h_call H5 rfl (wn rfl) (R_call1 H5 rfl rfl (fun w => by simp [go_sem])) rfl ?_
  refine (Great_any (K1 hL.1) (K2 hL.1) l1 l2).mono ?_
  rintro e wx ⟨rfl, hb⟩
  replace hL := hL.call hb
  clear hb
  rw [ga]
  refine ⟨_, rfl, fun a6 HH => ?_⟩
  have H6 := HH [(13, _), (1, _)] (.cons rfl (.cons rfl .nil))
  clear HH H5
  refine h_end ?_
  repeat (go_not_at_region 5; go_step)
  refine wp_cond_false (H6.ev (x := .tmp 13) rfl) ?_
  repeat (go_not_at_region 5; go_step)
  have fa := fits_g na ga
  have ka := na.kind
  have ia := na.ikind
  have lo1 : a.owner.length ≤ 1000000000000 := by have := great_no ga; omega
  have ls1 : a.set.length ≤ 1000000000000 := by have := great_no ga; omega
  have hdoc := right_doc fa ka ia
  by_cases ea : errM a = 0
  · obtain ⟨hwk, hra⟩ := bytesM_ok fa ka ia (err_iff.1 ea)
    have hbo : bytesOr a = packL (outM a) := by
      have hb := err_iff.1 ea
      rw [bytes_em fa ka ia] at hb
      split at hb
      · split at hb
        · exact (Except.ok.inj hb).symm
        · cases hb
      · cases hb
    have hdo : dataOr a = packL (frameL (packL (outM a))) := by
      rw [← hbo]
      unfold dataOr
      rw [data_ok fa ka ia (err_iff.1 ea)]
    have hz1 := bytesOr_size fa ka ia
    rw [hbo] at hz1
    refine wp_region_lit ?_
    refine h_op (m' := [(15, _), (1, _)]) H6 rfl (wn rfl) (R_ld H6 rfl rfl (ld_row (m := a) (vo := ao) (vs := aS) (hL.mem_at (by simp)))) rfl (.cons rfl (.cons rfl .nil)) fun a7 H7 => ?_
    clear H6
    refine h_call H7 rfl (wn rfl) (R_call1 H7 rfl rfl (fun w => by simp [go_sem])) rfl ?_
    refine (Bytes_e fa ka ia (K1 hL.1) (K2 hL.1) lo1 ls1).mono ?_
    rintro e wx ⟨rfl, hb⟩
    replace hL := hL.call hb
    clear hb
    rw [ea, hbo]
    refine ⟨_, rfl, fun a8 HH => ?_⟩
    have H8 := HH [(16, _), (1, _)] (.cons rfl (.cons rfl .nil))
    clear HH H7
    refine h_op (m' := [(14, _), (1, _)]) H8 rfl (wn rfl) (R_mv H8 rfl rfl) rfl (.cons rfl (.cons rfl .nil)) fun a9 H9 => ?_
    clear H8
    refine h_op (m' := [(17, _), (14, _), (1, _)]) H9 rfl (wn rfl) (R_ext H9 rfl rfl rfl) rfl (.cons rfl (.cons rfl (.cons rfl .nil))) fun a10 H10 => ?_
    clear H9
    refine h_op (m' := [(18, _), (17, _), (1, _)]) H10 rfl (wn rfl) (R_ext H10 rfl rfl rfl) rfl (.cons rfl (.cons rfl (.cons rfl .nil))) fun a11 H11 => ?_
    clear H10
    refine h_op (m' := [(3, _), (18, _), (1, _)]) H11 rfl (wn rfl) (R_as H11 rfl rfl) rfl (.cons rfl (.cons rfl (.cons rfl .nil))) fun a12 H12 => ?_
    clear H11
    refine h_op (m' := [(4, _), (3, _), (1, _)]) H12 rfl (wn rfl) (R_as H12 rfl rfl) rfl (.cons rfl (.cons rfl (.cons rfl .nil))) fun a13 H13 => ?_
    clear H12
    refine h_end ?_
    repeat (go_not_at_region 6; go_step)
    refine wp_region_lit ?_
    refine h_op (m' := [(20, _), (4, _), (3, _), (1, _)]) H13 rfl (wn rfl) (R_ld H13 rfl rfl (ld_row (m := a) (vo := ao) (vs := aS) (hL.mem_at (by simp)))) rfl (.cons rfl (.cons rfl (.cons rfl (.cons rfl .nil)))) fun a14 H14 => ?_
    clear H13
    refine h_call H14 rfl (wn rfl) (R_call1 H14 rfl rfl (fun w => by simp [go_sem])) rfl ?_
    refine (rBytes_ok fa ka ia (K1 hL.1) (K2 hL.1) lo1 ls1 (hdoc.symm.trans ea)).mono ?_
    rintro e wx ⟨rfl, hb⟩
    replace hL := hL.call hb
    clear hb
    refine ⟨_, rfl, fun a15 HH => ?_⟩
    have H15 := HH [(21, _), (4, _), (3, _), (1, _)] (.cons rfl (.cons rfl (.cons rfl (.cons rfl .nil))))
    clear HH H14
    refine h_op (m' := [(19, _), (4, _), (3, _), (1, _)]) H15 rfl (wn rfl) (R_mv H15 rfl rfl) rfl (.cons rfl (.cons rfl (.cons rfl (.cons rfl .nil)))) fun a16 H16 => ?_
    clear H15
    refine h_op (m' := [(22, _), (19, _), (4, _), (3, _), (1, _)]) H16 rfl (wn rfl) (R_ext H16 rfl rfl rfl) rfl (.cons rfl (.cons rfl (.cons rfl (.cons rfl (.cons rfl .nil))))) fun a17 H17 => ?_
    clear H16
    refine h_op (m' := [(23, _), (22, _), (4, _), (3, _), (1, _)]) H17 rfl (wn rfl) (R_ext H17 rfl rfl rfl) rfl (.cons rfl (.cons rfl (.cons rfl (.cons rfl (.cons rfl .nil))))) fun a18 H18 => ?_
    clear H17
    refine h_op (m' := [(5, _), (23, _), (4, _), (3, _), (1, _)]) H18 rfl (wn rfl) (R_as H18 rfl rfl) rfl (.cons rfl (.cons rfl (.cons rfl (.cons rfl (.cons rfl .nil))))) fun a19 H19 => ?_
    clear H18
    refine h_op (m' := [(6, _), (5, _), (4, _), (3, _), (1, _)]) H19 rfl (wn rfl) (R_as H19 rfl rfl) rfl (.cons rfl (.cons rfl (.cons rfl (.cons rfl (.cons rfl .nil))))) fun a20 H20 => ?_
    clear H19
    refine h_end ?_
    repeat (go_not_at_region 7; go_step)
    refine wp_region_lit ?_
    refine h_op (m' := [(25, _), (6, _), (5, _), (4, _), (3, _), (1, _)]) H20 rfl (wn rfl) (R_ld H20 rfl rfl (ld_row (m := a) (vo := ao) (vs := aS) (hL.mem_at (by simp)))) rfl (.cons rfl (.cons rfl (.cons rfl (.cons rfl (.cons rfl (.cons rfl .nil)))))) fun a21 H21 => ?_
    clear H20
    refine h_call H21 rfl (wn rfl) (R_call1 H21 rfl rfl (fun w => by simp [go_sem])) rfl ?_
    refine (Data_e fa ka ia (K1 hL.1) (K2 hL.1) lo1 ls1).mono ?_
    rintro e wx ⟨rfl, hb⟩
    replace hL := hL.call hb
    clear hb
    rw [ea, hdo]
    refine ⟨_, rfl, fun a22 HH => ?_⟩
    have H22 := HH [(26, _), (6, _), (5, _), (4, _), (3, _), (1, _)] (.cons rfl (.cons rfl (.cons rfl (.cons rfl (.cons rfl (.cons rfl .nil))))))
    clear HH H21
    refine h_op (m' := [(24, _), (6, _), (5, _), (4, _), (3, _), (1, _)]) H22 rfl (wn rfl) (R_mv H22 rfl rfl) rfl (.cons rfl (.cons rfl (.cons rfl (.cons rfl (.cons rfl (.cons rfl .nil)))))) fun a23 H23 => ?_
    clear H22
    refine h_op (m' := [(27, _), (24, _), (6, _), (5, _), (4, _), (3, _), (1, _)]) H23 rfl (wn rfl) (R_ext H23 rfl rfl rfl) rfl (.cons rfl (.cons rfl (.cons rfl (.cons rfl (.cons rfl (.cons rfl (.cons rfl .nil))))))) fun a24 H24 => ?_
    clear H23
    refine h_op (m' := [(28, _), (27, _), (6, _), (5, _), (4, _), (3, _), (1, _)]) H24 rfl (wn rfl) (R_ext H24 rfl rfl rfl) rfl (.cons rfl (.cons rfl (.cons rfl (.cons rfl (.cons rfl (.cons rfl (.cons rfl .nil))))))) fun a25 H25 => ?_
    clear H24
    refine h_op (m' := [(7, _), (28, _), (6, _), (5, _), (4, _), (3, _), (1, _)]) H25 rfl (wn rfl) (R_as H25 rfl rfl) rfl (.cons rfl (.cons rfl (.cons rfl (.cons rfl (.cons rfl (.cons rfl (.cons rfl .nil))))))) fun a26 H26 => ?_
    clear H25
    refine h_op (m' := [(8, _), (7, _), (6, _), (5, _), (4, _), (3, _), (1, _)]) H26 rfl (wn rfl) (R_as H26 rfl rfl) rfl (.cons rfl (.cons rfl (.cons rfl (.cons rfl (.cons rfl (.cons rfl (.cons rfl .nil))))))) fun a27 H27 => ?_
    clear H26
    refine h_end ?_
    repeat (go_not_at_region 8; go_step)
    refine wp_region_lit ?_
    refine h_op (m' := [(9, _), (8, _), (7, _), (6, _), (5, _), (4, _), (3, _), (1, _)]) H27 rfl (wn rfl) (R_as H27 rfl rfl) rfl (.cons rfl (.cons rfl (.cons rfl (.cons rfl (.cons rfl (.cons rfl (.cons rfl (.cons rfl .nil)))))))) fun a28 H28 => ?_
    clear H27
    refine h_end ?_
    repeat (go_not_at_region 9; go_step)
    refine wp_region_lit ?_
    refine h_op (m' := [(29, _), (9, _), (8, _), (7, _), (6, _), (5, _), (4, _), (3, _), (1, _)]) H28 rfl (wn rfl) (R_mv H28 rfl rfl) rfl (.cons rfl (.cons rfl (.cons rfl (.cons rfl (.cons rfl (.cons rfl (.cons rfl (.cons rfl (.cons rfl .nil))))))))) fun a29 H29 => ?_
    clear H28
    refine h_op (m' := [(30, _), (9, _), (8, _), (7, _), (6, _), (5, _), (4, _), (3, _), (1, _)]) H29 rfl (wn rfl) (R_bin H29 rfl rfl rfl (B_to (y := true) (B_eq Try.underlying3 _ _) (by decide))) rfl (.cons rfl (.cons rfl (.cons rfl (.cons rfl (.cons rfl (.cons rfl (.cons rfl (.cons rfl (.cons rfl .nil))))))))) fun a30 H30 => ?_
    clear H29
    refine h_end ?_
    repeat (go_not_at_region 10; go_step)
    refine wp_cond_true (H30.ev (x := .tmp 30) rfl) ?_
    repeat (go_not_at_region 10; go_step)
    refine wp_region_lit ?_
    refine h_op (m' := [(32, _), (9, _), (8, _), (7, _), (6, _), (5, _), (4, _), (3, _), (1, _)]) H30 rfl (wn rfl) (R_mv H30 rfl rfl) rfl (.cons rfl (.cons rfl (.cons rfl (.cons rfl (.cons rfl (.cons rfl (.cons rfl (.cons rfl (.cons rfl .nil))))))))) fun a31 H31 => ?_
    clear H30
    refine h_call H31 rfl (wn rfl) (R_call1 H31 rfl rfl (fun w => by simp [go_sem])) rfl ?_
    refine (rPut_any (by omega)).mono ?_
    rintro e wx ⟨rfl, hb⟩
    replace hL := hL.call hb
    clear hb
    refine ⟨_, rfl, fun a32 HH => ?_⟩
    have H32 := HH [(33, _), (9, _), (8, _), (7, _), (6, _), (5, _), (4, _), (3, _), (1, _)] (.cons rfl (.cons rfl (.cons rfl (.cons rfl (.cons rfl (.cons rfl (.cons rfl (.cons rfl (.cons rfl .nil)))))))))
    clear HH H31
    refine h_op (m' := [(31, _), (9, _), (8, _), (7, _), (6, _), (5, _), (4, _), (3, _), (1, _)]) H32 rfl (wn rfl) (R_mv H32 rfl rfl) rfl (.cons rfl (.cons rfl (.cons rfl (.cons rfl (.cons rfl (.cons rfl (.cons rfl (.cons rfl (.cons rfl .nil))))))))) fun a33 H33 => ?_
    clear H32
    refine h_op (m' := [(34, _), (31, _), (9, _), (8, _), (7, _), (6, _), (5, _), (4, _), (3, _), (1, _)]) H33 rfl (wn rfl) (R_ext H33 rfl rfl rfl) rfl (.cons rfl (.cons rfl (.cons rfl (.cons rfl (.cons rfl (.cons rfl (.cons rfl (.cons rfl (.cons rfl (.cons rfl .nil)))))))))) fun a34 H34 => ?_
    clear H33
    refine h_op (m' := [(34, _), (9, _), (8, _), (7, _), (6, _), (5, _), (4, _), (3, _), (1, _)]) H34 rfl (wn rfl) (R_ext H34 rfl rfl rfl) rfl (.cons rfl (.cons rfl (.cons rfl (.cons rfl (.cons rfl (.cons rfl (.cons rfl (.cons rfl (.cons rfl .nil))))))))) fun a35 H35 => ?_
    clear H34
    refine h_op (m' := [(9, _), (8, _), (7, _), (6, _), (5, _), (4, _), (3, _), (1, _)]) H35 rfl (wn rfl) (R_as H35 rfl rfl) rfl (.cons rfl (.cons rfl (.cons rfl (.cons rfl (.cons rfl (.cons rfl (.cons rfl (.cons rfl .nil)))))))) fun a36 H36 => ?_
    clear H35
    refine h_end ?_
    repeat (go_not_at_region 11; go_step)
    refine wp_region_lit ?_
    refine h_op (m' := [(36, _), (9, _), (8, _), (7, _), (6, _), (5, _), (4, _), (1, _)]) H36 rfl (wn rfl) (R_mv H36 rfl rfl) rfl (.cons rfl (.cons rfl (.cons rfl (.cons rfl (.cons rfl (.cons rfl (.cons rfl (.cons rfl .nil)))))))) fun a37 H37 => ?_
    clear H36
    refine h_op (m' := [(37, _), (36, _), (9, _), (8, _), (7, _), (6, _), (4, _), (1, _)]) H37 rfl (wn rfl) (R_mv H37 rfl rfl) rfl (.cons rfl (.cons rfl (.cons rfl (.cons rfl (.cons rfl (.cons rfl (.cons rfl (.cons rfl .nil)))))))) fun a38 H38 => ?_
    clear H37
    refine h_op (m' := [(38, _), (9, _), (8, _), (7, _), (6, _), (4, _), (1, _)]) H38 rfl (wn rfl) (R_bin H38 rfl rfl rfl (B_to (y := true) (B_eqs _ _) (by exact beq_self_eq_true _))) rfl (.cons rfl (.cons rfl (.cons rfl (.cons rfl (.cons rfl (.cons rfl (.cons rfl .nil))))))) fun a39 H39 => ?_
    clear H38
    refine h_op (m' := [(39, _), (9, _), (8, _), (7, _), (6, _), (4, _), (1, _)]) H39 rfl (wn rfl) (R_mv H39 rfl rfl) rfl (.cons rfl (.cons rfl (.cons rfl (.cons rfl (.cons rfl (.cons rfl (.cons rfl .nil))))))) fun a40 H40 => ?_
    clear H39
    refine h_op (m' := [(40, _), (39, _), (9, _), (8, _), (7, _), (6, _), (4, _), (1, _)]) H40 rfl (H40.wt rfl rfl rfl) (R_mv H40 rfl rfl) rfl (.cons rfl (.cons rfl (.cons rfl (.cons rfl (.cons rfl (.cons rfl (.cons rfl (.cons rfl .nil)))))))) fun a41 H41 => ?_
    clear H40
    refine h_op (m' := [(41, _), (40, _), (39, _), (9, _), (8, _), (7, _), (6, _), (4, _), (1, _)]) H41 rfl (H41.wt rfl rfl rfl) (R_mv H41 rfl rfl) rfl (.cons rfl (.cons rfl (.cons rfl (.cons rfl (.cons rfl (.cons rfl (.cons rfl (.cons rfl (.cons rfl .nil))))))))) fun a42 H42 => ?_
    clear H41
    refine h_op (m' := [(42, _), (39, _), (9, _), (8, _), (7, _), (6, _), (4, _), (1, _)]) H42 rfl (H42.wt rfl rfl rfl) (R_bin H42 rfl rfl rfl (B_to (y := true) (B_eq Try.underlying3 _ _) (by exact beq_self_eq_true _))) rfl (.cons rfl (.cons rfl (.cons rfl (.cons rfl (.cons rfl (.cons rfl (.cons rfl (.cons rfl .nil)))))))) fun a43 H43 => ?_
    clear H42
    refine h_op (m' := [(43, _), (9, _), (8, _), (7, _), (6, _), (4, _), (1, _)]) H43 rfl (wn rfl) (R_pick H43 rfl rfl rfl) rfl (.cons rfl (.cons rfl (.cons rfl (.cons rfl (.cons rfl (.cons rfl (.cons rfl .nil))))))) fun a44 H44 => ?_
    clear H43
    refine h_op (m' := [(44, _), (9, _), (8, _), (7, _), (6, _), (4, _), (1, _)]) H44 rfl (wn rfl) (R_mv H44 rfl rfl) rfl (.cons rfl (.cons rfl (.cons rfl (.cons rfl (.cons rfl (.cons rfl (.cons rfl .nil))))))) fun a45 H45 => ?_
    clear H44
    refine h_op (m' := [(45, _), (44, _), (9, _), (8, _), (7, _), (6, _), (4, _)]) H45 rfl (H45.wt rfl rfl rfl) (R_ld H45 rfl rfl (ld_row (m := a) (vo := ao) (vs := aS) (hL.mem_at (by simp)))) rfl (.cons rfl (.cons rfl (.cons rfl (.cons rfl (.cons rfl (.cons rfl (.cons rfl .nil))))))) fun a46 H46 => ?_
    clear H45
    refine h_call H46 rfl (H46.wt rfl rfl rfl) (R_call1 H46 rfl rfl (fun w => by simp [go_sem])) rfl ?_
    refine (Right_any fa ka ia (K1 hL.1) (K2 hL.1) lo1 ls1).mono ?_
    rintro e wx ⟨rfl, hb⟩
    replace hL := hL.call hb
    clear hb
    rw [ea]
    refine ⟨_, rfl, fun a47 HH => ?_⟩
    have H47 := HH [(46, _), (44, _), (9, _), (8, _), (7, _), (6, _), (4, _)] (.cons rfl (.cons rfl (.cons rfl (.cons rfl (.cons rfl (.cons rfl (.cons rfl .nil)))))))
    clear HH H46
    refine h_op (m' := [(47, _), (46, _), (44, _), (9, _), (8, _), (7, _), (4, _)]) H47 rfl (H47.wt rfl rfl rfl) (R_mv H47 rfl rfl) rfl (.cons rfl (.cons rfl (.cons rfl (.cons rfl (.cons rfl (.cons rfl (.cons rfl .nil))))))) fun a48 H48 => ?_
    clear H47
    refine h_op (m' := [(48, _), (44, _), (9, _), (8, _), (7, _), (4, _)]) H48 rfl (H48.wt rfl rfl rfl) (R_bin H48 rfl rfl rfl (B_to (y := true) (B_eq Try.underlying3 _ _) (by exact beq_self_eq_true _))) rfl (.cons rfl (.cons rfl (.cons rfl (.cons rfl (.cons rfl (.cons rfl .nil)))))) fun a49 H49 => ?_
    clear H48
    refine h_op (m' := [(49, _), (9, _), (8, _), (7, _), (4, _)]) H49 rfl (wn rfl) (R_pick H49 rfl rfl rfl) rfl (.cons rfl (.cons rfl (.cons rfl (.cons rfl (.cons rfl .nil))))) fun a50 H50 => ?_
    clear H49
    refine h_op (m' := [(50, _), (9, _), (8, _), (7, _), (4, _)]) H50 rfl (wn rfl) (R_mv H50 rfl rfl) rfl (.cons rfl (.cons rfl (.cons rfl (.cons rfl (.cons rfl .nil))))) fun a51 H51 => ?_
    clear H50
    refine h_op (m' := [(51, _), (50, _), (9, _), (8, _), (4, _)]) H51 rfl (H51.wt rfl rfl rfl) (R_mv H51 rfl rfl) rfl (.cons rfl (.cons rfl (.cons rfl (.cons rfl (.cons rfl .nil))))) fun a52 H52 => ?_
    clear H51
    refine h_op (m' := [(52, _), (51, _), (50, _), (8, _), (4, _)]) H52 rfl (H52.wt rfl rfl rfl) (R_mv H52 rfl rfl) rfl (.cons rfl (.cons rfl (.cons rfl (.cons rfl (.cons rfl .nil))))) fun a53 H53 => ?_
    clear H52
    refine h_op (m' := [(53, _), (50, _), (8, _), (4, _)]) H53 rfl (H53.wt rfl rfl rfl) (R_bin H53 rfl rfl rfl (B_to (y := true) (B_eqs _ _) (by exact beq_self_eq_true _))) rfl (.cons rfl (.cons rfl (.cons rfl (.cons rfl .nil)))) fun a54 H54 => ?_
    clear H53
    refine h_op (m' := [(54, _), (8, _), (4, _)]) H54 rfl (wn rfl) (R_pick H54 rfl rfl rfl) rfl (.cons rfl (.cons rfl (.cons rfl .nil))) fun a55 H55 => ?_
    clear H54
    refine h_op (m' := [(55, _), (8, _), (4, _)]) H55 rfl (wn rfl) (R_mv H55 rfl rfl) rfl (.cons rfl (.cons rfl (.cons rfl .nil))) fun a56 H56 => ?_
    clear H55
    refine h_op (m' := [(56, _), (55, _), (4, _)]) H56 rfl (H56.wt rfl rfl rfl) (R_mv H56 rfl rfl) rfl (.cons rfl (.cons rfl (.cons rfl .nil))) fun a57 H57 => ?_
    clear H56
    refine h_op (m' := [(57, _), (56, _), (55, _)]) H57 rfl (H57.wt rfl rfl rfl) (R_mv H57 rfl rfl) rfl (.cons rfl (.cons rfl (.cons rfl .nil))) fun a58 H58 => ?_
    clear H57
    refine h_op (m' := [(58, _), (55, _)]) H58 rfl (H58.wt rfl rfl rfl) (R_bin H58 rfl rfl rfl (B_to (y := true) (B_eq Try.underlying33 _ _) (by exact beq_self_eq_true _))) rfl (.cons rfl (.cons rfl .nil)) fun a59 H59 => ?_
    clear H58
    refine h_op (m' := [(59, _)]) H59 rfl (wn rfl) (R_pick H59 rfl rfl rfl) rfl (.cons rfl .nil) fun a60 H60 => ?_
    clear H59
    refine h_op (m' := [(2, _)]) H60 rfl (wn rfl) (R_as H60 rfl rfl) rfl (.cons rfl .nil) fun a61 H61 => ?_
    clear H60
    refine h_end ?_
    repeat (go_not_at_region 999; go_step)
    refine H61.ret1 (v := .bool true) rfl rfl ?_
    exact ⟨rfl, hL.1⟩
  · have hbe : ∃ f, bytesM a = .error f := by
      cases hb : bytesM a with
      | error f => exact ⟨f, rfl⟩
      | ok b => exact absurd (by unfold errM; rw [hb]) ea
    obtain ⟨f, hbe⟩ := hbe
    have hbo : bytesOr a = .empty := by unfold bytesOr; rw [hbe]
    have hdo : dataOr a = .empty := by unfold dataOr; rw [data_bad hbe]
    refine wp_region_lit ?_
    refine h_op (m' := [(15, _), (1, _)]) H6 rfl (wn rfl) (R_ld H6 rfl rfl (ld_row (m := a) (vo := ao) (vs := aS) (hL.mem_at (by simp)))) rfl (.cons rfl (.cons rfl .nil)) fun a7 H7 => ?_
    clear H6
    refine h_call H7 rfl (wn rfl) (R_call1 H7 rfl rfl (fun w => by simp [go_sem])) rfl ?_
    refine (Bytes_e fa ka ia (K1 hL.1) (K2 hL.1) lo1 ls1).mono ?_
    rintro e wx ⟨rfl, hb⟩
    replace hL := hL.call hb
    clear hb
    rw [hbo]
    refine ⟨_, rfl, fun a8 HH => ?_⟩
    have H8 := HH [(16, _), (1, _)] (.cons rfl (.cons rfl .nil))
    clear HH H7
    refine h_op (m' := [(14, _), (1, _)]) H8 rfl (wn rfl) (R_mv H8 rfl rfl) rfl (.cons rfl (.cons rfl .nil)) fun a9 H9 => ?_
    clear H8
    refine h_op (m' := [(17, _), (14, _), (1, _)]) H9 rfl (wn rfl) (R_ext H9 rfl rfl rfl) rfl (.cons rfl (.cons rfl (.cons rfl .nil))) fun a10 H10 => ?_
    clear H9
    refine h_op (m' := [(18, _), (17, _), (1, _)]) H10 rfl (wn rfl) (R_ext H10 rfl rfl rfl) rfl (.cons rfl (.cons rfl (.cons rfl .nil))) fun a11 H11 => ?_
    clear H10
    refine h_op (m' := [(3, _), (18, _), (1, _)]) H11 rfl (wn rfl) (R_as H11 rfl rfl) rfl (.cons rfl (.cons rfl (.cons rfl .nil))) fun a12 H12 => ?_
    clear H11
    refine h_op (m' := [(4, _), (3, _), (1, _)]) H12 rfl (wn rfl) (R_as H12 rfl rfl) rfl (.cons rfl (.cons rfl (.cons rfl .nil))) fun a13 H13 => ?_
    clear H12
    refine h_end ?_
    repeat (go_not_at_region 6; go_step)
    refine wp_region_lit ?_
    refine h_op (m' := [(20, _), (4, _), (3, _), (1, _)]) H13 rfl (wn rfl) (R_ld H13 rfl rfl (ld_row (m := a) (vo := ao) (vs := aS) (hL.mem_at (by simp)))) rfl (.cons rfl (.cons rfl (.cons rfl (.cons rfl .nil)))) fun a14 H14 => ?_
    clear H13
    refine h_call H14 rfl (wn rfl) (R_call1 H14 rfl rfl (fun w => by simp [go_sem])) rfl ?_
    refine (rBytes_bad (K1 hL.1) (K2 hL.1) lo1 ls1 (fun h => ea (hdoc.trans h))).mono ?_
    rintro e wx ⟨rfl, hb⟩
    replace hL := hL.call hb
    clear hb
    rw [← hdoc]
    refine ⟨_, rfl, fun a15 HH => ?_⟩
    have H15 := HH [(21, _), (4, _), (3, _), (1, _)] (.cons rfl (.cons rfl (.cons rfl (.cons rfl .nil))))
    clear HH H14
    refine h_op (m' := [(19, _), (4, _), (3, _), (1, _)]) H15 rfl (wn rfl) (R_mv H15 rfl rfl) rfl (.cons rfl (.cons rfl (.cons rfl (.cons rfl .nil)))) fun a16 H16 => ?_
    clear H15
    refine h_op (m' := [(22, _), (19, _), (4, _), (3, _), (1, _)]) H16 rfl (wn rfl) (R_ext H16 rfl rfl rfl) rfl (.cons rfl (.cons rfl (.cons rfl (.cons rfl (.cons rfl .nil))))) fun a17 H17 => ?_
    clear H16
    refine h_op (m' := [(23, _), (22, _), (4, _), (3, _), (1, _)]) H17 rfl (wn rfl) (R_ext H17 rfl rfl rfl) rfl (.cons rfl (.cons rfl (.cons rfl (.cons rfl (.cons rfl .nil))))) fun a18 H18 => ?_
    clear H17
    refine h_op (m' := [(5, _), (23, _), (4, _), (3, _), (1, _)]) H18 rfl (wn rfl) (R_as H18 rfl rfl) rfl (.cons rfl (.cons rfl (.cons rfl (.cons rfl (.cons rfl .nil))))) fun a19 H19 => ?_
    clear H18
    refine h_op (m' := [(6, _), (5, _), (4, _), (3, _), (1, _)]) H19 rfl (wn rfl) (R_as H19 rfl rfl) rfl (.cons rfl (.cons rfl (.cons rfl (.cons rfl (.cons rfl .nil))))) fun a20 H20 => ?_
    clear H19
    refine h_end ?_
    repeat (go_not_at_region 7; go_step)
    refine wp_region_lit ?_
    refine h_op (m' := [(25, _), (6, _), (5, _), (4, _), (3, _), (1, _)]) H20 rfl (wn rfl) (R_ld H20 rfl rfl (ld_row (m := a) (vo := ao) (vs := aS) (hL.mem_at (by simp)))) rfl (.cons rfl (.cons rfl (.cons rfl (.cons rfl (.cons rfl (.cons rfl .nil)))))) fun a21 H21 => ?_
    clear H20
    refine h_call H21 rfl (wn rfl) (R_call1 H21 rfl rfl (fun w => by simp [go_sem])) rfl ?_
    refine (Data_e fa ka ia (K1 hL.1) (K2 hL.1) lo1 ls1).mono ?_
    rintro e wx ⟨rfl, hb⟩
    replace hL := hL.call hb
    clear hb
    rw [hdo]
    refine ⟨_, rfl, fun a22 HH => ?_⟩
    have H22 := HH [(26, _), (6, _), (5, _), (4, _), (3, _), (1, _)] (.cons rfl (.cons rfl (.cons rfl (.cons rfl (.cons rfl (.cons rfl .nil))))))
    clear HH H21
    refine h_op (m' := [(24, _), (6, _), (5, _), (4, _), (3, _), (1, _)]) H22 rfl (wn rfl) (R_mv H22 rfl rfl) rfl (.cons rfl (.cons rfl (.cons rfl (.cons rfl (.cons rfl (.cons rfl .nil)))))) fun a23 H23 => ?_
    clear H22
    refine h_op (m' := [(27, _), (24, _), (6, _), (5, _), (4, _), (3, _), (1, _)]) H23 rfl (wn rfl) (R_ext H23 rfl rfl rfl) rfl (.cons rfl (.cons rfl (.cons rfl (.cons rfl (.cons rfl (.cons rfl (.cons rfl .nil))))))) fun a24 H24 => ?_
    clear H23
    refine h_op (m' := [(28, _), (27, _), (6, _), (5, _), (4, _), (3, _), (1, _)]) H24 rfl (wn rfl) (R_ext H24 rfl rfl rfl) rfl (.cons rfl (.cons rfl (.cons rfl (.cons rfl (.cons rfl (.cons rfl (.cons rfl .nil))))))) fun a25 H25 => ?_
    clear H24
    refine h_op (m' := [(7, _), (28, _), (6, _), (5, _), (4, _), (3, _), (1, _)]) H25 rfl (wn rfl) (R_as H25 rfl rfl) rfl (.cons rfl (.cons rfl (.cons rfl (.cons rfl (.cons rfl (.cons rfl (.cons rfl .nil))))))) fun a26 H26 => ?_
    clear H25
    refine h_op (m' := [(8, _), (7, _), (6, _), (5, _), (4, _), (3, _), (1, _)]) H26 rfl (wn rfl) (R_as H26 rfl rfl) rfl (.cons rfl (.cons rfl (.cons rfl (.cons rfl (.cons rfl (.cons rfl (.cons rfl .nil))))))) fun a27 H27 => ?_
    clear H26
    refine h_end ?_
    repeat (go_not_at_region 8; go_step)
    refine wp_region_lit ?_
    refine h_op (m' := [(9, _), (8, _), (7, _), (6, _), (5, _), (4, _), (3, _), (1, _)]) H27 rfl (wn rfl) (R_as H27 rfl rfl) rfl (.cons rfl (.cons rfl (.cons rfl (.cons rfl (.cons rfl (.cons rfl (.cons rfl (.cons rfl .nil)))))))) fun a28 H28 => ?_
    clear H27
    refine h_end ?_
    repeat (go_not_at_region 9; go_step)
    refine wp_region_lit ?_
    refine h_op (m' := [(29, _), (9, _), (8, _), (7, _), (6, _), (5, _), (4, _), (3, _), (1, _)]) H28 rfl (wn rfl) (R_mv H28 rfl rfl) rfl (.cons rfl (.cons rfl (.cons rfl (.cons rfl (.cons rfl (.cons rfl (.cons rfl (.cons rfl (.cons rfl .nil))))))))) fun a29 H29 => ?_
    clear H28
    refine h_op (m' := [(30, _), (9, _), (8, _), (7, _), (6, _), (5, _), (4, _), (3, _), (1, _)]) H29 rfl (wn rfl) (R_bin H29 rfl rfl rfl (B_to (y := false) (B_eq Try.underlying3 _ _) (beq_eq_false_iff_ne.2 ea))) rfl (.cons rfl (.cons rfl (.cons rfl (.cons rfl (.cons rfl (.cons rfl (.cons rfl (.cons rfl (.cons rfl .nil))))))))) fun a30 H30 => ?_
    clear H29
    refine h_end ?_
    repeat (go_not_at_region 11; go_step)
    refine wp_cond_false (H30.ev (x := .tmp 30) rfl) ?_
    repeat (go_not_at_region 11; go_step)
    refine wp_region_lit ?_
    refine h_op (m' := [(36, _), (9, _), (8, _), (7, _), (6, _), (5, _), (4, _), (1, _)]) H30 rfl (wn rfl) (R_mv H30 rfl rfl) rfl (.cons rfl (.cons rfl (.cons rfl (.cons rfl (.cons rfl (.cons rfl (.cons rfl (.cons rfl .nil)))))))) fun a31 H31 => ?_
    clear H30
    refine h_op (m' := [(37, _), (36, _), (9, _), (8, _), (7, _), (6, _), (4, _), (1, _)]) H31 rfl (wn rfl) (R_mv H31 rfl rfl) rfl (.cons rfl (.cons rfl (.cons rfl (.cons rfl (.cons rfl (.cons rfl (.cons rfl (.cons rfl .nil)))))))) fun a32 H32 => ?_
    clear H31
    refine h_op (m' := [(38, _), (9, _), (8, _), (7, _), (6, _), (4, _), (1, _)]) H32 rfl (wn rfl) (R_bin H32 rfl rfl rfl (B_to (y := true) (B_eqs _ _) (by exact beq_self_eq_true _))) rfl (.cons rfl (.cons rfl (.cons rfl (.cons rfl (.cons rfl (.cons rfl (.cons rfl .nil))))))) fun a33 H33 => ?_
    clear H32
    refine h_op (m' := [(39, _), (9, _), (8, _), (7, _), (6, _), (4, _), (1, _)]) H33 rfl (wn rfl) (R_mv H33 rfl rfl) rfl (.cons rfl (.cons rfl (.cons rfl (.cons rfl (.cons rfl (.cons rfl (.cons rfl .nil))))))) fun a34 H34 => ?_
    clear H33
    refine h_op (m' := [(40, _), (39, _), (9, _), (8, _), (7, _), (6, _), (4, _), (1, _)]) H34 rfl (H34.wt rfl rfl rfl) (R_mv H34 rfl rfl) rfl (.cons rfl (.cons rfl (.cons rfl (.cons rfl (.cons rfl (.cons rfl (.cons rfl (.cons rfl .nil)))))))) fun a35 H35 => ?_
    clear H34
    refine h_op (m' := [(41, _), (40, _), (39, _), (9, _), (8, _), (7, _), (6, _), (4, _), (1, _)]) H35 rfl (H35.wt rfl rfl rfl) (R_mv H35 rfl rfl) rfl (.cons rfl (.cons rfl (.cons rfl (.cons rfl (.cons rfl (.cons rfl (.cons rfl (.cons rfl (.cons rfl .nil))))))))) fun a36 H36 => ?_
    clear H35
    refine h_op (m' := [(42, _), (39, _), (9, _), (8, _), (7, _), (6, _), (4, _), (1, _)]) H36 rfl (H36.wt rfl rfl rfl) (R_bin H36 rfl rfl rfl (B_to (y := true) (B_eq Try.underlying3 _ _) (by exact beq_self_eq_true _))) rfl (.cons rfl (.cons rfl (.cons rfl (.cons rfl (.cons rfl (.cons rfl (.cons rfl (.cons rfl .nil)))))))) fun a37 H37 => ?_
    clear H36
    refine h_op (m' := [(43, _), (9, _), (8, _), (7, _), (6, _), (4, _), (1, _)]) H37 rfl (wn rfl) (R_pick H37 rfl rfl rfl) rfl (.cons rfl (.cons rfl (.cons rfl (.cons rfl (.cons rfl (.cons rfl (.cons rfl .nil))))))) fun a38 H38 => ?_
    clear H37
    refine h_op (m' := [(44, _), (9, _), (8, _), (7, _), (6, _), (4, _), (1, _)]) H38 rfl (wn rfl) (R_mv H38 rfl rfl) rfl (.cons rfl (.cons rfl (.cons rfl (.cons rfl (.cons rfl (.cons rfl (.cons rfl .nil))))))) fun a39 H39 => ?_
    clear H38
    refine h_op (m' := [(45, _), (44, _), (9, _), (8, _), (7, _), (6, _), (4, _)]) H39 rfl (H39.wt rfl rfl rfl) (R_ld H39 rfl rfl (ld_row (m := a) (vo := ao) (vs := aS) (hL.mem_at (by simp)))) rfl (.cons rfl (.cons rfl (.cons rfl (.cons rfl (.cons rfl (.cons rfl (.cons rfl .nil))))))) fun a40 H40 => ?_
    clear H39
    refine h_call H40 rfl (H40.wt rfl rfl rfl) (R_call1 H40 rfl rfl (fun w => by simp [go_sem])) rfl ?_
    refine (Right_any fa ka ia (K1 hL.1) (K2 hL.1) lo1 ls1).mono ?_
    rintro e wx ⟨rfl, hb⟩
    replace hL := hL.call hb
    clear hb
    refine ⟨_, rfl, fun a41 HH => ?_⟩
    have H41 := HH [(46, _), (44, _), (9, _), (8, _), (7, _), (6, _), (4, _)] (.cons rfl (.cons rfl (.cons rfl (.cons rfl (.cons rfl (.cons rfl (.cons rfl .nil)))))))
    clear HH H40
    refine h_op (m' := [(47, _), (46, _), (44, _), (9, _), (8, _), (7, _), (4, _)]) H41 rfl (H41.wt rfl rfl rfl) (R_mv H41 rfl rfl) rfl (.cons rfl (.cons rfl (.cons rfl (.cons rfl (.cons rfl (.cons rfl (.cons rfl .nil))))))) fun a42 H42 => ?_
    clear H41
    refine h_op (m' := [(48, _), (44, _), (9, _), (8, _), (7, _), (4, _)]) H42 rfl (H42.wt rfl rfl rfl) (R_bin H42 rfl rfl rfl (B_to (y := true) (B_eq Try.underlying3 _ _) (by exact beq_self_eq_true _))) rfl (.cons rfl (.cons rfl (.cons rfl (.cons rfl (.cons rfl (.cons rfl .nil)))))) fun a43 H43 => ?_
    clear H42
    refine h_op (m' := [(49, _), (9, _), (8, _), (7, _), (4, _)]) H43 rfl (wn rfl) (R_pick H43 rfl rfl rfl) rfl (.cons rfl (.cons rfl (.cons rfl (.cons rfl (.cons rfl .nil))))) fun a44 H44 => ?_
    clear H43
    refine h_op (m' := [(50, _), (9, _), (8, _), (7, _), (4, _)]) H44 rfl (wn rfl) (R_mv H44 rfl rfl) rfl (.cons rfl (.cons rfl (.cons rfl (.cons rfl (.cons rfl .nil))))) fun a45 H45 => ?_
    clear H44
    refine h_op (m' := [(51, _), (50, _), (9, _), (8, _), (4, _)]) H45 rfl (H45.wt rfl rfl rfl) (R_mv H45 rfl rfl) rfl (.cons rfl (.cons rfl (.cons rfl (.cons rfl (.cons rfl .nil))))) fun a46 H46 => ?_
    clear H45
    refine h_op (m' := [(52, _), (51, _), (50, _), (8, _), (4, _)]) H46 rfl (H46.wt rfl rfl rfl) (R_mv H46 rfl rfl) rfl (.cons rfl (.cons rfl (.cons rfl (.cons rfl (.cons rfl .nil))))) fun a47 H47 => ?_
    clear H46
    refine h_op (m' := [(53, _), (50, _), (8, _), (4, _)]) H47 rfl (H47.wt rfl rfl rfl) (R_bin H47 rfl rfl rfl (B_to (y := true) (B_eqs _ _) (by exact beq_self_eq_true _))) rfl (.cons rfl (.cons rfl (.cons rfl (.cons rfl .nil)))) fun a48 H48 => ?_
    clear H47
    refine h_op (m' := [(54, _), (8, _), (4, _)]) H48 rfl (wn rfl) (R_pick H48 rfl rfl rfl) rfl (.cons rfl (.cons rfl (.cons rfl .nil))) fun a49 H49 => ?_
    clear H48
    refine h_op (m' := [(55, _), (8, _), (4, _)]) H49 rfl (wn rfl) (R_mv H49 rfl rfl) rfl (.cons rfl (.cons rfl (.cons rfl .nil))) fun a50 H50 => ?_
    clear H49
    refine h_op (m' := [(56, _), (55, _), (4, _)]) H50 rfl (H50.wt rfl rfl rfl) (R_mv H50 rfl rfl) rfl (.cons rfl (.cons rfl (.cons rfl .nil))) fun a51 H51 => ?_
    clear H50
    refine h_op (m' := [(57, _), (56, _), (55, _)]) H51 rfl (H51.wt rfl rfl rfl) (R_mv H51 rfl rfl) rfl (.cons rfl (.cons rfl (.cons rfl .nil))) fun a52 H52 => ?_
    clear H51
    refine h_op (m' := [(58, _), (55, _)]) H52 rfl (H52.wt rfl rfl rfl) (R_bin H52 rfl rfl rfl (B_to (y := true) (B_eq Try.underlying33 _ _) (by exact beq_self_eq_true _))) rfl (.cons rfl (.cons rfl .nil)) fun a53 H53 => ?_
    clear H52
    refine h_op (m' := [(59, _)]) H53 rfl (wn rfl) (R_pick H53 rfl rfl rfl) rfl (.cons rfl .nil) fun a54 H54 => ?_
    clear H53
    refine h_op (m' := [(2, _)]) H54 rfl (wn rfl) (R_as H54 rfl rfl) rfl (.cons rfl .nil) fun a55 H55 => ?_
    clear H54
    refine h_end ?_
    repeat (go_not_at_region 999; go_step)
    refine H55.ret1 (v := .bool true) rfl rfl ?_
    exact ⟨rfl, hL.1⟩
end
end Go.Proofs.Ytmmhchpilcjflaa
