/-
  MsgCut: its walk.
-/
import Derived.Test.YtmmhchpilcjflaaMsgBk
import Derived.Test.YtmmhchpilcjflaaMsgCt
import Derived.Test.YtmmhchpilcjflaaFr
import Derived.Deep.Cut
set_option linter.unusedSimpArgs false
set_option linter.unusedVariables false
namespace Go.Proofs.Ytmmhchpilcjflaa
open Go.RowKit

section
variable {W : World} {a : PMsg} {ao aS : Value} {at_ : Int} {x : Nat}
set_option maxHeartbeats 16000000 in
set_option maxRecDepth 100000 in
theorem cut_law (na : a.FitsN) (hx : x < 256)
    (h1 : Rd W ao a.owner) (h2 : Rd W aS a.set) (l1 : a.owner.length ≤ 9223372036854775807) (l2 : a.set.length ≤ 9223372036854775807) :
    Calls Try.prog 8 #[.agg (mcells a ao aS), .int .i64 at_, .int .u8 (x : Nat)] W fun e W' => e = .returned (.bool true) ∧ Below W.heap.size W W' := by
  have hs1 : ∀ (w : World) (o : Obj), (w.alloc o).heap.size = w.heap.size + 1 := fun w o => by simp
  have hL := ((Live.init W).alloc (mcells a ao aS) 29)
  have K1 : ∀ {w}, Below W.heap.size W w → Rd w ao a.owner := fun hb => h1.kept fun k hk => hb.block k hk
  have K2 : ∀ {w}, Below W.heap.size W w → Rd w aS a.set := fun hb => h2.kept fun k hk => hb.block k hk
  go_enter Try.func8, Try.ntmps8
  refine wp_fr (n := 76) (m := [(0, _), (1, _), (2, _)]) ⟨rfl, rfl, by intro p hp; simp only [List.mem_cons, List.not_mem_nil, or_false] at hp; rcases hp with rfl | rfl | rfl <;> rfl⟩ fun a0 H0 => ?_
  go_upto_region 0 with fail
  refine wp_region_lit ?_
  refine h_op (m' := [(3, _), (1, _), (2, _)]) H0 rfl (wn rfl) (R_box H0 rfl rfl bx_row) rfl (.cons rfl (.cons rfl (.cons rfl .nil))) fun a1 H1 => ?_
  clear H0
  refine h_op (m' := [(6, _), (3, _), (1, _), (2, _)]) H1 rfl (wn rfl) (R_as H1 rfl rfl) rfl (.cons rfl (.cons rfl (.cons rfl (.cons rfl .nil)))) fun a2 H2 => ?_
  clear H1
  refine h_end ?_
  go_upto_region 1 with fail
  refine wp_region_lit ?_
  refine h_call H2 rfl (wn rfl) (R_call0 H2 rfl (fun w => by simp [go_sem])) rfl ?_
  refine (awake_ok).mono ?_
  rintro e wx ⟨rfl, hb⟩
  replace hL := hL.call hb
  clear hb
  refine ⟨_, rfl, fun a3 HH => ?_⟩
  have H3 := HH [(17, _), (6, _), (3, _), (1, _), (2, _)] (.cons rfl (.cons rfl (.cons rfl (.cons rfl (.cons rfl .nil)))))
  clear HH H2
  refine h_op (m' := [(18, _), (6, _), (3, _), (1, _), (2, _)]) H3 rfl (wn rfl) (R_not H3 rfl rfl) rfl (.cons rfl (.cons rfl (.cons rfl (.cons rfl (.cons rfl .nil))))) fun a4 H4 => ?_
  clear H3
  refine h_end ?_
  go_upto_region 3 with fail
  refine wp_cond (t := false) (H4.ev (x := .tmp 18) rfl) ?_
  go_upto_region 3 with fail
  cases ga : greatB a
  rotate_left
  · refine wp_region_lit ?_
    refine h_op (m' := [(19, _), (6, _), (3, _), (1, _), (2, _)]) H4 rfl (wn rfl) (R_ld H4 rfl rfl (ld_row (m := a) (vo := ao) (vs := aS) (hL.mem_at (by simp)))) rfl (.cons rfl (.cons rfl (.cons rfl (.cons rfl (.cons rfl .nil))))) fun a5 H5 => ?_
    clear H4
    refine h_call H5 rfl (wn rfl) (R_call1 H5 rfl rfl (fun w => by simp [go_sem])) rfl ?_
    refine (Great_any (K1 hL.1) (K2 hL.1) l1 l2).mono ?_
    rintro e wx ⟨rfl, hb⟩
    replace hL := hL.call hb
    clear hb
    rw [ga]
    refine ⟨_, rfl, fun a6 HH => ?_⟩
    have H6 := HH [(20, _), (6, _), (3, _), (1, _), (2, _)] (.cons rfl (.cons rfl (.cons rfl (.cons rfl (.cons rfl .nil)))))
    clear HH H5
    refine h_end ?_
    go_upto_region 4 with fail
    refine wp_cond (t := true) (H6.ev (x := .tmp 20) rfl) ?_
    go_upto_region 4 with fail
    refine wp_region_lit ?_
    refine h_op (m' := [(6, _), (3, _), (1, _), (2, _)]) H6 rfl (wn rfl) (R_as H6 rfl rfl) rfl (.cons rfl (.cons rfl (.cons rfl (.cons rfl .nil)))) fun a7 H7 => ?_
    clear H6
    refine h_end ?_
    go_upto_region 999 with fail
    refine H7.ret1 (v := .bool true) rfl rfl ?_
    exact ⟨rfl, hL.1⟩
  refine wp_region_lit ?_
  refine h_op (m' := [(19, _), (6, _), (3, _), (1, _), (2, _)]) H4 rfl (wn rfl) (R_ld H4 rfl rfl (ld_row (m := a) (vo := ao) (vs := aS) (hL.mem_at (by simp)))) rfl (.cons rfl (.cons rfl (.cons rfl (.cons rfl (.cons rfl .nil))))) fun a5 H5 => ?_
  clear H4
  refine h_call H5 rfl (wn rfl) (R_call1 H5 rfl rfl (fun w => by simp [go_sem])) rfl ?_
  refine (Great_any (K1 hL.1) (K2 hL.1) l1 l2).mono ?_
  rintro e wx ⟨rfl, hb⟩
  replace hL := hL.call hb
  clear hb
  rw [ga]
  refine ⟨_, rfl, fun a6 HH => ?_⟩
  have H6 := HH [(20, _), (6, _), (3, _), (1, _), (2, _)] (.cons rfl (.cons rfl (.cons rfl (.cons rfl (.cons rfl .nil)))))
  clear HH H5
  refine h_end ?_
  go_upto_region 5 with fail
  refine wp_cond (t := false) (H6.ev (x := .tmp 20) rfl) ?_
  go_upto_region 5 with fail
  have fa := fits_g na ga
  have ka := na.kind
  have ia := na.ikind
  have lo1 : a.owner.length ≤ 1000000000000 := by have := great_no ga; omega
  have ls1 : a.set.length ≤ 1000000000000 := by have := great_no ga; omega
  refine wp_region_lit ?_
  refine h_op (m' := [(22, _), (6, _), (3, _), (1, _), (2, _)]) H6 rfl (wn rfl) (R_ld H6 rfl rfl (ld_row (m := a) (vo := ao) (vs := aS) (hL.mem_at (by simp)))) rfl (.cons rfl (.cons rfl (.cons rfl (.cons rfl (.cons rfl .nil))))) fun a7 H7 => ?_
  clear H6
  refine h_call H7 rfl (wn rfl) (R_call1 H7 rfl rfl (fun w => by simp [go_sem])) rfl ?_
  refine (Bytes_e fa ka ia (K1 hL.1) (K2 hL.1) lo1 ls1).mono ?_
  rintro e wx ⟨rfl, hb⟩
  replace hL := hL.call hb
  clear hb
  refine ⟨_, rfl, fun a8 HH => ?_⟩
  have H8 := HH [(23, _), (6, _), (3, _), (1, _), (2, _)] (.cons rfl (.cons rfl (.cons rfl (.cons rfl (.cons rfl .nil)))))
  clear HH H7
  refine h_op (m' := [(21, _), (6, _), (3, _), (1, _), (2, _)]) H8 rfl (wn rfl) (R_mv H8 rfl rfl) rfl (.cons rfl (.cons rfl (.cons rfl (.cons rfl (.cons rfl .nil))))) fun a9 H9 => ?_
  clear H8
  refine h_op (m' := [(24, _), (21, _), (6, _), (3, _), (1, _), (2, _)]) H9 rfl (wn rfl) (R_ext H9 rfl rfl rfl) rfl (.cons rfl (.cons rfl (.cons rfl (.cons rfl (.cons rfl (.cons rfl .nil)))))) fun a10 H10 => ?_
  clear H9
  refine h_op (m' := [(25, _), (24, _), (6, _), (3, _), (1, _), (2, _)]) H10 rfl (wn rfl) (R_ext H10 rfl rfl rfl) rfl (.cons rfl (.cons rfl (.cons rfl (.cons rfl (.cons rfl (.cons rfl .nil)))))) fun a11 H11 => ?_
  clear H10
  refine h_op (m' := [(7, _), (25, _), (6, _), (3, _), (1, _), (2, _)]) H11 rfl (wn rfl) (R_as H11 rfl rfl) rfl (.cons rfl (.cons rfl (.cons rfl (.cons rfl (.cons rfl (.cons rfl .nil)))))) fun a12 H12 => ?_
  clear H11
  refine h_op (m' := [(8, _), (7, _), (6, _), (3, _), (1, _), (2, _)]) H12 rfl (wn rfl) (R_as H12 rfl rfl) rfl (.cons rfl (.cons rfl (.cons rfl (.cons rfl (.cons rfl (.cons rfl .nil)))))) fun a13 H13 => ?_
  clear H12
  refine h_end ?_
  go_upto_region 6 with fail
  refine wp_region_lit ?_
  refine h_op (m' := [(26, _), (7, _), (6, _), (3, _), (1, _), (2, _)]) H13 rfl (wn rfl) (R_mv H13 rfl rfl) rfl (.cons rfl (.cons rfl (.cons rfl (.cons rfl (.cons rfl (.cons rfl .nil)))))) fun a14 H14 => ?_
  clear H13
  refine h_op (m' := [(27, _), (7, _), (6, _), (3, _), (1, _), (2, _)]) H14 rfl (wn rfl) (R_bin H14 rfl rfl rfl (B_ne Try.underlying33 _ _)) rfl (.cons rfl (.cons rfl (.cons rfl (.cons rfl (.cons rfl (.cons rfl .nil)))))) fun a15 H15 => ?_
  clear H14
  refine h_end ?_
  go_upto_region 7 with fail
  by_cases ea : errM a = 0
  rotate_left
  · refine wp_cond (t := true) ((H15.ev (x := .tmp 27) rfl).trans (by rw [bne_iff_ne.2 ea])) ?_
    simp only [if_true]
    go_upto_region 7 with fail
    refine wp_region_lit ?_
    refine h_op (m' := [(6, _), (7, _), (3, _), (1, _), (2, _)]) H15 rfl (wn rfl) (R_as H15 rfl rfl) rfl (.cons rfl (.cons rfl (.cons rfl (.cons rfl (.cons rfl .nil))))) fun a16 H16 => ?_
    clear H15
    refine h_end ?_
    go_upto_region 999 with fail
    refine H16.ret1 (v := .bool true) rfl rfl ?_
    exact ⟨rfl, hL.1⟩
  refine wp_cond (t := false) ((H15.ev (x := .tmp 27) rfl).trans (by rw [ea]; rfl)) ?_
  simp only [Bool.false_eq_true, if_false]
  go_upto_region 8 with fail
  obtain ⟨hwk, hra⟩ := bytesM_ok fa ka ia (err_iff.1 ea)
  have hdo : dataOr a = packL (frameL (bytesOr a)) := by
    unfold dataOr
    rw [data_ok fa ka ia (err_iff.1 ea)]
  have hz1 := bytesOr_size fa ka ia
  have hz2 := dataOr_size fa ka ia
  have hmore : readM (bytesOr a ++ packL [x]) = .error 8 := read_more fa hwk (rest := [x]) (by rw [bytes_app, packL_bytes (by simpa using hx)]) (by simp)
  have hzm : (bytesOr a ++ packL [x]).size < 140737488351233 := by
    have e : (packL [x]).size = 1 := rfl
    rw [ByteArray.size_append, e]
    omega
  have hcat : (bytesOr a).size + (packL [x]).size ≤ 100000 := by
    have e : (packL [x]).size = 1 := rfl
    omega
  refine wp_region_lit ?_
  refine h_op (m' := [(29, _), (7, _), (6, _), (3, _), (1, _), (2, _)]) H15 rfl (wn rfl) (R_ld H15 rfl rfl (ld_row (m := a) (vo := ao) (vs := aS) (hL.mem_at (by simp)))) rfl (.cons rfl (.cons rfl (.cons rfl (.cons rfl (.cons rfl (.cons rfl .nil)))))) fun a16 H16 => ?_
  clear H15
  refine h_call H16 rfl (wn rfl) (R_call1 H16 rfl rfl (fun w => by simp [go_sem])) rfl ?_
  refine (Data_e fa ka ia (K1 hL.1) (K2 hL.1) lo1 ls1).mono ?_
  rintro e wx ⟨rfl, hb⟩
  replace hL := hL.call hb
  clear hb
  rw [ea, hdo]
  refine ⟨_, rfl, fun a17 HH => ?_⟩
  have H17 := HH [(30, _), (7, _), (6, _), (3, _), (1, _), (2, _)] (.cons rfl (.cons rfl (.cons rfl (.cons rfl (.cons rfl (.cons rfl .nil))))))
  clear HH H16
  refine h_op (m' := [(28, _), (7, _), (6, _), (3, _), (1, _), (2, _)]) H17 rfl (wn rfl) (R_mv H17 rfl rfl) rfl (.cons rfl (.cons rfl (.cons rfl (.cons rfl (.cons rfl (.cons rfl .nil)))))) fun a18 H18 => ?_
  clear H17
  refine h_op (m' := [(31, _), (28, _), (7, _), (6, _), (3, _), (1, _), (2, _)]) H18 rfl (wn rfl) (R_ext H18 rfl rfl rfl) rfl (.cons rfl (.cons rfl (.cons rfl (.cons rfl (.cons rfl (.cons rfl (.cons rfl .nil))))))) fun a19 H19 => ?_
  clear H18
  refine h_op (m' := [(32, _), (31, _), (7, _), (6, _), (3, _), (1, _), (2, _)]) H19 rfl (wn rfl) (R_ext H19 rfl rfl rfl) rfl (.cons rfl (.cons rfl (.cons rfl (.cons rfl (.cons rfl (.cons rfl (.cons rfl .nil))))))) fun a20 H20 => ?_
  clear H19
  refine h_op (m' := [(9, _), (32, _), (7, _), (6, _), (3, _), (1, _), (2, _)]) H20 rfl (wn rfl) (R_as H20 rfl rfl) rfl (.cons rfl (.cons rfl (.cons rfl (.cons rfl (.cons rfl (.cons rfl (.cons rfl .nil))))))) fun a21 H21 => ?_
  clear H20
  refine h_op (m' := [(10, _), (9, _), (7, _), (6, _), (3, _), (1, _), (2, _)]) H21 rfl (wn rfl) (R_as H21 rfl rfl) rfl (.cons rfl (.cons rfl (.cons rfl (.cons rfl (.cons rfl (.cons rfl (.cons rfl .nil))))))) fun a22 H22 => ?_
  clear H21
  refine h_end ?_
  go_upto_region 9 with fail
  refine wp_region_lit ?_
  refine h_op (m' := [(34, _), (10, _), (9, _), (7, _), (1, _), (2, _)]) H22 rfl (wn rfl) (R_mv H22 rfl rfl) rfl (.cons rfl (.cons rfl (.cons rfl (.cons rfl (.cons rfl (.cons rfl .nil)))))) fun a23 H23 => ?_
  clear H22
  refine h_op (m' := [(35, _), (34, _), (10, _), (9, _), (7, _), (1, _)]) H23 rfl (wn rfl) (R_mv H23 rfl rfl) rfl (.cons rfl (.cons rfl (.cons rfl (.cons rfl (.cons rfl (.cons rfl .nil)))))) fun a24 H24 => ?_
  clear H23
  refine h_op (m' := [(36, _), (34, _), (10, _), (9, _), (7, _), (1, _)]) H24 rfl (wn rfl) (R_bs1 H24 rfl rfl (bs_u8 _)) rfl (.cons rfl (.cons rfl (.cons rfl (.cons rfl (.cons rfl (.cons rfl .nil)))))) fun a25 H25 => ?_
  clear H24
  replace hL := hL.alloc #[.int .u8 (x : Nat)] 5
  refine h_op (m' := [(37, _), (34, _), (10, _), (9, _), (7, _), (1, _)]) H25 rfl (wn rfl) (R_cv H25 rfl rfl (cv_u8 hx hL)) rfl (.cons rfl (.cons rfl (.cons rfl (.cons rfl (.cons rfl (.cons rfl .nil)))))) fun a26 H26 => ?_
  clear H25
  refine h_op (m' := [(38, _), (10, _), (9, _), (7, _), (1, _)]) H26 rfl (wn rfl) (R_bin H26 rfl rfl rfl (B_cat _ _ hcat)) rfl (.cons rfl (.cons rfl (.cons rfl (.cons rfl (.cons rfl .nil))))) fun a27 H27 => ?_
  clear H26
  refine h_call H27 rfl (wn rfl) (R_call1 H27 rfl rfl (fun w => by simp [go_sem])) rfl ?_
  refine (Read_any hzm hL).mono ?_
  intro e wx hs
  unfold Said at hs
  rw [hmore] at hs
  obtain ⟨rfl, hL2⟩ := hs
  replace hL := hL2
  clear hL2
  refine ⟨_, rfl, fun a28 HH => ?_⟩
  have H28 := HH [(39, _), (10, _), (9, _), (7, _), (1, _)] (.cons rfl (.cons rfl (.cons rfl (.cons rfl (.cons rfl .nil)))))
  clear HH H27
  refine h_op (m' := [(33, _), (10, _), (9, _), (7, _), (1, _)]) H28 rfl (wn rfl) (R_mv H28 rfl rfl) rfl (.cons rfl (.cons rfl (.cons rfl (.cons rfl (.cons rfl .nil))))) fun a29 H29 => ?_
  clear H28
  refine h_op (m' := [(40, _), (33, _), (10, _), (9, _), (7, _), (1, _)]) H29 rfl (wn rfl) (R_ext H29 rfl rfl rfl) rfl (.cons rfl (.cons rfl (.cons rfl (.cons rfl (.cons rfl (.cons rfl .nil)))))) fun a30 H30 => ?_
  clear H29
  refine h_op (m' := [(41, _), (40, _), (10, _), (9, _), (7, _), (1, _)]) H30 rfl (wn rfl) (R_ext H30 rfl rfl rfl) rfl (.cons rfl (.cons rfl (.cons rfl (.cons rfl (.cons rfl (.cons rfl .nil)))))) fun a31 H31 => ?_
  clear H30
  refine h_op (m' := [(11, _), (41, _), (40, _), (10, _), (9, _), (7, _), (1, _)]) H31 rfl (wn rfl) (R_alloc rfl al_row) rfl (.cons rfl (.cons rfl (.cons rfl (.cons rfl (.cons rfl (.cons rfl (.cons rfl .nil))))))) fun a32 H32 => ?_
  clear H31
  replace hL := hL.alloc zcells 29
  have hst := hL.at_
  refine h_st H32 rfl (wn rfl) (R_st H32 rfl rfl rfl (st_row (m := .zero) (vo := .slice none 0 0) (vs := .slice none 0 0) hst (mcells_one rfl rfl))) fun a33 H33 => ?_
  clear H32
  replace hL := (hL.row zcells)
  clear hst
  refine h_op (m' := [(12, _), (10, _), (9, _), (7, _), (1, _)]) H33 rfl (wn rfl) (R_as H33 rfl rfl) rfl (.cons rfl (.cons rfl (.cons rfl (.cons rfl (.cons rfl .nil))))) fun a34 H34 => ?_
  clear H33
  refine h_end ?_
  go_upto_region 10 with fail
  refine wp_region_lit ?_
  refine h_op (m' := [(42, _), (12, _), (9, _), (7, _), (1, _)]) H34 rfl (wn rfl) (R_mv H34 rfl rfl) rfl (.cons rfl (.cons rfl (.cons rfl (.cons rfl (.cons rfl .nil))))) fun a35 H35 => ?_
  clear H34
  refine h_op (m' := [(43, _), (12, _), (9, _), (7, _), (1, _)]) H35 rfl (wn rfl) (R_bin H35 rfl rfl rfl (B_ne Try.underlying33 _ _)) rfl (.cons rfl (.cons rfl (.cons rfl (.cons rfl (.cons rfl .nil))))) fun a36 H36 => ?_
  clear H35
  refine h_op (m' := [(44, _), (12, _), (9, _), (7, _), (1, _)]) H36 rfl (wn rfl) (R_mv H36 rfl rfl) rfl (.cons rfl (.cons rfl (.cons rfl (.cons rfl (.cons rfl .nil))))) fun a37 H37 => ?_
  clear H36
  refine h_op (m' := [(45, _), (44, _), (9, _), (7, _), (1, _)]) H37 rfl (H37.wt rfl rfl rfl) (R_mv H37 rfl rfl) rfl (.cons rfl (.cons rfl (.cons rfl (.cons rfl (.cons rfl .nil))))) fun a38 H38 => ?_
  clear H37
  refine h_op (m' := [(46, _), (44, _), (9, _), (7, _), (1, _)]) H38 rfl (H38.wt rfl rfl rfl) (R_bin H38 rfl rfl rfl (B_ne Try.underlying33 _ _)) rfl (.cons rfl (.cons rfl (.cons rfl (.cons rfl (.cons rfl .nil))))) fun a39 H39 => ?_
  clear H38
  refine h_op (m' := [(47, _), (9, _), (7, _), (1, _)]) H39 rfl (wn rfl) (R_pick H39 rfl rfl rfl) rfl (.cons rfl (.cons rfl (.cons rfl (.cons rfl .nil)))) fun a40 H40 => ?_
  clear H39
  refine h_end ?_
  go_upto_region 12 with fail
  refine wp_cond (t := false) (H40.ev (x := .tmp 47) rfl) ?_
  go_upto_region 12 with fail
  by_cases h0 : 0 ≤ at_
  rotate_left
  · refine wp_region_lit ?_
    refine h_op (m' := [(48, _), (7, _), (1, _)]) H40 rfl (wn rfl) (R_mv H40 rfl rfl) rfl (.cons rfl (.cons rfl (.cons rfl .nil))) fun a41 H41 => ?_
    clear H40
    refine h_op (m' := [(49, _), (7, _), (1, _)]) H41 rfl (wn rfl) (R_bin H41 rfl rfl rfl (B_to (y := false) (B_ge Try.underlying3 _ _) (decide_eq_false (by omega)))) rfl (.cons rfl (.cons rfl (.cons rfl .nil))) fun a42 H42 => ?_
    clear H41
    refine h_op (m' := [(50, _), (7, _), (1, _)]) H42 rfl (wn rfl) (R_mv H42 rfl rfl) rfl (.cons rfl (.cons rfl (.cons rfl .nil))) fun a43 H43 => ?_
    clear H42
    refine h_skip (m' := [(50, _), (7, _)]) H43 rfl (H43.wf rfl rfl rfl) rfl (.cons rfl (.cons rfl .nil)) fun a44 H44 => ?_
    clear H43
    refine h_skip (m' := [(50, _)]) H44 rfl (H44.wf rfl rfl rfl) rfl (.cons rfl .nil) fun a45 H45 => ?_
    clear H44
    refine h_skip (m' := [(50, _)]) H45 rfl (H45.wf rfl rfl rfl) rfl (.cons rfl .nil) fun a46 H46 => ?_
    clear H45
    refine h_skip (m' := [(50, _)]) H46 rfl (H46.wf rfl rfl rfl) rfl (.cons rfl .nil) fun a47 H47 => ?_
    clear H46
    refine h_op (m' := [(55, _)]) H47 rfl (wn rfl) (R_pick H47 rfl rfl rfl) rfl (.cons rfl .nil) fun a48 H48 => ?_
    clear H47
    refine h_end ?_
    go_upto_region 16 with fail
    refine wp_cond (t := false) (H48.ev (x := .tmp 55) rfl) ?_
    go_upto_region 16 with fail
    refine wp_region_lit ?_
    refine h_op (m' := [(6, _)]) H48 rfl (wn rfl) (R_as H48 rfl rfl) rfl (.cons rfl .nil) fun a49 H49 => ?_
    clear H48
    refine h_end ?_
    go_upto_region 999 with fail
    refine H49.ret1 (v := .bool true) rfl rfl ?_
    exact ⟨rfl, hL.1⟩
  obtain ⟨k, rfl⟩ : ∃ k : Nat, at_ = k := ⟨at_.toNat, by omega⟩
  by_cases hk : k < (bytesOr a).size
  rotate_left
  · refine wp_region_lit ?_
    refine h_op (m' := [(48, _), (7, _), (1, _)]) H40 rfl (wn rfl) (R_mv H40 rfl rfl) rfl (.cons rfl (.cons rfl (.cons rfl .nil))) fun a41 H41 => ?_
    clear H40
    refine h_op (m' := [(49, _), (7, _), (1, _)]) H41 rfl (wn rfl) (R_bin H41 rfl rfl rfl (B_to (y := true) (B_ge Try.underlying3 _ _) (decide_eq_true (by omega)))) rfl (.cons rfl (.cons rfl (.cons rfl .nil))) fun a42 H42 => ?_
    clear H41
    refine h_op (m' := [(50, _), (7, _), (1, _)]) H42 rfl (wn rfl) (R_mv H42 rfl rfl) rfl (.cons rfl (.cons rfl (.cons rfl .nil))) fun a43 H43 => ?_
    clear H42
    refine h_op (m' := [(51, _), (50, _), (7, _)]) H43 rfl (H43.wt rfl rfl rfl) (R_mv H43 rfl rfl) rfl (.cons rfl (.cons rfl (.cons rfl .nil))) fun a44 H44 => ?_
    clear H43
    refine h_op (m' := [(52, _), (51, _), (50, _)]) H44 rfl (H44.wt rfl rfl rfl) (R_mv H44 rfl rfl) rfl (.cons rfl (.cons rfl (.cons rfl .nil))) fun a45 H45 => ?_
    clear H44
    refine h_op (m' := [(53, _), (51, _), (50, _)]) H45 rfl (H45.wt rfl rfl rfl) (R_len H45 rfl rfl Try.underlying9) rfl (.cons rfl (.cons rfl (.cons rfl .nil))) fun a46 H46 => ?_
    clear H45
    refine h_op (m' := [(54, _), (50, _)]) H46 rfl (H46.wt rfl rfl rfl) (R_bin H46 rfl rfl rfl (B_to (y := false) (B_lt Try.underlying3 _ _) (decide_eq_false (by omega)))) rfl (.cons rfl (.cons rfl .nil)) fun a47 H47 => ?_
    clear H46
    refine h_op (m' := [(55, _)]) H47 rfl (wn rfl) (R_pick H47 rfl rfl rfl) rfl (.cons rfl .nil) fun a48 H48 => ?_
    clear H47
    refine h_end ?_
    go_upto_region 16 with fail
    refine wp_cond (t := false) (H48.ev (x := .tmp 55) rfl) ?_
    go_upto_region 16 with fail
    refine wp_region_lit ?_
    refine h_op (m' := [(6, _)]) H48 rfl (wn rfl) (R_as H48 rfl rfl) rfl (.cons rfl .nil) fun a49 H49 => ?_
    clear H48
    refine h_end ?_
    go_upto_region 999 with fail
    refine H49.ret1 (v := .bool true) rfl rfl ?_
    exact ⟨rfl, hL.1⟩
  refine wp_region_lit ?_
  refine h_op (m' := [(48, _), (9, _), (7, _), (1, _)]) H40 rfl (wn rfl) (R_mv H40 rfl rfl) rfl (.cons rfl (.cons rfl (.cons rfl (.cons rfl .nil)))) fun a41 H41 => ?_
  clear H40
  refine h_op (m' := [(49, _), (9, _), (7, _), (1, _)]) H41 rfl (wn rfl) (R_bin H41 rfl rfl rfl (B_to (y := true) (B_ge Try.underlying3 _ _) (decide_eq_true (by omega)))) rfl (.cons rfl (.cons rfl (.cons rfl (.cons rfl .nil)))) fun a42 H42 => ?_
  clear H41
  refine h_op (m' := [(50, _), (9, _), (7, _), (1, _)]) H42 rfl (wn rfl) (R_mv H42 rfl rfl) rfl (.cons rfl (.cons rfl (.cons rfl (.cons rfl .nil)))) fun a43 H43 => ?_
  clear H42
  refine h_op (m' := [(51, _), (50, _), (9, _), (7, _), (1, _)]) H43 rfl (H43.wt rfl rfl rfl) (R_mv H43 rfl rfl) rfl (.cons rfl (.cons rfl (.cons rfl (.cons rfl (.cons rfl .nil))))) fun a44 H44 => ?_
  clear H43
  refine h_op (m' := [(52, _), (51, _), (50, _), (9, _), (7, _), (1, _)]) H44 rfl (H44.wt rfl rfl rfl) (R_mv H44 rfl rfl) rfl (.cons rfl (.cons rfl (.cons rfl (.cons rfl (.cons rfl (.cons rfl .nil)))))) fun a45 H45 => ?_
  clear H44
  refine h_op (m' := [(53, _), (51, _), (50, _), (9, _), (7, _), (1, _)]) H45 rfl (H45.wt rfl rfl rfl) (R_len H45 rfl rfl Try.underlying9) rfl (.cons rfl (.cons rfl (.cons rfl (.cons rfl (.cons rfl (.cons rfl .nil)))))) fun a46 H46 => ?_
  clear H45
  refine h_op (m' := [(54, _), (50, _), (9, _), (7, _), (1, _)]) H46 rfl (H46.wt rfl rfl rfl) (R_bin H46 rfl rfl rfl (B_to (y := true) (B_lt Try.underlying3 _ _) (decide_eq_true (by omega)))) rfl (.cons rfl (.cons rfl (.cons rfl (.cons rfl (.cons rfl .nil))))) fun a47 H47 => ?_
  clear H46
  refine h_op (m' := [(55, _), (9, _), (7, _), (1, _)]) H47 rfl (wn rfl) (R_pick H47 rfl rfl rfl) rfl (.cons rfl (.cons rfl (.cons rfl (.cons rfl .nil)))) fun a48 H48 => ?_
  clear H47
  refine h_end ?_
  go_upto_region 13 with fail
  refine wp_cond (t := true) (H48.ev (x := .tmp 55) rfl) ?_
  go_upto_region 13 with fail
  have hc1 : readM ((bytesOr a).extract 0 k) = .error 7 := read_cut fa hwk (k := k) (by rw [ext_bytes]; simp) (by rw [bytes_size]; exact hk)
  have hc2 : ofM ((packL (frameL (bytesOr a))).extract 0 k) = .error 7 := by
    unfold ofM
    rw [whole_cut (by omega) (by omega)]
  have hfz := frame_size (bytesOr a)
  have hzc1 : ((bytesOr a).extract 0 k).size < 140737488351233 := by rw [ByteArray.size_extract]; omega
  have hzc2 : ((packL (frameL (bytesOr a))).extract 0 k).size < 140737488351233 := by rw [ByteArray.size_extract]; omega
  refine wp_region_lit ?_
  refine h_op (m' := [(57, _), (9, _), (1, _)]) H48 rfl (wn rfl) (R_mv H48 rfl rfl) rfl (.cons rfl (.cons rfl (.cons rfl .nil))) fun a49 H49 => ?_
  clear H48
  refine h_op (m' := [(58, _), (57, _), (9, _), (1, _)]) H49 rfl (wn rfl) (R_mv H49 rfl rfl) rfl (.cons rfl (.cons rfl (.cons rfl (.cons rfl .nil)))) fun a50 H50 => ?_
  clear H49
  refine h_op (m' := [(59, _), (9, _), (1, _)]) H50 rfl (wn rfl) (R_slh H50 rfl rfl rfl (sl_hi _ _ (by omega))) rfl (.cons rfl (.cons rfl (.cons rfl .nil))) fun a51 H51 => ?_
  clear H50
  refine h_call H51 rfl (wn rfl) (R_call1 H51 rfl rfl (fun w => by simp [go_sem])) rfl ?_
  refine (Read_any hzc1 hL).mono ?_
  intro e wx hs
  unfold Said at hs
  rw [hc1] at hs
  obtain ⟨rfl, hL2⟩ := hs
  replace hL := hL2
  clear hL2
  refine ⟨_, rfl, fun a52 HH => ?_⟩
  have H52 := HH [(60, _), (9, _), (1, _)] (.cons rfl (.cons rfl (.cons rfl .nil)))
  clear HH H51
  refine h_op (m' := [(56, _), (9, _), (1, _)]) H52 rfl (wn rfl) (R_mv H52 rfl rfl) rfl (.cons rfl (.cons rfl (.cons rfl .nil))) fun a53 H53 => ?_
  clear H52
  refine h_op (m' := [(61, _), (56, _), (9, _), (1, _)]) H53 rfl (wn rfl) (R_ext H53 rfl rfl rfl) rfl (.cons rfl (.cons rfl (.cons rfl (.cons rfl .nil)))) fun a54 H54 => ?_
  clear H53
  refine h_op (m' := [(62, _), (61, _), (9, _), (1, _)]) H54 rfl (wn rfl) (R_ext H54 rfl rfl rfl) rfl (.cons rfl (.cons rfl (.cons rfl (.cons rfl .nil)))) fun a55 H55 => ?_
  clear H54
  refine h_op (m' := [(13, _), (62, _), (61, _), (9, _), (1, _)]) H55 rfl (wn rfl) (R_alloc rfl al_row) rfl (.cons rfl (.cons rfl (.cons rfl (.cons rfl (.cons rfl .nil))))) fun a56 H56 => ?_
  clear H55
  replace hL := hL.alloc zcells 29
  have hst := hL.at_
  refine h_st H56 rfl (wn rfl) (R_st H56 rfl rfl rfl (st_row (m := .zero) (vo := .slice none 0 0) (vs := .slice none 0 0) hst (mcells_one rfl rfl))) fun a57 H57 => ?_
  clear H56
  replace hL := (hL.row zcells)
  clear hst
  refine h_op (m' := [(14, _), (9, _), (1, _)]) H57 rfl (wn rfl) (R_as H57 rfl rfl) rfl (.cons rfl (.cons rfl (.cons rfl .nil))) fun a58 H58 => ?_
  clear H57
  refine h_end ?_
  go_upto_region 14 with fail
  refine wp_region_lit ?_
  refine h_op (m' := [(64, _), (14, _), (1, _)]) H58 rfl (wn rfl) (R_mv H58 rfl rfl) rfl (.cons rfl (.cons rfl (.cons rfl .nil))) fun a59 H59 => ?_
  clear H58
  refine h_op (m' := [(65, _), (64, _), (14, _)]) H59 rfl (wn rfl) (R_mv H59 rfl rfl) rfl (.cons rfl (.cons rfl (.cons rfl .nil))) fun a60 H60 => ?_
  clear H59
  refine h_op (m' := [(66, _), (14, _)]) H60 rfl (wn rfl) (R_slh H60 rfl rfl rfl (sl_hi _ _ (by omega))) rfl (.cons rfl (.cons rfl .nil)) fun a61 H61 => ?_
  clear H60
  refine h_call H61 rfl (wn rfl) (R_call1 H61 rfl rfl (fun w => by simp [go_sem])) rfl ?_
  refine (Of_any hzc2 hL).mono ?_
  intro e wx hs
  unfold Said at hs
  rw [hc2] at hs
  obtain ⟨rfl, hL2⟩ := hs
  replace hL := hL2
  clear hL2
  refine ⟨_, rfl, fun a62 HH => ?_⟩
  have H62 := HH [(67, _), (14, _)] (.cons rfl (.cons rfl .nil))
  clear HH H61
  refine h_op (m' := [(63, _), (14, _)]) H62 rfl (wn rfl) (R_mv H62 rfl rfl) rfl (.cons rfl (.cons rfl .nil)) fun a63 H63 => ?_
  clear H62
  refine h_op (m' := [(68, _), (63, _), (14, _)]) H63 rfl (wn rfl) (R_ext H63 rfl rfl rfl) rfl (.cons rfl (.cons rfl (.cons rfl .nil))) fun a64 H64 => ?_
  clear H63
  refine h_op (m' := [(69, _), (68, _), (14, _)]) H64 rfl (wn rfl) (R_ext H64 rfl rfl rfl) rfl (.cons rfl (.cons rfl (.cons rfl .nil))) fun a65 H65 => ?_
  clear H64
  refine h_op (m' := [(15, _), (69, _), (68, _), (14, _)]) H65 rfl (wn rfl) (R_alloc rfl al_row) rfl (.cons rfl (.cons rfl (.cons rfl (.cons rfl .nil)))) fun a66 H66 => ?_
  clear H65
  replace hL := hL.alloc zcells 29
  have hst := hL.at_
  refine h_st H66 rfl (wn rfl) (R_st H66 rfl rfl rfl (st_row (m := .zero) (vo := .slice none 0 0) (vs := .slice none 0 0) hst (mcells_one rfl rfl))) fun a67 H67 => ?_
  clear H66
  replace hL := (hL.row zcells)
  clear hst
  refine h_op (m' := [(16, _), (14, _)]) H67 rfl (wn rfl) (R_as H67 rfl rfl) rfl (.cons rfl (.cons rfl .nil)) fun a68 H68 => ?_
  clear H67
  refine h_end ?_
  go_upto_region 15 with fail
  refine wp_region_lit ?_
  refine h_op (m' := [(70, _), (16, _)]) H68 rfl (wn rfl) (R_mv H68 rfl rfl) rfl (.cons rfl (.cons rfl .nil)) fun a69 H69 => ?_
  clear H68
  refine h_op (m' := [(71, _), (16, _)]) H69 rfl (wn rfl) (R_bin H69 rfl rfl rfl (B_eq Try.underlying33 _ _)) rfl (.cons rfl (.cons rfl .nil)) fun a70 H70 => ?_
  clear H69
  refine h_op (m' := [(72, _), (16, _)]) H70 rfl (wn rfl) (R_mv H70 rfl rfl) rfl (.cons rfl (.cons rfl .nil)) fun a71 H71 => ?_
  clear H70
  refine h_op (m' := [(73, _), (72, _)]) H71 rfl (H71.wt rfl rfl rfl) (R_mv H71 rfl rfl) rfl (.cons rfl (.cons rfl .nil)) fun a72 H72 => ?_
  clear H71
  refine h_op (m' := [(74, _), (72, _)]) H72 rfl (H72.wt rfl rfl rfl) (R_bin H72 rfl rfl rfl (B_eq Try.underlying33 _ _)) rfl (.cons rfl (.cons rfl .nil)) fun a73 H73 => ?_
  clear H72
  refine h_op (m' := [(75, _)]) H73 rfl (wn rfl) (R_pick H73 rfl rfl rfl) rfl (.cons rfl .nil) fun a74 H74 => ?_
  clear H73
  refine h_op (m' := [(6, _)]) H74 rfl (wn rfl) (R_as H74 rfl rfl) rfl (.cons rfl .nil) fun a75 H75 => ?_
  clear H74
  refine h_end ?_
  go_upto_region 999 with fail
  refine H75.ret1 (v := .bool true) rfl rfl ?_
  exact ⟨rfl, hL.1⟩
end
end Go.Proofs.Ytmmhchpilcjflaa
