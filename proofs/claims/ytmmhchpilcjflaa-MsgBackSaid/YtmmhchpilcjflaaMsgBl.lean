/-
  MsgBack: its walk.
-/
import Derived.Test.YtmmhchpilcjflaaMsgBk
import Derived.Test.YtmmhchpilcjflaaMsgFit
import Derived.Test.YtmmhchpilcjflaaFr
import Derived.Deep.Cut
set_option linter.unusedSimpArgs false
set_option linter.unusedVariables false
namespace Go.Proofs.Ytmmhchpilcjflaa
open Go.RowKit

theorem back_same {a b : PMsg} (fa : a.Fits) (ka : a.kind < 256) (ia : a.ikind < 256) (fb : b.Fits) (kb : b.kind < 256) (ib : b.ikind < 256) (ea : errM a = 0) (eb : errM b = 0) : ((bytesOr a).toList == (bytesOr b).toList) = sameB a b := by
  have ha := bytesM_ok fa ka ia (err_iff.1 ea)
  have hb := bytesM_ok fb kb ib (err_iff.1 eb)
  rw [Bool.eq_iff_iff, sameB_iff]
  constructor
  · intro h
    have h2 : bytesOr a = bytesOr b := u8_list_eq.1 (by simpa using h)
    have h3 := ha.2
    rw [h2, hb.2] at h3
    cases h3
    rfl
  · intro h
    subst h
    simp
section
variable {W : World} {a b : PMsg} {ao aS bo bs : Value} {s : ByteArray}
set_option maxHeartbeats 16000000 in
set_option maxRecDepth 100000 in
theorem back_law (na : a.FitsN) (nb : b.FitsN)
    (h1 : Rd W ao a.owner) (h2 : Rd W aS a.set) (h3 : Rd W bo b.owner) (h4 : Rd W bs b.set)
    (l1 : a.owner.length ≤ 9223372036854775807) (l2 : a.set.length ≤ 9223372036854775807) (l3 : b.owner.length ≤ 9223372036854775807) (l4 : b.set.length ≤ 9223372036854775807) :
    Calls Try.prog 10 #[.agg (mcells a ao aS), .agg (mcells b bo bs), .string s] W fun e W' => e = .returned (.bool true) ∧ Below W.heap.size W W' := by
  have hs1 : ∀ (w : World) (o : Obj), (w.alloc o).heap.size = w.heap.size + 1 := fun w o => by simp
  have hL := ((Live.init W).alloc (mcells a ao aS) 29).alloc (mcells b bo bs) 29
  simp only [hs1] at hL
  have K1 : ∀ {w}, Below W.heap.size W w → Rd w ao a.owner := fun hb => h1.kept fun k hk => hb.block k hk
  have K2 : ∀ {w}, Below W.heap.size W w → Rd w aS a.set := fun hb => h2.kept fun k hk => hb.block k hk
  have K3 : ∀ {w}, Below W.heap.size W w → Rd w bo b.owner := fun hb => h3.kept fun k hk => hb.block k hk
  have K4 : ∀ {w}, Below W.heap.size W w → Rd w bs b.set := fun hb => h4.kept fun k hk => hb.block k hk
  go_enter Try.func10, Try.ntmps10
  refine wp_fr (n := 138) (m := [(0, _), (1, _), (2, _)]) ⟨rfl, rfl, by intro p hp; simp only [List.mem_cons, List.not_mem_nil, or_false] at hp; rcases hp with rfl | rfl | rfl <;> rfl⟩ fun a0 H0 => ?_
  go_upto_region 0 with fail
  refine wp_region_lit ?_
  refine h_op (m' := [(3, _), (1, _), (2, _)]) H0 rfl (wn rfl) (R_box H0 rfl rfl bx_row) rfl (.cons rfl (.cons rfl (.cons rfl .nil))) fun a1 H1 => ?_
  clear H0
  refine h_op (m' := [(4, _), (3, _), (2, _)]) H1 rfl (wn rfl) (R_box H1 rfl rfl bx_row) rfl (.cons rfl (.cons rfl (.cons rfl .nil))) fun a2 H2 => ?_
  clear H1
  refine h_op (m' := [(6, _), (4, _), (3, _), (2, _)]) H2 rfl (wn rfl) (R_as H2 rfl rfl) rfl (.cons rfl (.cons rfl (.cons rfl (.cons rfl .nil)))) fun a3 H3 => ?_
  clear H2
  refine h_end ?_
  simp only [hs1] at *
  go_upto_region 1 with fail
  refine wp_region_lit ?_
  refine h_call H3 rfl (wn rfl) (R_call0 H3 rfl (fun w => by simp [go_sem])) rfl ?_
  refine (awake_ok).mono ?_
  rintro e wx ⟨rfl, hb⟩
  replace hL := hL.call hb
  clear hb
  refine ⟨_, rfl, fun a4 HH => ?_⟩
  have H4 := HH [(21, _), (6, _), (4, _), (3, _), (2, _)] (.cons rfl (.cons rfl (.cons rfl (.cons rfl (.cons rfl .nil)))))
  clear HH H3
  refine h_op (m' := [(22, _), (6, _), (4, _), (3, _), (2, _)]) H4 rfl (wn rfl) (R_not H4 rfl rfl) rfl (.cons rfl (.cons rfl (.cons rfl (.cons rfl (.cons rfl .nil))))) fun a5 H5 => ?_
  clear H4
  refine h_end ?_
  go_upto_region 3 with fail
  refine wp_cond (t := false) (H5.ev (x := .tmp 22) rfl) ?_
  go_upto_region 3 with fail
  cases ga : greatB a
  · cases gb : greatB b
    · by_cases hbig : 20000 < s.size
      · have big : decide ((s.size : Int) > 20000) = true := decide_eq_true (by omega)
        refine wp_region_lit ?_
        refine h_op (m' := [(23, _), (6, _), (4, _), (3, _), (2, _)]) H5 rfl (wn rfl) (R_ld H5 rfl rfl (ld_row hL.tail.at_)) rfl (.cons rfl (.cons rfl (.cons rfl (.cons rfl (.cons rfl .nil))))) fun a6 H6 => ?_
        clear H5
        refine h_call H6 rfl (wn rfl) (R_call1 H6 rfl rfl (fun w => by simp [go_sem])) rfl ?_
        refine (Great_any (K1 hL.1) (K2 hL.1) l1 l2).mono ?_
        rintro e wx ⟨rfl, hb⟩
        replace hL := hL.call hb
        clear hb
        rw [ga]
        refine ⟨_, rfl, fun a7 HH => ?_⟩
        have H7 := HH [(24, _), (6, _), (4, _), (3, _), (2, _)] (.cons rfl (.cons rfl (.cons rfl (.cons rfl (.cons rfl .nil)))))
        clear HH H6
        refine h_op (m' := [(25, _), (6, _), (4, _), (3, _), (2, _)]) H7 rfl (wn rfl) (R_mv H7 rfl rfl) rfl (.cons rfl (.cons rfl (.cons rfl (.cons rfl (.cons rfl .nil))))) fun a8 H8 => ?_
        clear H7
        refine h_op (m' := [(26, _), (25, _), (6, _), (4, _), (3, _), (2, _)]) H8 rfl (H8.wt rfl rfl rfl) (R_ld H8 rfl rfl (ld_row hL.at_)) rfl (.cons rfl (.cons rfl (.cons rfl (.cons rfl (.cons rfl (.cons rfl .nil)))))) fun a9 H9 => ?_
        clear H8
        refine h_call H9 rfl (H9.wt rfl rfl rfl) (R_call1 H9 rfl rfl (fun w => by simp [go_sem])) rfl ?_
        refine (Great_any (K3 hL.1) (K4 hL.1) l3 l4).mono ?_
        rintro e wx ⟨rfl, hb⟩
        replace hL := hL.call hb
        clear hb
        rw [gb]
        refine ⟨_, rfl, fun a10 HH => ?_⟩
        have H10 := HH [(27, _), (25, _), (6, _), (4, _), (3, _), (2, _)] (.cons rfl (.cons rfl (.cons rfl (.cons rfl (.cons rfl (.cons rfl .nil))))))
        clear HH H9
        refine h_op (m' := [(28, _), (6, _), (4, _), (3, _), (2, _)]) H10 rfl (wn rfl) (R_pick H10 rfl rfl rfl) rfl (.cons rfl (.cons rfl (.cons rfl (.cons rfl (.cons rfl .nil))))) fun a11 H11 => ?_
        clear H10
        refine h_op (m' := [(29, _), (6, _), (4, _), (3, _), (2, _)]) H11 rfl (wn rfl) (R_mv H11 rfl rfl) rfl (.cons rfl (.cons rfl (.cons rfl (.cons rfl (.cons rfl .nil))))) fun a12 H12 => ?_
        clear H11
        refine h_op (m' := [(30, _), (29, _), (6, _), (4, _), (3, _), (2, _)]) H12 rfl (H12.wt rfl rfl rfl) (R_mv H12 rfl rfl) rfl (.cons rfl (.cons rfl (.cons rfl (.cons rfl (.cons rfl (.cons rfl .nil)))))) fun a13 H13 => ?_
        clear H12
        refine h_op (m' := [(31, _), (29, _), (6, _), (4, _), (3, _), (2, _)]) H13 rfl (H13.wt rfl rfl rfl) (R_len H13 rfl rfl Try.underlying9) rfl (.cons rfl (.cons rfl (.cons rfl (.cons rfl (.cons rfl (.cons rfl .nil)))))) fun a14 H14 => ?_
        clear H13
        refine h_op (m' := [(32, _), (29, _), (6, _), (4, _), (3, _), (2, _)]) H14 rfl (H14.wt rfl rfl rfl) (R_bin H14 rfl rfl rfl (B_to (B_gt Try.underlying3 _ _) big)) rfl (.cons rfl (.cons rfl (.cons rfl (.cons rfl (.cons rfl (.cons rfl .nil)))))) fun a15 H15 => ?_
        clear H14
        refine h_op (m' := [(33, _), (6, _), (4, _), (3, _), (2, _)]) H15 rfl (wn rfl) (R_pick H15 rfl rfl rfl) rfl (.cons rfl (.cons rfl (.cons rfl (.cons rfl (.cons rfl .nil))))) fun a16 H16 => ?_
        clear H15
        refine h_end ?_
        go_upto_region 4 with fail
        refine wp_cond (t := true) (H16.ev (x := .tmp 33) rfl) ?_
        go_upto_region 4 with fail
        refine wp_region_lit ?_
        refine h_op (m' := [(6, _), (4, _), (3, _), (2, _)]) H16 rfl (wn rfl) (R_as H16 rfl rfl) rfl (.cons rfl (.cons rfl (.cons rfl (.cons rfl .nil)))) fun a17 H17 => ?_
        clear H16
        refine h_end ?_
        go_upto_region 999 with fail
        refine H17.ret1 (v := .bool true) rfl rfl ?_
        exact ⟨rfl, hL.1⟩
      · have big : decide ((s.size : Int) > 20000) = false := decide_eq_false (by omega)
        refine wp_region_lit ?_
        refine h_op (m' := [(23, _), (6, _), (4, _), (3, _), (2, _)]) H5 rfl (wn rfl) (R_ld H5 rfl rfl (ld_row hL.tail.at_)) rfl (.cons rfl (.cons rfl (.cons rfl (.cons rfl (.cons rfl .nil))))) fun a6 H6 => ?_
        clear H5
        refine h_call H6 rfl (wn rfl) (R_call1 H6 rfl rfl (fun w => by simp [go_sem])) rfl ?_
        refine (Great_any (K1 hL.1) (K2 hL.1) l1 l2).mono ?_
        rintro e wx ⟨rfl, hb⟩
        replace hL := hL.call hb
        clear hb
        rw [ga]
        refine ⟨_, rfl, fun a7 HH => ?_⟩
        have H7 := HH [(24, _), (6, _), (4, _), (3, _), (2, _)] (.cons rfl (.cons rfl (.cons rfl (.cons rfl (.cons rfl .nil)))))
        clear HH H6
        refine h_op (m' := [(25, _), (6, _), (4, _), (3, _), (2, _)]) H7 rfl (wn rfl) (R_mv H7 rfl rfl) rfl (.cons rfl (.cons rfl (.cons rfl (.cons rfl (.cons rfl .nil))))) fun a8 H8 => ?_
        clear H7
        refine h_op (m' := [(26, _), (25, _), (6, _), (4, _), (3, _), (2, _)]) H8 rfl (H8.wt rfl rfl rfl) (R_ld H8 rfl rfl (ld_row hL.at_)) rfl (.cons rfl (.cons rfl (.cons rfl (.cons rfl (.cons rfl (.cons rfl .nil)))))) fun a9 H9 => ?_
        clear H8
        refine h_call H9 rfl (H9.wt rfl rfl rfl) (R_call1 H9 rfl rfl (fun w => by simp [go_sem])) rfl ?_
        refine (Great_any (K3 hL.1) (K4 hL.1) l3 l4).mono ?_
        rintro e wx ⟨rfl, hb⟩
        replace hL := hL.call hb
        clear hb
        rw [gb]
        refine ⟨_, rfl, fun a10 HH => ?_⟩
        have H10 := HH [(27, _), (25, _), (6, _), (4, _), (3, _), (2, _)] (.cons rfl (.cons rfl (.cons rfl (.cons rfl (.cons rfl (.cons rfl .nil))))))
        clear HH H9
        refine h_op (m' := [(28, _), (6, _), (4, _), (3, _), (2, _)]) H10 rfl (wn rfl) (R_pick H10 rfl rfl rfl) rfl (.cons rfl (.cons rfl (.cons rfl (.cons rfl (.cons rfl .nil))))) fun a11 H11 => ?_
        clear H10
        refine h_op (m' := [(29, _), (6, _), (4, _), (3, _), (2, _)]) H11 rfl (wn rfl) (R_mv H11 rfl rfl) rfl (.cons rfl (.cons rfl (.cons rfl (.cons rfl (.cons rfl .nil))))) fun a12 H12 => ?_
        clear H11
        refine h_op (m' := [(30, _), (29, _), (6, _), (4, _), (3, _), (2, _)]) H12 rfl (H12.wt rfl rfl rfl) (R_mv H12 rfl rfl) rfl (.cons rfl (.cons rfl (.cons rfl (.cons rfl (.cons rfl (.cons rfl .nil)))))) fun a13 H13 => ?_
        clear H12
        refine h_op (m' := [(31, _), (29, _), (6, _), (4, _), (3, _), (2, _)]) H13 rfl (H13.wt rfl rfl rfl) (R_len H13 rfl rfl Try.underlying9) rfl (.cons rfl (.cons rfl (.cons rfl (.cons rfl (.cons rfl (.cons rfl .nil)))))) fun a14 H14 => ?_
        clear H13
        refine h_op (m' := [(32, _), (29, _), (6, _), (4, _), (3, _), (2, _)]) H14 rfl (H14.wt rfl rfl rfl) (R_bin H14 rfl rfl rfl (B_to (B_gt Try.underlying3 _ _) big)) rfl (.cons rfl (.cons rfl (.cons rfl (.cons rfl (.cons rfl (.cons rfl .nil)))))) fun a15 H15 => ?_
        clear H14
        refine h_op (m' := [(33, _), (6, _), (4, _), (3, _), (2, _)]) H15 rfl (wn rfl) (R_pick H15 rfl rfl rfl) rfl (.cons rfl (.cons rfl (.cons rfl (.cons rfl (.cons rfl .nil))))) fun a16 H16 => ?_
        clear H15
        refine h_end ?_
        go_upto_region 5 with fail
        refine wp_cond (t := false) (H16.ev (x := .tmp 33) rfl) ?_
        go_upto_region 5 with fail
        have fa := fits_g na ga
        have ka := na.kind
        have ia := na.ikind
        have fb := fits_g nb gb
        have kb := nb.kind
        have ib := nb.ikind
        have hz : s.size < 140737488351233 := by omega
        have lo1 : a.owner.length ≤ 1000000000000 := by have := great_no ga; omega
        have ls1 : a.set.length ≤ 1000000000000 := by have := great_no ga; omega
        have lo2 : b.owner.length ≤ 1000000000000 := by have := great_no gb; omega
        have ls2 : b.set.length ≤ 1000000000000 := by have := great_no gb; omega
        refine wp_region_lit ?_
        refine h_op (m' := [(35, _), (6, _), (4, _), (3, _), (2, _)]) H16 rfl (wn rfl) (R_ld H16 rfl rfl (ld_row hL.tail.at_)) rfl (.cons rfl (.cons rfl (.cons rfl (.cons rfl (.cons rfl .nil))))) fun a17 H17 => ?_
        clear H16
        refine h_call H17 rfl (wn rfl) (R_call1 H17 rfl rfl (fun w => by simp [go_sem])) rfl ?_
        refine (Bytes_e fa ka ia (K1 hL.1) (K2 hL.1) lo1 ls1).mono ?_
        rintro e wx ⟨rfl, hb⟩
        replace hL := hL.call hb
        clear hb
        refine ⟨_, rfl, fun a18 HH => ?_⟩
        have H18 := HH [(36, _), (6, _), (4, _), (3, _), (2, _)] (.cons rfl (.cons rfl (.cons rfl (.cons rfl (.cons rfl .nil)))))
        clear HH H17
        refine h_op (m' := [(34, _), (6, _), (4, _), (3, _), (2, _)]) H18 rfl (wn rfl) (R_mv H18 rfl rfl) rfl (.cons rfl (.cons rfl (.cons rfl (.cons rfl (.cons rfl .nil))))) fun a19 H19 => ?_
        clear H18
        refine h_op (m' := [(37, _), (34, _), (6, _), (4, _), (3, _), (2, _)]) H19 rfl (wn rfl) (R_ext H19 rfl rfl rfl) rfl (.cons rfl (.cons rfl (.cons rfl (.cons rfl (.cons rfl (.cons rfl .nil)))))) fun a20 H20 => ?_
        clear H19
        refine h_op (m' := [(38, _), (37, _), (6, _), (4, _), (3, _), (2, _)]) H20 rfl (wn rfl) (R_ext H20 rfl rfl rfl) rfl (.cons rfl (.cons rfl (.cons rfl (.cons rfl (.cons rfl (.cons rfl .nil)))))) fun a21 H21 => ?_
        clear H20
        refine h_op (m' := [(7, _), (38, _), (6, _), (4, _), (3, _), (2, _)]) H21 rfl (wn rfl) (R_as H21 rfl rfl) rfl (.cons rfl (.cons rfl (.cons rfl (.cons rfl (.cons rfl (.cons rfl .nil)))))) fun a22 H22 => ?_
        clear H21
        refine h_op (m' := [(8, _), (7, _), (6, _), (4, _), (3, _), (2, _)]) H22 rfl (wn rfl) (R_as H22 rfl rfl) rfl (.cons rfl (.cons rfl (.cons rfl (.cons rfl (.cons rfl (.cons rfl .nil)))))) fun a23 H23 => ?_
        clear H22
        refine h_end ?_
        go_upto_region 6 with fail
        refine wp_region_lit ?_
        refine h_op (m' := [(40, _), (8, _), (7, _), (6, _), (4, _), (3, _), (2, _)]) H23 rfl (wn rfl) (R_ld H23 rfl rfl (ld_row hL.at_)) rfl (.cons rfl (.cons rfl (.cons rfl (.cons rfl (.cons rfl (.cons rfl (.cons rfl .nil))))))) fun a24 H24 => ?_
        clear H23
        refine h_call H24 rfl (wn rfl) (R_call1 H24 rfl rfl (fun w => by simp [go_sem])) rfl ?_
        refine (Bytes_e fb kb ib (K3 hL.1) (K4 hL.1) lo2 ls2).mono ?_
        rintro e wx ⟨rfl, hb⟩
        replace hL := hL.call hb
        clear hb
        refine ⟨_, rfl, fun a25 HH => ?_⟩
        have H25 := HH [(41, _), (8, _), (7, _), (6, _), (4, _), (3, _), (2, _)] (.cons rfl (.cons rfl (.cons rfl (.cons rfl (.cons rfl (.cons rfl (.cons rfl .nil)))))))
        clear HH H24
        refine h_op (m' := [(39, _), (8, _), (7, _), (6, _), (4, _), (3, _), (2, _)]) H25 rfl (wn rfl) (R_mv H25 rfl rfl) rfl (.cons rfl (.cons rfl (.cons rfl (.cons rfl (.cons rfl (.cons rfl (.cons rfl .nil))))))) fun a26 H26 => ?_
        clear H25
        refine h_op (m' := [(42, _), (39, _), (8, _), (7, _), (6, _), (4, _), (3, _), (2, _)]) H26 rfl (wn rfl) (R_ext H26 rfl rfl rfl) rfl (.cons rfl (.cons rfl (.cons rfl (.cons rfl (.cons rfl (.cons rfl (.cons rfl (.cons rfl .nil)))))))) fun a27 H27 => ?_
        clear H26
        refine h_op (m' := [(43, _), (42, _), (8, _), (7, _), (6, _), (4, _), (3, _), (2, _)]) H27 rfl (wn rfl) (R_ext H27 rfl rfl rfl) rfl (.cons rfl (.cons rfl (.cons rfl (.cons rfl (.cons rfl (.cons rfl (.cons rfl (.cons rfl .nil)))))))) fun a28 H28 => ?_
        clear H27
        refine h_op (m' := [(9, _), (43, _), (8, _), (7, _), (6, _), (4, _), (3, _), (2, _)]) H28 rfl (wn rfl) (R_as H28 rfl rfl) rfl (.cons rfl (.cons rfl (.cons rfl (.cons rfl (.cons rfl (.cons rfl (.cons rfl (.cons rfl .nil)))))))) fun a29 H29 => ?_
        clear H28
        refine h_op (m' := [(10, _), (9, _), (8, _), (7, _), (6, _), (4, _), (3, _), (2, _)]) H29 rfl (wn rfl) (R_as H29 rfl rfl) rfl (.cons rfl (.cons rfl (.cons rfl (.cons rfl (.cons rfl (.cons rfl (.cons rfl (.cons rfl .nil)))))))) fun a30 H30 => ?_
        clear H29
        refine h_end ?_
        go_upto_region 7 with fail
        refine wp_region_lit ?_
        refine h_op (m' := [(45, _), (10, _), (9, _), (8, _), (7, _), (6, _), (4, _), (3, _), (2, _)]) H30 rfl (wn rfl) (R_ld H30 rfl rfl (ld_row hL.tail.at_)) rfl (.cons rfl (.cons rfl (.cons rfl (.cons rfl (.cons rfl (.cons rfl (.cons rfl (.cons rfl (.cons rfl .nil))))))))) fun a31 H31 => ?_
        clear H30
        refine h_call H31 rfl (wn rfl) (R_call1 H31 rfl rfl (fun w => by simp [go_sem])) rfl ?_
        refine (Data_e fa ka ia (K1 hL.1) (K2 hL.1) lo1 ls1).mono ?_
        rintro e wx ⟨rfl, hb⟩
        replace hL := hL.call hb
        clear hb
        refine ⟨_, rfl, fun a32 HH => ?_⟩
        have H32 := HH [(46, _), (10, _), (9, _), (8, _), (7, _), (6, _), (4, _), (3, _), (2, _)] (.cons rfl (.cons rfl (.cons rfl (.cons rfl (.cons rfl (.cons rfl (.cons rfl (.cons rfl (.cons rfl .nil)))))))))
        clear HH H31
        refine h_op (m' := [(44, _), (10, _), (9, _), (8, _), (7, _), (6, _), (4, _), (3, _), (2, _)]) H32 rfl (wn rfl) (R_mv H32 rfl rfl) rfl (.cons rfl (.cons rfl (.cons rfl (.cons rfl (.cons rfl (.cons rfl (.cons rfl (.cons rfl (.cons rfl .nil))))))))) fun a33 H33 => ?_
        clear H32
        refine h_op (m' := [(47, _), (44, _), (10, _), (9, _), (8, _), (7, _), (6, _), (4, _), (3, _), (2, _)]) H33 rfl (wn rfl) (R_ext H33 rfl rfl rfl) rfl (.cons rfl (.cons rfl (.cons rfl (.cons rfl (.cons rfl (.cons rfl (.cons rfl (.cons rfl (.cons rfl (.cons rfl .nil)))))))))) fun a34 H34 => ?_
        clear H33
        refine h_op (m' := [(48, _), (47, _), (10, _), (9, _), (8, _), (7, _), (6, _), (4, _), (3, _), (2, _)]) H34 rfl (wn rfl) (R_ext H34 rfl rfl rfl) rfl (.cons rfl (.cons rfl (.cons rfl (.cons rfl (.cons rfl (.cons rfl (.cons rfl (.cons rfl (.cons rfl (.cons rfl .nil)))))))))) fun a35 H35 => ?_
        clear H34
        refine h_op (m' := [(11, _), (48, _), (10, _), (9, _), (8, _), (7, _), (6, _), (4, _), (3, _), (2, _)]) H35 rfl (wn rfl) (R_as H35 rfl rfl) rfl (.cons rfl (.cons rfl (.cons rfl (.cons rfl (.cons rfl (.cons rfl (.cons rfl (.cons rfl (.cons rfl (.cons rfl .nil)))))))))) fun a36 H36 => ?_
        clear H35
        refine h_op (m' := [(12, _), (11, _), (10, _), (9, _), (8, _), (7, _), (6, _), (4, _), (3, _), (2, _)]) H36 rfl (wn rfl) (R_as H36 rfl rfl) rfl (.cons rfl (.cons rfl (.cons rfl (.cons rfl (.cons rfl (.cons rfl (.cons rfl (.cons rfl (.cons rfl (.cons rfl .nil)))))))))) fun a37 H37 => ?_
        clear H36
        refine h_end ?_
        go_upto_region 8 with fail
        refine wp_cut (fun a' w' => Fr a' 138 [(80, .bool false), (11, .string (dataOr a)), (8, .int .i64 (errM a)), (7, .string (bytesOr a)), (4, .pointer (some ⟨W.heap.size + 1, 0, none⟩)), (3, .pointer (some ⟨W.heap.size, 0, none⟩)), (2, .string s)] ∧ Live W [(W.heap.size + 1, mcells b bo bs, 29), (W.heap.size, mcells a ao aS, 29)] w') ?_ ?_
        rotate_left
        · intro J K' hJ hM
          by_cases ea : errM a = 0
          · by_cases eb : errM b = 0
            · refine wp_region_lit ?_
              refine h_op (m' := [(49, _), (12, _), (11, _), (10, _), (9, _), (8, _), (7, _), (4, _), (3, _), (2, _)]) H37 rfl (wn rfl) (R_mv H37 rfl rfl) rfl (.cons rfl (.cons rfl (.cons rfl (.cons rfl (.cons rfl (.cons rfl (.cons rfl (.cons rfl (.cons rfl (.cons rfl .nil)))))))))) fun a38 H38 => ?_
              clear H37
              refine h_op (m' := [(50, _), (49, _), (12, _), (11, _), (10, _), (9, _), (8, _), (7, _), (4, _), (3, _), (2, _)]) H38 rfl (wn rfl) (R_ld H38 rfl rfl (ld_row hL.tail.at_)) rfl (.cons rfl (.cons rfl (.cons rfl (.cons rfl (.cons rfl (.cons rfl (.cons rfl (.cons rfl (.cons rfl (.cons rfl (.cons rfl .nil))))))))))) fun a39 H39 => ?_
              clear H38
              refine h_call H39 rfl (wn rfl) (R_call1 H39 rfl rfl (fun w => by simp [go_sem])) rfl ?_
              refine (Right_any fa ka ia (K1 hL.1) (K2 hL.1) lo1 ls1).mono ?_
              rintro e wx ⟨rfl, hb⟩
              replace hL := hL.call hb
              clear hb
              refine ⟨_, rfl, fun a40 HH => ?_⟩
              have H40 := HH [(51, _), (49, _), (12, _), (11, _), (10, _), (9, _), (8, _), (7, _), (4, _), (3, _), (2, _)] (.cons rfl (.cons rfl (.cons rfl (.cons rfl (.cons rfl (.cons rfl (.cons rfl (.cons rfl (.cons rfl (.cons rfl (.cons rfl .nil)))))))))))
              clear HH H39
              refine h_op (m' := [(52, _), (12, _), (11, _), (10, _), (9, _), (8, _), (7, _), (4, _), (3, _), (2, _)]) H40 rfl (wn rfl) (R_bin H40 rfl rfl rfl (B_to (y := false) (B_ne Try.underlying33 _ _) (by simp))) rfl (.cons rfl (.cons rfl (.cons rfl (.cons rfl (.cons rfl (.cons rfl (.cons rfl (.cons rfl (.cons rfl (.cons rfl .nil)))))))))) fun a41 H41 => ?_
              clear H40
              refine h_op (m' := [(53, _), (12, _), (11, _), (10, _), (9, _), (8, _), (7, _), (4, _), (3, _), (2, _)]) H41 rfl (wn rfl) (R_mv H41 rfl rfl) rfl (.cons rfl (.cons rfl (.cons rfl (.cons rfl (.cons rfl (.cons rfl (.cons rfl (.cons rfl (.cons rfl (.cons rfl .nil)))))))))) fun a42 H42 => ?_
              clear H41
              refine h_op (m' := [(54, _), (53, _), (12, _), (11, _), (10, _), (9, _), (8, _), (7, _), (4, _), (3, _), (2, _)]) H42 rfl (H42.wt rfl rfl rfl) (R_mv H42 rfl rfl) rfl (.cons rfl (.cons rfl (.cons rfl (.cons rfl (.cons rfl (.cons rfl (.cons rfl (.cons rfl (.cons rfl (.cons rfl (.cons rfl .nil))))))))))) fun a43 H43 => ?_
              clear H42
              refine h_op (m' := [(55, _), (54, _), (53, _), (12, _), (11, _), (10, _), (9, _), (8, _), (7, _), (4, _), (3, _), (2, _)]) H43 rfl (H43.wt rfl rfl rfl) (R_ld H43 rfl rfl (ld_row hL.at_)) rfl (.cons rfl (.cons rfl (.cons rfl (.cons rfl (.cons rfl (.cons rfl (.cons rfl (.cons rfl (.cons rfl (.cons rfl (.cons rfl (.cons rfl .nil)))))))))))) fun a44 H44 => ?_
              clear H43
              refine h_call H44 rfl (H44.wt rfl rfl rfl) (R_call1 H44 rfl rfl (fun w => by simp [go_sem])) rfl ?_
              refine (Right_any fb kb ib (K3 hL.1) (K4 hL.1) lo2 ls2).mono ?_
              rintro e wx ⟨rfl, hb⟩
              replace hL := hL.call hb
              clear hb
              refine ⟨_, rfl, fun a45 HH => ?_⟩
              have H45 := HH [(56, _), (54, _), (53, _), (12, _), (11, _), (10, _), (9, _), (8, _), (7, _), (4, _), (3, _), (2, _)] (.cons rfl (.cons rfl (.cons rfl (.cons rfl (.cons rfl (.cons rfl (.cons rfl (.cons rfl (.cons rfl (.cons rfl (.cons rfl (.cons rfl .nil))))))))))))
              clear HH H44
              refine h_op (m' := [(57, _), (53, _), (12, _), (11, _), (10, _), (9, _), (8, _), (7, _), (4, _), (3, _), (2, _)]) H45 rfl (H45.wt rfl rfl rfl) (R_bin H45 rfl rfl rfl (B_to (y := false) (B_ne Try.underlying33 _ _) (by simp))) rfl (.cons rfl (.cons rfl (.cons rfl (.cons rfl (.cons rfl (.cons rfl (.cons rfl (.cons rfl (.cons rfl (.cons rfl (.cons rfl .nil))))))))))) fun a46 H46 => ?_
              clear H45
              refine h_op (m' := [(58, _), (12, _), (11, _), (10, _), (9, _), (8, _), (7, _), (4, _), (3, _), (2, _)]) H46 rfl (wn rfl) (R_pick H46 rfl rfl rfl) rfl (.cons rfl (.cons rfl (.cons rfl (.cons rfl (.cons rfl (.cons rfl (.cons rfl (.cons rfl (.cons rfl (.cons rfl .nil)))))))))) fun a47 H47 => ?_
              clear H46
              refine h_op (m' := [(59, _), (12, _), (11, _), (10, _), (9, _), (8, _), (7, _), (4, _), (3, _), (2, _)]) H47 rfl (wn rfl) (R_mv H47 rfl rfl) rfl (.cons rfl (.cons rfl (.cons rfl (.cons rfl (.cons rfl (.cons rfl (.cons rfl (.cons rfl (.cons rfl (.cons rfl .nil)))))))))) fun a48 H48 => ?_
              clear H47
              refine h_op (m' := [(60, _), (59, _), (11, _), (10, _), (9, _), (8, _), (7, _), (4, _), (3, _), (2, _)]) H48 rfl (H48.wt rfl rfl rfl) (R_mv H48 rfl rfl) rfl (.cons rfl (.cons rfl (.cons rfl (.cons rfl (.cons rfl (.cons rfl (.cons rfl (.cons rfl (.cons rfl (.cons rfl .nil)))))))))) fun a49 H49 => ?_
              clear H48
              refine h_op (m' := [(61, _), (60, _), (59, _), (11, _), (10, _), (9, _), (8, _), (7, _), (4, _), (3, _), (2, _)]) H49 rfl (H49.wt rfl rfl rfl) (R_mv H49 rfl rfl) rfl (.cons rfl (.cons rfl (.cons rfl (.cons rfl (.cons rfl (.cons rfl (.cons rfl (.cons rfl (.cons rfl (.cons rfl (.cons rfl .nil))))))))))) fun a50 H50 => ?_
              clear H49
              refine h_op (m' := [(62, _), (59, _), (11, _), (10, _), (9, _), (8, _), (7, _), (4, _), (3, _), (2, _)]) H50 rfl (H50.wt rfl rfl rfl) (R_bin H50 rfl rfl rfl (B_to (y := false) (B_ne Try.underlying33 _ _) (by simp))) rfl (.cons rfl (.cons rfl (.cons rfl (.cons rfl (.cons rfl (.cons rfl (.cons rfl (.cons rfl (.cons rfl (.cons rfl .nil)))))))))) fun a51 H51 => ?_
              clear H50
              refine h_op (m' := [(63, _), (11, _), (10, _), (9, _), (8, _), (7, _), (4, _), (3, _), (2, _)]) H51 rfl (wn rfl) (R_pick H51 rfl rfl rfl) rfl (.cons rfl (.cons rfl (.cons rfl (.cons rfl (.cons rfl (.cons rfl (.cons rfl (.cons rfl (.cons rfl .nil))))))))) fun a52 H52 => ?_
              clear H51
              refine h_op (m' := [(64, _), (11, _), (10, _), (9, _), (8, _), (7, _), (4, _), (3, _), (2, _)]) H52 rfl (wn rfl) (R_mv H52 rfl rfl) rfl (.cons rfl (.cons rfl (.cons rfl (.cons rfl (.cons rfl (.cons rfl (.cons rfl (.cons rfl (.cons rfl .nil))))))))) fun a53 H53 => ?_
              clear H52
              refine h_op (m' := [(65, _), (64, _), (11, _), (10, _), (9, _), (8, _), (7, _), (4, _), (3, _), (2, _)]) H53 rfl (H53.wt rfl rfl rfl) (R_mv H53 rfl rfl) rfl (.cons rfl (.cons rfl (.cons rfl (.cons rfl (.cons rfl (.cons rfl (.cons rfl (.cons rfl (.cons rfl (.cons rfl .nil)))))))))) fun a54 H54 => ?_
              clear H53
              refine h_op (m' := [(66, _), (64, _), (11, _), (10, _), (9, _), (8, _), (7, _), (4, _), (3, _), (2, _)]) H54 rfl (H54.wt rfl rfl rfl) (R_bin H54 rfl rfl rfl (B_to (B_eq Try.underlying33 _ _) (beq_iff_eq.2 ea))) rfl (.cons rfl (.cons rfl (.cons rfl (.cons rfl (.cons rfl (.cons rfl (.cons rfl (.cons rfl (.cons rfl (.cons rfl .nil)))))))))) fun a55 H55 => ?_
              clear H54
              refine h_op (m' := [(67, _), (64, _), (11, _), (10, _), (9, _), (8, _), (7, _), (4, _), (3, _), (2, _)]) H55 rfl (H55.wt rfl rfl rfl) (R_mv H55 rfl rfl) rfl (.cons rfl (.cons rfl (.cons rfl (.cons rfl (.cons rfl (.cons rfl (.cons rfl (.cons rfl (.cons rfl (.cons rfl .nil)))))))))) fun a56 H56 => ?_
              clear H55
              refine h_op (m' := [(68, _), (67, _), (64, _), (11, _), (9, _), (8, _), (7, _), (4, _), (3, _), (2, _)]) H56 rfl (H56.wt rfl rfl rfl) (R_mv H56 rfl rfl) rfl (.cons rfl (.cons rfl (.cons rfl (.cons rfl (.cons rfl (.cons rfl (.cons rfl (.cons rfl (.cons rfl (.cons rfl .nil)))))))))) fun a57 H57 => ?_
              clear H56
              refine h_op (m' := [(69, _), (67, _), (64, _), (11, _), (9, _), (8, _), (7, _), (4, _), (3, _), (2, _)]) H57 rfl (H57.wt rfl rfl rfl) (R_bin H57 rfl rfl rfl (B_to (B_eq Try.underlying33 _ _) (beq_iff_eq.2 eb))) rfl (.cons rfl (.cons rfl (.cons rfl (.cons rfl (.cons rfl (.cons rfl (.cons rfl (.cons rfl (.cons rfl (.cons rfl .nil)))))))))) fun a58 H58 => ?_
              clear H57
              refine h_op (m' := [(70, _), (64, _), (11, _), (9, _), (8, _), (7, _), (4, _), (3, _), (2, _)]) H58 rfl (H58.wt rfl rfl rfl) (R_pick H58 rfl rfl rfl) rfl (.cons rfl (.cons rfl (.cons rfl (.cons rfl (.cons rfl (.cons rfl (.cons rfl (.cons rfl (.cons rfl .nil))))))))) fun a59 H59 => ?_
              clear H58
              refine h_op (m' := [(71, _), (64, _), (11, _), (9, _), (8, _), (7, _), (4, _), (3, _), (2, _)]) H59 rfl (H59.wt rfl rfl rfl) (R_mv H59 rfl rfl) rfl (.cons rfl (.cons rfl (.cons rfl (.cons rfl (.cons rfl (.cons rfl (.cons rfl (.cons rfl (.cons rfl .nil))))))))) fun a60 H60 => ?_
              clear H59
              refine h_op (m' := [(72, _), (71, _), (64, _), (11, _), (9, _), (8, _), (7, _), (4, _), (3, _), (2, _)]) H60 rfl (H60.wt rfl rfl rfl) (R_mv H60 rfl rfl) rfl (.cons rfl (.cons rfl (.cons rfl (.cons rfl (.cons rfl (.cons rfl (.cons rfl (.cons rfl (.cons rfl (.cons rfl .nil)))))))))) fun a61 H61 => ?_
              clear H60
              refine h_op (m' := [(73, _), (72, _), (71, _), (64, _), (11, _), (8, _), (7, _), (4, _), (3, _), (2, _)]) H61 rfl (H61.wt rfl rfl rfl) (R_mv H61 rfl rfl) rfl (.cons rfl (.cons rfl (.cons rfl (.cons rfl (.cons rfl (.cons rfl (.cons rfl (.cons rfl (.cons rfl (.cons rfl .nil)))))))))) fun a62 H62 => ?_
              clear H61
              refine h_op (m' := [(74, _), (71, _), (64, _), (11, _), (8, _), (7, _), (4, _), (3, _), (2, _)]) H62 rfl (H62.wt rfl rfl rfl) (R_bin H62 rfl rfl rfl (B_eqs _ _)) rfl (.cons rfl (.cons rfl (.cons rfl (.cons rfl (.cons rfl (.cons rfl (.cons rfl (.cons rfl (.cons rfl .nil))))))))) fun a63 H63 => ?_
              clear H62
              refine h_op (m' := [(75, _), (74, _), (71, _), (64, _), (11, _), (8, _), (7, _), (4, _), (3, _), (2, _)]) H63 rfl (H63.wt rfl rfl rfl) (R_ld H63 rfl rfl (ld_row hL.tail.at_)) rfl (.cons rfl (.cons rfl (.cons rfl (.cons rfl (.cons rfl (.cons rfl (.cons rfl (.cons rfl (.cons rfl (.cons rfl .nil)))))))))) fun a64 H64 => ?_
              clear H63
              refine h_op (m' := [(76, _), (75, _), (74, _), (71, _), (64, _), (11, _), (8, _), (7, _), (4, _), (3, _), (2, _)]) H64 rfl (H64.wt rfl rfl rfl) (R_ld H64 rfl rfl (ld_row hL.at_)) rfl (.cons rfl (.cons rfl (.cons rfl (.cons rfl (.cons rfl (.cons rfl (.cons rfl (.cons rfl (.cons rfl (.cons rfl (.cons rfl .nil))))))))))) fun a65 H65 => ?_
              clear H64
              refine h_call H65 rfl (H65.wt rfl rfl rfl) (R_call2 H65 rfl rfl rfl (fun w => by simp [go_sem])) rfl ?_
              refine (Same_any (K1 hL.1) (K2 hL.1) (K3 hL.1) (K4 hL.1) l1 l2 l3 l4).mono ?_
              rintro e wx ⟨rfl, hb⟩
              replace hL := hL.call hb
              clear hb
              refine ⟨_, rfl, fun a66 HH => ?_⟩
              have H66 := HH [(77, _), (74, _), (71, _), (64, _), (11, _), (8, _), (7, _), (4, _), (3, _), (2, _)] (.cons rfl (.cons rfl (.cons rfl (.cons rfl (.cons rfl (.cons rfl (.cons rfl (.cons rfl (.cons rfl (.cons rfl .nil))))))))))
              clear HH H65
              refine h_op (m' := [(78, _), (71, _), (64, _), (11, _), (8, _), (7, _), (4, _), (3, _), (2, _)]) H66 rfl (H66.wt rfl rfl rfl) (R_bin H66 rfl rfl rfl (B_to (y := false) (B_neb _ _) (by rw [back_same fa ka ia fb kb ib ea eb]; simp))) rfl (.cons rfl (.cons rfl (.cons rfl (.cons rfl (.cons rfl (.cons rfl (.cons rfl (.cons rfl (.cons rfl .nil))))))))) fun a67 H67 => ?_
              clear H66
              refine h_op (m' := [(79, _), (64, _), (11, _), (8, _), (7, _), (4, _), (3, _), (2, _)]) H67 rfl (H67.wt rfl rfl rfl) (R_pick H67 rfl rfl rfl) rfl (.cons rfl (.cons rfl (.cons rfl (.cons rfl (.cons rfl (.cons rfl (.cons rfl (.cons rfl .nil)))))))) fun a68 H68 => ?_
              clear H67
              refine h_op (m' := [(80, _), (11, _), (8, _), (7, _), (4, _), (3, _), (2, _)]) H68 rfl (wn rfl) (R_pick H68 rfl rfl rfl) rfl (.cons rfl (.cons rfl (.cons rfl (.cons rfl (.cons rfl (.cons rfl (.cons rfl .nil))))))) fun a69 H69 => ?_
              clear H68
              refine h_end ?_
              exact hM _ _ (Met.intro (hJ _ _ ⟨H69.pick _ (.cons rfl (.cons rfl (.cons rfl (.cons rfl (.cons rfl (.cons rfl (.cons rfl .nil))))))), hL⟩))
            · refine wp_region_lit ?_
              refine h_op (m' := [(49, _), (12, _), (11, _), (10, _), (9, _), (8, _), (7, _), (4, _), (3, _), (2, _)]) H37 rfl (wn rfl) (R_mv H37 rfl rfl) rfl (.cons rfl (.cons rfl (.cons rfl (.cons rfl (.cons rfl (.cons rfl (.cons rfl (.cons rfl (.cons rfl (.cons rfl .nil)))))))))) fun a38 H38 => ?_
              clear H37
              refine h_op (m' := [(50, _), (49, _), (12, _), (11, _), (10, _), (9, _), (8, _), (7, _), (4, _), (3, _), (2, _)]) H38 rfl (wn rfl) (R_ld H38 rfl rfl (ld_row hL.tail.at_)) rfl (.cons rfl (.cons rfl (.cons rfl (.cons rfl (.cons rfl (.cons rfl (.cons rfl (.cons rfl (.cons rfl (.cons rfl (.cons rfl .nil))))))))))) fun a39 H39 => ?_
              clear H38
              refine h_call H39 rfl (wn rfl) (R_call1 H39 rfl rfl (fun w => by simp [go_sem])) rfl ?_
              refine (Right_any fa ka ia (K1 hL.1) (K2 hL.1) lo1 ls1).mono ?_
              rintro e wx ⟨rfl, hb⟩
              replace hL := hL.call hb
              clear hb
              refine ⟨_, rfl, fun a40 HH => ?_⟩
              have H40 := HH [(51, _), (49, _), (12, _), (11, _), (10, _), (9, _), (8, _), (7, _), (4, _), (3, _), (2, _)] (.cons rfl (.cons rfl (.cons rfl (.cons rfl (.cons rfl (.cons rfl (.cons rfl (.cons rfl (.cons rfl (.cons rfl (.cons rfl .nil)))))))))))
              clear HH H39
              refine h_op (m' := [(52, _), (12, _), (11, _), (10, _), (9, _), (8, _), (7, _), (4, _), (3, _), (2, _)]) H40 rfl (wn rfl) (R_bin H40 rfl rfl rfl (B_to (y := false) (B_ne Try.underlying33 _ _) (by simp))) rfl (.cons rfl (.cons rfl (.cons rfl (.cons rfl (.cons rfl (.cons rfl (.cons rfl (.cons rfl (.cons rfl (.cons rfl .nil)))))))))) fun a41 H41 => ?_
              clear H40
              refine h_op (m' := [(53, _), (12, _), (11, _), (10, _), (9, _), (8, _), (7, _), (4, _), (3, _), (2, _)]) H41 rfl (wn rfl) (R_mv H41 rfl rfl) rfl (.cons rfl (.cons rfl (.cons rfl (.cons rfl (.cons rfl (.cons rfl (.cons rfl (.cons rfl (.cons rfl (.cons rfl .nil)))))))))) fun a42 H42 => ?_
              clear H41
              refine h_op (m' := [(54, _), (53, _), (12, _), (11, _), (10, _), (9, _), (8, _), (7, _), (4, _), (3, _), (2, _)]) H42 rfl (H42.wt rfl rfl rfl) (R_mv H42 rfl rfl) rfl (.cons rfl (.cons rfl (.cons rfl (.cons rfl (.cons rfl (.cons rfl (.cons rfl (.cons rfl (.cons rfl (.cons rfl (.cons rfl .nil))))))))))) fun a43 H43 => ?_
              clear H42
              refine h_op (m' := [(55, _), (54, _), (53, _), (12, _), (11, _), (10, _), (9, _), (8, _), (7, _), (4, _), (3, _), (2, _)]) H43 rfl (H43.wt rfl rfl rfl) (R_ld H43 rfl rfl (ld_row hL.at_)) rfl (.cons rfl (.cons rfl (.cons rfl (.cons rfl (.cons rfl (.cons rfl (.cons rfl (.cons rfl (.cons rfl (.cons rfl (.cons rfl (.cons rfl .nil)))))))))))) fun a44 H44 => ?_
              clear H43
              refine h_call H44 rfl (H44.wt rfl rfl rfl) (R_call1 H44 rfl rfl (fun w => by simp [go_sem])) rfl ?_
              refine (Right_any fb kb ib (K3 hL.1) (K4 hL.1) lo2 ls2).mono ?_
              rintro e wx ⟨rfl, hb⟩
              replace hL := hL.call hb
              clear hb
              refine ⟨_, rfl, fun a45 HH => ?_⟩
              have H45 := HH [(56, _), (54, _), (53, _), (12, _), (11, _), (10, _), (9, _), (8, _), (7, _), (4, _), (3, _), (2, _)] (.cons rfl (.cons rfl (.cons rfl (.cons rfl (.cons rfl (.cons rfl (.cons rfl (.cons rfl (.cons rfl (.cons rfl (.cons rfl (.cons rfl .nil))))))))))))
              clear HH H44
              refine h_op (m' := [(57, _), (53, _), (12, _), (11, _), (10, _), (9, _), (8, _), (7, _), (4, _), (3, _), (2, _)]) H45 rfl (H45.wt rfl rfl rfl) (R_bin H45 rfl rfl rfl (B_to (y := false) (B_ne Try.underlying33 _ _) (by simp))) rfl (.cons rfl (.cons rfl (.cons rfl (.cons rfl (.cons rfl (.cons rfl (.cons rfl (.cons rfl (.cons rfl (.cons rfl (.cons rfl .nil))))))))))) fun a46 H46 => ?_
              clear H45
              refine h_op (m' := [(58, _), (12, _), (11, _), (10, _), (9, _), (8, _), (7, _), (4, _), (3, _), (2, _)]) H46 rfl (wn rfl) (R_pick H46 rfl rfl rfl) rfl (.cons rfl (.cons rfl (.cons rfl (.cons rfl (.cons rfl (.cons rfl (.cons rfl (.cons rfl (.cons rfl (.cons rfl .nil)))))))))) fun a47 H47 => ?_
              clear H46
              refine h_op (m' := [(59, _), (12, _), (11, _), (10, _), (9, _), (8, _), (7, _), (4, _), (3, _), (2, _)]) H47 rfl (wn rfl) (R_mv H47 rfl rfl) rfl (.cons rfl (.cons rfl (.cons rfl (.cons rfl (.cons rfl (.cons rfl (.cons rfl (.cons rfl (.cons rfl (.cons rfl .nil)))))))))) fun a48 H48 => ?_
              clear H47
              refine h_op (m' := [(60, _), (59, _), (11, _), (10, _), (9, _), (8, _), (7, _), (4, _), (3, _), (2, _)]) H48 rfl (H48.wt rfl rfl rfl) (R_mv H48 rfl rfl) rfl (.cons rfl (.cons rfl (.cons rfl (.cons rfl (.cons rfl (.cons rfl (.cons rfl (.cons rfl (.cons rfl (.cons rfl .nil)))))))))) fun a49 H49 => ?_
              clear H48
              refine h_op (m' := [(61, _), (60, _), (59, _), (11, _), (10, _), (9, _), (8, _), (7, _), (4, _), (3, _), (2, _)]) H49 rfl (H49.wt rfl rfl rfl) (R_mv H49 rfl rfl) rfl (.cons rfl (.cons rfl (.cons rfl (.cons rfl (.cons rfl (.cons rfl (.cons rfl (.cons rfl (.cons rfl (.cons rfl (.cons rfl .nil))))))))))) fun a50 H50 => ?_
              clear H49
              refine h_op (m' := [(62, _), (59, _), (11, _), (10, _), (9, _), (8, _), (7, _), (4, _), (3, _), (2, _)]) H50 rfl (H50.wt rfl rfl rfl) (R_bin H50 rfl rfl rfl (B_to (y := false) (B_ne Try.underlying33 _ _) (by simp))) rfl (.cons rfl (.cons rfl (.cons rfl (.cons rfl (.cons rfl (.cons rfl (.cons rfl (.cons rfl (.cons rfl (.cons rfl .nil)))))))))) fun a51 H51 => ?_
              clear H50
              refine h_op (m' := [(63, _), (11, _), (10, _), (9, _), (8, _), (7, _), (4, _), (3, _), (2, _)]) H51 rfl (wn rfl) (R_pick H51 rfl rfl rfl) rfl (.cons rfl (.cons rfl (.cons rfl (.cons rfl (.cons rfl (.cons rfl (.cons rfl (.cons rfl (.cons rfl .nil))))))))) fun a52 H52 => ?_
              clear H51
              refine h_op (m' := [(64, _), (11, _), (10, _), (9, _), (8, _), (7, _), (4, _), (3, _), (2, _)]) H52 rfl (wn rfl) (R_mv H52 rfl rfl) rfl (.cons rfl (.cons rfl (.cons rfl (.cons rfl (.cons rfl (.cons rfl (.cons rfl (.cons rfl (.cons rfl .nil))))))))) fun a53 H53 => ?_
              clear H52
              refine h_op (m' := [(65, _), (64, _), (11, _), (10, _), (9, _), (8, _), (7, _), (4, _), (3, _), (2, _)]) H53 rfl (H53.wt rfl rfl rfl) (R_mv H53 rfl rfl) rfl (.cons rfl (.cons rfl (.cons rfl (.cons rfl (.cons rfl (.cons rfl (.cons rfl (.cons rfl (.cons rfl (.cons rfl .nil)))))))))) fun a54 H54 => ?_
              clear H53
              refine h_op (m' := [(66, _), (64, _), (11, _), (10, _), (9, _), (8, _), (7, _), (4, _), (3, _), (2, _)]) H54 rfl (H54.wt rfl rfl rfl) (R_bin H54 rfl rfl rfl (B_to (B_eq Try.underlying33 _ _) (beq_iff_eq.2 ea))) rfl (.cons rfl (.cons rfl (.cons rfl (.cons rfl (.cons rfl (.cons rfl (.cons rfl (.cons rfl (.cons rfl (.cons rfl .nil)))))))))) fun a55 H55 => ?_
              clear H54
              refine h_op (m' := [(67, _), (64, _), (11, _), (10, _), (9, _), (8, _), (7, _), (4, _), (3, _), (2, _)]) H55 rfl (H55.wt rfl rfl rfl) (R_mv H55 rfl rfl) rfl (.cons rfl (.cons rfl (.cons rfl (.cons rfl (.cons rfl (.cons rfl (.cons rfl (.cons rfl (.cons rfl (.cons rfl .nil)))))))))) fun a56 H56 => ?_
              clear H55
              refine h_op (m' := [(68, _), (67, _), (64, _), (11, _), (9, _), (8, _), (7, _), (4, _), (3, _), (2, _)]) H56 rfl (H56.wt rfl rfl rfl) (R_mv H56 rfl rfl) rfl (.cons rfl (.cons rfl (.cons rfl (.cons rfl (.cons rfl (.cons rfl (.cons rfl (.cons rfl (.cons rfl (.cons rfl .nil)))))))))) fun a57 H57 => ?_
              clear H56
              refine h_op (m' := [(69, _), (67, _), (64, _), (11, _), (9, _), (8, _), (7, _), (4, _), (3, _), (2, _)]) H57 rfl (H57.wt rfl rfl rfl) (R_bin H57 rfl rfl rfl (B_to (B_eq Try.underlying33 _ _) (beq_eq_false_iff_ne.2 eb))) rfl (.cons rfl (.cons rfl (.cons rfl (.cons rfl (.cons rfl (.cons rfl (.cons rfl (.cons rfl (.cons rfl (.cons rfl .nil)))))))))) fun a58 H58 => ?_
              clear H57
              refine h_op (m' := [(70, _), (64, _), (11, _), (9, _), (8, _), (7, _), (4, _), (3, _), (2, _)]) H58 rfl (H58.wt rfl rfl rfl) (R_pick H58 rfl rfl rfl) rfl (.cons rfl (.cons rfl (.cons rfl (.cons rfl (.cons rfl (.cons rfl (.cons rfl (.cons rfl (.cons rfl .nil))))))))) fun a59 H59 => ?_
              clear H58
              refine h_op (m' := [(71, _), (64, _), (11, _), (9, _), (8, _), (7, _), (4, _), (3, _), (2, _)]) H59 rfl (H59.wt rfl rfl rfl) (R_mv H59 rfl rfl) rfl (.cons rfl (.cons rfl (.cons rfl (.cons rfl (.cons rfl (.cons rfl (.cons rfl (.cons rfl (.cons rfl .nil))))))))) fun a60 H60 => ?_
              clear H59
              refine h_skip (m' := [(71, _), (64, _), (11, _), (9, _), (8, _), (7, _), (4, _), (3, _), (2, _)]) H60 rfl (H60.wf rfl rfl rfl) rfl (.cons rfl (.cons rfl (.cons rfl (.cons rfl (.cons rfl (.cons rfl (.cons rfl (.cons rfl (.cons rfl .nil))))))))) fun a61 H61 => ?_
              clear H60
              refine h_skip (m' := [(71, _), (64, _), (11, _), (8, _), (7, _), (4, _), (3, _), (2, _)]) H61 rfl (H61.wf rfl rfl rfl) rfl (.cons rfl (.cons rfl (.cons rfl (.cons rfl (.cons rfl (.cons rfl (.cons rfl (.cons rfl .nil)))))))) fun a62 H62 => ?_
              clear H61
              refine h_skip (m' := [(71, _), (64, _), (11, _), (8, _), (7, _), (4, _), (3, _), (2, _)]) H62 rfl (H62.wf rfl rfl rfl) rfl (.cons rfl (.cons rfl (.cons rfl (.cons rfl (.cons rfl (.cons rfl (.cons rfl (.cons rfl .nil)))))))) fun a63 H63 => ?_
              clear H62
              refine h_skip (m' := [(71, _), (64, _), (11, _), (8, _), (7, _), (4, _), (3, _), (2, _)]) H63 rfl (H63.wf rfl rfl rfl) rfl (.cons rfl (.cons rfl (.cons rfl (.cons rfl (.cons rfl (.cons rfl (.cons rfl (.cons rfl .nil)))))))) fun a64 H64 => ?_
              clear H63
              refine h_skip (m' := [(71, _), (64, _), (11, _), (8, _), (7, _), (4, _), (3, _), (2, _)]) H64 rfl (H64.wf rfl rfl rfl) rfl (.cons rfl (.cons rfl (.cons rfl (.cons rfl (.cons rfl (.cons rfl (.cons rfl (.cons rfl .nil)))))))) fun a65 H65 => ?_
              clear H64
              refine h_skip (m' := [(71, _), (64, _), (11, _), (8, _), (7, _), (4, _), (3, _), (2, _)]) H65 rfl (H65.wf rfl rfl rfl) rfl (.cons rfl (.cons rfl (.cons rfl (.cons rfl (.cons rfl (.cons rfl (.cons rfl (.cons rfl .nil)))))))) fun a66 H66 => ?_
              clear H65
              refine h_skip (m' := [(71, _), (64, _), (11, _), (8, _), (7, _), (4, _), (3, _), (2, _)]) H66 rfl (H66.wf rfl rfl rfl) rfl (.cons rfl (.cons rfl (.cons rfl (.cons rfl (.cons rfl (.cons rfl (.cons rfl (.cons rfl .nil)))))))) fun a67 H67 => ?_
              clear H66
              refine h_op (m' := [(79, _), (64, _), (11, _), (8, _), (7, _), (4, _), (3, _), (2, _)]) H67 rfl (H67.wt rfl rfl rfl) (R_pick H67 rfl rfl rfl) rfl (.cons rfl (.cons rfl (.cons rfl (.cons rfl (.cons rfl (.cons rfl (.cons rfl (.cons rfl .nil)))))))) fun a68 H68 => ?_
              clear H67
              refine h_op (m' := [(80, _), (11, _), (8, _), (7, _), (4, _), (3, _), (2, _)]) H68 rfl (wn rfl) (R_pick H68 rfl rfl rfl) rfl (.cons rfl (.cons rfl (.cons rfl (.cons rfl (.cons rfl (.cons rfl (.cons rfl .nil))))))) fun a69 H69 => ?_
              clear H68
              refine h_end ?_
              exact hM _ _ (Met.intro (hJ _ _ ⟨H69.pick _ (.cons rfl (.cons rfl (.cons rfl (.cons rfl (.cons rfl (.cons rfl (.cons rfl .nil))))))), hL⟩))
          · refine wp_region_lit ?_
            refine h_op (m' := [(49, _), (12, _), (11, _), (10, _), (9, _), (8, _), (7, _), (4, _), (3, _), (2, _)]) H37 rfl (wn rfl) (R_mv H37 rfl rfl) rfl (.cons rfl (.cons rfl (.cons rfl (.cons rfl (.cons rfl (.cons rfl (.cons rfl (.cons rfl (.cons rfl (.cons rfl .nil)))))))))) fun a38 H38 => ?_
            clear H37
            refine h_op (m' := [(50, _), (49, _), (12, _), (11, _), (10, _), (9, _), (8, _), (7, _), (4, _), (3, _), (2, _)]) H38 rfl (wn rfl) (R_ld H38 rfl rfl (ld_row hL.tail.at_)) rfl (.cons rfl (.cons rfl (.cons rfl (.cons rfl (.cons rfl (.cons rfl (.cons rfl (.cons rfl (.cons rfl (.cons rfl (.cons rfl .nil))))))))))) fun a39 H39 => ?_
            clear H38
            refine h_call H39 rfl (wn rfl) (R_call1 H39 rfl rfl (fun w => by simp [go_sem])) rfl ?_
            refine (Right_any fa ka ia (K1 hL.1) (K2 hL.1) lo1 ls1).mono ?_
            rintro e wx ⟨rfl, hb⟩
            replace hL := hL.call hb
            clear hb
            refine ⟨_, rfl, fun a40 HH => ?_⟩
            have H40 := HH [(51, _), (49, _), (12, _), (11, _), (10, _), (9, _), (8, _), (7, _), (4, _), (3, _), (2, _)] (.cons rfl (.cons rfl (.cons rfl (.cons rfl (.cons rfl (.cons rfl (.cons rfl (.cons rfl (.cons rfl (.cons rfl (.cons rfl .nil)))))))))))
            clear HH H39
            refine h_op (m' := [(52, _), (12, _), (11, _), (10, _), (9, _), (8, _), (7, _), (4, _), (3, _), (2, _)]) H40 rfl (wn rfl) (R_bin H40 rfl rfl rfl (B_to (y := false) (B_ne Try.underlying33 _ _) (by simp))) rfl (.cons rfl (.cons rfl (.cons rfl (.cons rfl (.cons rfl (.cons rfl (.cons rfl (.cons rfl (.cons rfl (.cons rfl .nil)))))))))) fun a41 H41 => ?_
            clear H40
            refine h_op (m' := [(53, _), (12, _), (11, _), (10, _), (9, _), (8, _), (7, _), (4, _), (3, _), (2, _)]) H41 rfl (wn rfl) (R_mv H41 rfl rfl) rfl (.cons rfl (.cons rfl (.cons rfl (.cons rfl (.cons rfl (.cons rfl (.cons rfl (.cons rfl (.cons rfl (.cons rfl .nil)))))))))) fun a42 H42 => ?_
            clear H41
            refine h_op (m' := [(54, _), (53, _), (12, _), (11, _), (10, _), (9, _), (8, _), (7, _), (4, _), (3, _), (2, _)]) H42 rfl (H42.wt rfl rfl rfl) (R_mv H42 rfl rfl) rfl (.cons rfl (.cons rfl (.cons rfl (.cons rfl (.cons rfl (.cons rfl (.cons rfl (.cons rfl (.cons rfl (.cons rfl (.cons rfl .nil))))))))))) fun a43 H43 => ?_
            clear H42
            refine h_op (m' := [(55, _), (54, _), (53, _), (12, _), (11, _), (10, _), (9, _), (8, _), (7, _), (4, _), (3, _), (2, _)]) H43 rfl (H43.wt rfl rfl rfl) (R_ld H43 rfl rfl (ld_row hL.at_)) rfl (.cons rfl (.cons rfl (.cons rfl (.cons rfl (.cons rfl (.cons rfl (.cons rfl (.cons rfl (.cons rfl (.cons rfl (.cons rfl (.cons rfl .nil)))))))))))) fun a44 H44 => ?_
            clear H43
            refine h_call H44 rfl (H44.wt rfl rfl rfl) (R_call1 H44 rfl rfl (fun w => by simp [go_sem])) rfl ?_
            refine (Right_any fb kb ib (K3 hL.1) (K4 hL.1) lo2 ls2).mono ?_
            rintro e wx ⟨rfl, hb⟩
            replace hL := hL.call hb
            clear hb
            refine ⟨_, rfl, fun a45 HH => ?_⟩
            have H45 := HH [(56, _), (54, _), (53, _), (12, _), (11, _), (10, _), (9, _), (8, _), (7, _), (4, _), (3, _), (2, _)] (.cons rfl (.cons rfl (.cons rfl (.cons rfl (.cons rfl (.cons rfl (.cons rfl (.cons rfl (.cons rfl (.cons rfl (.cons rfl (.cons rfl .nil))))))))))))
            clear HH H44
            refine h_op (m' := [(57, _), (53, _), (12, _), (11, _), (10, _), (9, _), (8, _), (7, _), (4, _), (3, _), (2, _)]) H45 rfl (H45.wt rfl rfl rfl) (R_bin H45 rfl rfl rfl (B_to (y := false) (B_ne Try.underlying33 _ _) (by simp))) rfl (.cons rfl (.cons rfl (.cons rfl (.cons rfl (.cons rfl (.cons rfl (.cons rfl (.cons rfl (.cons rfl (.cons rfl (.cons rfl .nil))))))))))) fun a46 H46 => ?_
            clear H45
            refine h_op (m' := [(58, _), (12, _), (11, _), (10, _), (9, _), (8, _), (7, _), (4, _), (3, _), (2, _)]) H46 rfl (wn rfl) (R_pick H46 rfl rfl rfl) rfl (.cons rfl (.cons rfl (.cons rfl (.cons rfl (.cons rfl (.cons rfl (.cons rfl (.cons rfl (.cons rfl (.cons rfl .nil)))))))))) fun a47 H47 => ?_
            clear H46
            refine h_op (m' := [(59, _), (12, _), (11, _), (10, _), (9, _), (8, _), (7, _), (4, _), (3, _), (2, _)]) H47 rfl (wn rfl) (R_mv H47 rfl rfl) rfl (.cons rfl (.cons rfl (.cons rfl (.cons rfl (.cons rfl (.cons rfl (.cons rfl (.cons rfl (.cons rfl (.cons rfl .nil)))))))))) fun a48 H48 => ?_
            clear H47
            refine h_op (m' := [(60, _), (59, _), (11, _), (10, _), (9, _), (8, _), (7, _), (4, _), (3, _), (2, _)]) H48 rfl (H48.wt rfl rfl rfl) (R_mv H48 rfl rfl) rfl (.cons rfl (.cons rfl (.cons rfl (.cons rfl (.cons rfl (.cons rfl (.cons rfl (.cons rfl (.cons rfl (.cons rfl .nil)))))))))) fun a49 H49 => ?_
            clear H48
            refine h_op (m' := [(61, _), (60, _), (59, _), (11, _), (10, _), (9, _), (8, _), (7, _), (4, _), (3, _), (2, _)]) H49 rfl (H49.wt rfl rfl rfl) (R_mv H49 rfl rfl) rfl (.cons rfl (.cons rfl (.cons rfl (.cons rfl (.cons rfl (.cons rfl (.cons rfl (.cons rfl (.cons rfl (.cons rfl (.cons rfl .nil))))))))))) fun a50 H50 => ?_
            clear H49
            refine h_op (m' := [(62, _), (59, _), (11, _), (10, _), (9, _), (8, _), (7, _), (4, _), (3, _), (2, _)]) H50 rfl (H50.wt rfl rfl rfl) (R_bin H50 rfl rfl rfl (B_to (y := false) (B_ne Try.underlying33 _ _) (by simp))) rfl (.cons rfl (.cons rfl (.cons rfl (.cons rfl (.cons rfl (.cons rfl (.cons rfl (.cons rfl (.cons rfl (.cons rfl .nil)))))))))) fun a51 H51 => ?_
            clear H50
            refine h_op (m' := [(63, _), (11, _), (10, _), (9, _), (8, _), (7, _), (4, _), (3, _), (2, _)]) H51 rfl (wn rfl) (R_pick H51 rfl rfl rfl) rfl (.cons rfl (.cons rfl (.cons rfl (.cons rfl (.cons rfl (.cons rfl (.cons rfl (.cons rfl (.cons rfl .nil))))))))) fun a52 H52 => ?_
            clear H51
            refine h_op (m' := [(64, _), (11, _), (10, _), (9, _), (8, _), (7, _), (4, _), (3, _), (2, _)]) H52 rfl (wn rfl) (R_mv H52 rfl rfl) rfl (.cons rfl (.cons rfl (.cons rfl (.cons rfl (.cons rfl (.cons rfl (.cons rfl (.cons rfl (.cons rfl .nil))))))))) fun a53 H53 => ?_
            clear H52
            refine h_op (m' := [(65, _), (64, _), (11, _), (10, _), (9, _), (8, _), (7, _), (4, _), (3, _), (2, _)]) H53 rfl (H53.wt rfl rfl rfl) (R_mv H53 rfl rfl) rfl (.cons rfl (.cons rfl (.cons rfl (.cons rfl (.cons rfl (.cons rfl (.cons rfl (.cons rfl (.cons rfl (.cons rfl .nil)))))))))) fun a54 H54 => ?_
            clear H53
            refine h_op (m' := [(66, _), (64, _), (11, _), (10, _), (9, _), (8, _), (7, _), (4, _), (3, _), (2, _)]) H54 rfl (H54.wt rfl rfl rfl) (R_bin H54 rfl rfl rfl (B_to (B_eq Try.underlying33 _ _) (beq_eq_false_iff_ne.2 ea))) rfl (.cons rfl (.cons rfl (.cons rfl (.cons rfl (.cons rfl (.cons rfl (.cons rfl (.cons rfl (.cons rfl (.cons rfl .nil)))))))))) fun a55 H55 => ?_
            clear H54
            refine h_op (m' := [(67, _), (64, _), (11, _), (10, _), (9, _), (8, _), (7, _), (4, _), (3, _), (2, _)]) H55 rfl (H55.wt rfl rfl rfl) (R_mv H55 rfl rfl) rfl (.cons rfl (.cons rfl (.cons rfl (.cons rfl (.cons rfl (.cons rfl (.cons rfl (.cons rfl (.cons rfl (.cons rfl .nil)))))))))) fun a56 H56 => ?_
            clear H55
            refine h_skip (m' := [(67, _), (64, _), (11, _), (9, _), (8, _), (7, _), (4, _), (3, _), (2, _)]) H56 rfl (H56.wf rfl rfl rfl) rfl (.cons rfl (.cons rfl (.cons rfl (.cons rfl (.cons rfl (.cons rfl (.cons rfl (.cons rfl (.cons rfl .nil))))))))) fun a57 H57 => ?_
            clear H56
            refine h_skip (m' := [(67, _), (64, _), (11, _), (9, _), (8, _), (7, _), (4, _), (3, _), (2, _)]) H57 rfl (H57.wf rfl rfl rfl) rfl (.cons rfl (.cons rfl (.cons rfl (.cons rfl (.cons rfl (.cons rfl (.cons rfl (.cons rfl (.cons rfl .nil))))))))) fun a58 H58 => ?_
            clear H57
            refine h_op (m' := [(70, _), (64, _), (11, _), (9, _), (8, _), (7, _), (4, _), (3, _), (2, _)]) H58 rfl (H58.wt rfl rfl rfl) (R_pick H58 rfl rfl rfl) rfl (.cons rfl (.cons rfl (.cons rfl (.cons rfl (.cons rfl (.cons rfl (.cons rfl (.cons rfl (.cons rfl .nil))))))))) fun a59 H59 => ?_
            clear H58
            refine h_op (m' := [(71, _), (64, _), (11, _), (9, _), (8, _), (7, _), (4, _), (3, _), (2, _)]) H59 rfl (H59.wt rfl rfl rfl) (R_mv H59 rfl rfl) rfl (.cons rfl (.cons rfl (.cons rfl (.cons rfl (.cons rfl (.cons rfl (.cons rfl (.cons rfl (.cons rfl .nil))))))))) fun a60 H60 => ?_
            clear H59
            refine h_skip (m' := [(71, _), (64, _), (11, _), (9, _), (8, _), (7, _), (4, _), (3, _), (2, _)]) H60 rfl (H60.wf rfl rfl rfl) rfl (.cons rfl (.cons rfl (.cons rfl (.cons rfl (.cons rfl (.cons rfl (.cons rfl (.cons rfl (.cons rfl .nil))))))))) fun a61 H61 => ?_
            clear H60
            refine h_skip (m' := [(71, _), (64, _), (11, _), (8, _), (7, _), (4, _), (3, _), (2, _)]) H61 rfl (H61.wf rfl rfl rfl) rfl (.cons rfl (.cons rfl (.cons rfl (.cons rfl (.cons rfl (.cons rfl (.cons rfl (.cons rfl .nil)))))))) fun a62 H62 => ?_
            clear H61
            refine h_skip (m' := [(71, _), (64, _), (11, _), (8, _), (7, _), (4, _), (3, _), (2, _)]) H62 rfl (H62.wf rfl rfl rfl) rfl (.cons rfl (.cons rfl (.cons rfl (.cons rfl (.cons rfl (.cons rfl (.cons rfl (.cons rfl .nil)))))))) fun a63 H63 => ?_
            clear H62
            refine h_skip (m' := [(71, _), (64, _), (11, _), (8, _), (7, _), (4, _), (3, _), (2, _)]) H63 rfl (H63.wf rfl rfl rfl) rfl (.cons rfl (.cons rfl (.cons rfl (.cons rfl (.cons rfl (.cons rfl (.cons rfl (.cons rfl .nil)))))))) fun a64 H64 => ?_
            clear H63
            refine h_skip (m' := [(71, _), (64, _), (11, _), (8, _), (7, _), (4, _), (3, _), (2, _)]) H64 rfl (H64.wf rfl rfl rfl) rfl (.cons rfl (.cons rfl (.cons rfl (.cons rfl (.cons rfl (.cons rfl (.cons rfl (.cons rfl .nil)))))))) fun a65 H65 => ?_
            clear H64
            refine h_skip (m' := [(71, _), (64, _), (11, _), (8, _), (7, _), (4, _), (3, _), (2, _)]) H65 rfl (H65.wf rfl rfl rfl) rfl (.cons rfl (.cons rfl (.cons rfl (.cons rfl (.cons rfl (.cons rfl (.cons rfl (.cons rfl .nil)))))))) fun a66 H66 => ?_
            clear H65
            refine h_skip (m' := [(71, _), (64, _), (11, _), (8, _), (7, _), (4, _), (3, _), (2, _)]) H66 rfl (H66.wf rfl rfl rfl) rfl (.cons rfl (.cons rfl (.cons rfl (.cons rfl (.cons rfl (.cons rfl (.cons rfl (.cons rfl .nil)))))))) fun a67 H67 => ?_
            clear H66
            refine h_op (m' := [(79, _), (64, _), (11, _), (8, _), (7, _), (4, _), (3, _), (2, _)]) H67 rfl (H67.wt rfl rfl rfl) (R_pick H67 rfl rfl rfl) rfl (.cons rfl (.cons rfl (.cons rfl (.cons rfl (.cons rfl (.cons rfl (.cons rfl (.cons rfl .nil)))))))) fun a68 H68 => ?_
            clear H67
            refine h_op (m' := [(80, _), (11, _), (8, _), (7, _), (4, _), (3, _), (2, _)]) H68 rfl (wn rfl) (R_pick H68 rfl rfl rfl) rfl (.cons rfl (.cons rfl (.cons rfl (.cons rfl (.cons rfl (.cons rfl (.cons rfl .nil))))))) fun a69 H69 => ?_
            clear H68
            refine h_end ?_
            exact hM _ _ (Met.intro (hJ _ _ ⟨H69.pick _ (.cons rfl (.cons rfl (.cons rfl (.cons rfl (.cons rfl (.cons rfl (.cons rfl .nil))))))), hL⟩))
        intro ac wc hcut
        obtain ⟨H0, hL⟩ := hcut
        go_upto_region 10 with fail
        refine wp_cond (t := false) (H0.ev (x := .tmp 80) rfl) ?_
        go_upto_region 10 with fail
        refine wp_region_lit ?_
        refine h_op (m' := [(81, _), (11, _), (7, _), (3, _), (2, _)]) H0 rfl (wn rfl) (R_mv H0 rfl rfl) rfl (.cons rfl (.cons rfl (.cons rfl (.cons rfl (.cons rfl .nil))))) fun a1 H1 => ?_
        clear H0
        refine h_op (m' := [(82, _), (11, _), (7, _), (3, _), (2, _)]) H1 rfl (wn rfl) (R_bin H1 rfl rfl rfl (B_eq Try.underlying33 _ _)) rfl (.cons rfl (.cons rfl (.cons rfl (.cons rfl (.cons rfl .nil))))) fun a2 H2 => ?_
        clear H1
        refine h_end ?_
        go_upto_region 15 with fail
        refine wp_cut (fun a' w' => Fr a' 138 [(2, .string s)] ∧ Live W [] w') ?_ ?_
        rotate_left
        · intro J K' hJ hM
          by_cases ea : errM a = 0
          · have hra := (bytesM_ok fa ka ia (err_iff.1 ea)).2
            have hof : ofM (dataOr a) = .ok a := by
              have hd := data_ok fa ka ia (err_iff.1 ea)
              have ho := of_data fa ka ia (err_iff.1 ea)
              unfold dataOr
              rw [hd]
              exact ho
            have hz1 := bytesOr_size fa ka ia
            have hz2 := dataOr_size fa ka ia
            refine wp_cond (t := true) ((H2.ev (x := .tmp 82) rfl).trans (by rw [beq_iff_eq.2 ea])) ?_
            simp only [if_true]
            go_upto_region 11 with fail
            refine wp_region_lit ?_
            refine h_op (m' := [(84, _), (11, _), (3, _), (2, _)]) H2 rfl (wn rfl) (R_mv H2 rfl rfl) rfl (.cons rfl (.cons rfl (.cons rfl (.cons rfl .nil)))) fun a3 H3 => ?_
            clear H2
            refine h_call H3 rfl (wn rfl) (R_call1 H3 rfl rfl (fun w => by simp [go_sem])) rfl ?_
            refine (Read_any (by omega) hL).mono ?_
            intro e wx hs
            unfold Said at hs
            rw [hra] at hs
            obtain ⟨vo1, vs1, Ro1, Rs1, rfl, ho1, hs1, hL1⟩ := hs
            replace hL := hL1
            clear hL1
            refine ⟨_, rfl, fun a4 HH => ?_⟩
            have H4 := HH [(85, _), (11, _), (3, _), (2, _)] (.cons rfl (.cons rfl (.cons rfl (.cons rfl .nil))))
            clear HH H3
            refine h_op (m' := [(83, _), (11, _), (3, _), (2, _)]) H4 rfl (wn rfl) (R_mv H4 rfl rfl) rfl (.cons rfl (.cons rfl (.cons rfl (.cons rfl .nil)))) fun a5 H5 => ?_
            clear H4
            refine h_op (m' := [(86, _), (83, _), (11, _), (3, _), (2, _)]) H5 rfl (wn rfl) (R_ext H5 rfl rfl rfl) rfl (.cons rfl (.cons rfl (.cons rfl (.cons rfl (.cons rfl .nil))))) fun a6 H6 => ?_
            clear H5
            refine h_op (m' := [(87, _), (86, _), (11, _), (3, _), (2, _)]) H6 rfl (wn rfl) (R_ext H6 rfl rfl rfl) rfl (.cons rfl (.cons rfl (.cons rfl (.cons rfl (.cons rfl .nil))))) fun a7 H7 => ?_
            clear H6
            refine h_op (m' := [(13, _), (87, _), (86, _), (11, _), (3, _), (2, _)]) H7 rfl (wn rfl) (R_alloc rfl al_row) rfl (.cons rfl (.cons rfl (.cons rfl (.cons rfl (.cons rfl (.cons rfl .nil)))))) fun a8 H8 => ?_
            clear H7
            replace hL := hL.alloc zcells 29
            have hst1 := hL.at_
            have hone1 : (mcells a vo1 vs1).all (·.oneCell') = true := mcells_one (slot_one ho1) (slot_one hs1)
            refine h_st H8 rfl (wn rfl) (R_st H8 rfl rfl rfl (st_row hst1 hone1)) fun a9 H9 => ?_
            clear H8
            replace hL := hL.row (mcells a vo1 vs1)
            clear hst1 hone1
            refine h_op (m' := [(14, _), (13, _), (11, _), (3, _), (2, _)]) H9 rfl (wn rfl) (R_as H9 rfl rfl) rfl (.cons rfl (.cons rfl (.cons rfl (.cons rfl (.cons rfl .nil))))) fun a10 H10 => ?_
            clear H9
            refine h_end ?_
            go_upto_region 12 with fail
            refine wp_region_lit ?_
            refine h_op (m' := [(89, _), (14, _), (13, _), (3, _), (2, _)]) H10 rfl (wn rfl) (R_mv H10 rfl rfl) rfl (.cons rfl (.cons rfl (.cons rfl (.cons rfl (.cons rfl .nil))))) fun a11 H11 => ?_
            clear H10
            refine h_call H11 rfl (wn rfl) (R_call1 H11 rfl rfl (fun w => by simp [go_sem])) rfl ?_
            refine (Of_any (by omega) hL).mono ?_
            intro e wx hs
            unfold Said at hs
            rw [hof] at hs
            obtain ⟨vo2, vs2, Ro2, Rs2, rfl, ho2, hs2, hL2⟩ := hs
            replace hL := hL2
            clear hL2
            refine ⟨_, rfl, fun a12 HH => ?_⟩
            have H12 := HH [(90, _), (14, _), (13, _), (3, _), (2, _)] (.cons rfl (.cons rfl (.cons rfl (.cons rfl (.cons rfl .nil)))))
            clear HH H11
            refine h_op (m' := [(88, _), (14, _), (13, _), (3, _), (2, _)]) H12 rfl (wn rfl) (R_mv H12 rfl rfl) rfl (.cons rfl (.cons rfl (.cons rfl (.cons rfl (.cons rfl .nil))))) fun a13 H13 => ?_
            clear H12
            refine h_op (m' := [(91, _), (88, _), (14, _), (13, _), (3, _), (2, _)]) H13 rfl (wn rfl) (R_ext H13 rfl rfl rfl) rfl (.cons rfl (.cons rfl (.cons rfl (.cons rfl (.cons rfl (.cons rfl .nil)))))) fun a14 H14 => ?_
            clear H13
            refine h_op (m' := [(92, _), (91, _), (14, _), (13, _), (3, _), (2, _)]) H14 rfl (wn rfl) (R_ext H14 rfl rfl rfl) rfl (.cons rfl (.cons rfl (.cons rfl (.cons rfl (.cons rfl (.cons rfl .nil)))))) fun a15 H15 => ?_
            clear H14
            refine h_op (m' := [(15, _), (92, _), (91, _), (14, _), (13, _), (3, _), (2, _)]) H15 rfl (wn rfl) (R_alloc rfl al_row) rfl (.cons rfl (.cons rfl (.cons rfl (.cons rfl (.cons rfl (.cons rfl (.cons rfl .nil))))))) fun a16 H16 => ?_
            clear H15
            replace hL := hL.alloc zcells 29
            have hst2 := hL.at_
            have hone2 : (mcells a vo2 vs2).all (·.oneCell') = true := mcells_one (slot_one ho2) (slot_one hs2)
            refine h_st H16 rfl (wn rfl) (R_st H16 rfl rfl rfl (st_row hst2 hone2)) fun a17 H17 => ?_
            clear H16
            replace hL := hL.row (mcells a vo2 vs2)
            clear hst2 hone2
            refine h_op (m' := [(16, _), (15, _), (14, _), (13, _), (3, _), (2, _)]) H17 rfl (wn rfl) (R_as H17 rfl rfl) rfl (.cons rfl (.cons rfl (.cons rfl (.cons rfl (.cons rfl (.cons rfl .nil)))))) fun a18 H18 => ?_
            clear H17
            refine h_end ?_
            go_upto_region 13 with fail
            refine wp_region_lit ?_
            refine h_op (m' := [(93, _), (16, _), (15, _), (13, _), (3, _), (2, _)]) H18 rfl (wn rfl) (R_mv H18 rfl rfl) rfl (.cons rfl (.cons rfl (.cons rfl (.cons rfl (.cons rfl (.cons rfl .nil)))))) fun a19 H19 => ?_
            clear H18
            refine h_op (m' := [(94, _), (16, _), (15, _), (13, _), (3, _), (2, _)]) H19 rfl (wn rfl) (R_bin H19 rfl rfl rfl (B_ne Try.underlying33 _ _)) rfl (.cons rfl (.cons rfl (.cons rfl (.cons rfl (.cons rfl (.cons rfl .nil)))))) fun a20 H20 => ?_
            clear H19
            refine h_op (m' := [(95, _), (16, _), (15, _), (13, _), (3, _), (2, _)]) H20 rfl (wn rfl) (R_mv H20 rfl rfl) rfl (.cons rfl (.cons rfl (.cons rfl (.cons rfl (.cons rfl (.cons rfl .nil)))))) fun a21 H21 => ?_
            clear H20
            refine h_op (m' := [(96, _), (95, _), (15, _), (13, _), (3, _), (2, _)]) H21 rfl (H21.wt rfl rfl rfl) (R_mv H21 rfl rfl) rfl (.cons rfl (.cons rfl (.cons rfl (.cons rfl (.cons rfl (.cons rfl .nil)))))) fun a22 H22 => ?_
            clear H21
            refine h_op (m' := [(97, _), (95, _), (15, _), (13, _), (3, _), (2, _)]) H22 rfl (H22.wt rfl rfl rfl) (R_bin H22 rfl rfl rfl (B_ne Try.underlying33 _ _)) rfl (.cons rfl (.cons rfl (.cons rfl (.cons rfl (.cons rfl (.cons rfl .nil)))))) fun a23 H23 => ?_
            clear H22
            refine h_op (m' := [(98, _), (15, _), (13, _), (3, _), (2, _)]) H23 rfl (wn rfl) (R_pick H23 rfl rfl rfl) rfl (.cons rfl (.cons rfl (.cons rfl (.cons rfl (.cons rfl .nil))))) fun a24 H24 => ?_
            clear H23
            refine h_op (m' := [(99, _), (15, _), (13, _), (3, _), (2, _)]) H24 rfl (wn rfl) (R_mv H24 rfl rfl) rfl (.cons rfl (.cons rfl (.cons rfl (.cons rfl (.cons rfl .nil))))) fun a25 H25 => ?_
            clear H24
            refine h_op (m' := [(100, _), (99, _), (15, _), (3, _), (2, _)]) H25 rfl (H25.wt rfl rfl rfl) (R_ld H25 rfl rfl (ld_row (m := a) (vo := vo1) (vs := vs1) (hL.mem_at (by simp)))) rfl (.cons rfl (.cons rfl (.cons rfl (.cons rfl (.cons rfl .nil))))) fun a26 H26 => ?_
            clear H25
            refine h_op (m' := [(101, _), (100, _), (99, _), (15, _), (3, _), (2, _)]) H26 rfl (H26.wt rfl rfl rfl) (R_ld H26 rfl rfl (ld_row (m := a) (vo := ao) (vs := aS) (hL.mem_at (by simp)))) rfl (.cons rfl (.cons rfl (.cons rfl (.cons rfl (.cons rfl (.cons rfl .nil)))))) fun a27 H27 => ?_
            clear H26
            refine h_call H27 rfl (H27.wt rfl rfl rfl) (R_call2 H27 rfl rfl rfl (fun w => by simp [go_sem])) rfl ?_
            refine (Same_any (ho1.rdm hL (fun p hp => by simp [hp])) (hs1.rdm hL (fun p hp => by simp [hp])) (K1 hL.1) (K2 hL.1) l1 l2 l1 l2).mono ?_
            rintro e wx ⟨rfl, hb⟩
            replace hL := hL.call hb
            clear hb
            rw [sameB_self]
            refine ⟨_, rfl, fun a28 HH => ?_⟩
            have H28 := HH [(102, _), (99, _), (15, _), (3, _), (2, _)] (.cons rfl (.cons rfl (.cons rfl (.cons rfl (.cons rfl .nil)))))
            clear HH H27
            refine h_op (m' := [(103, _), (99, _), (15, _), (3, _), (2, _)]) H28 rfl (H28.wt rfl rfl rfl) (R_not H28 rfl rfl) rfl (.cons rfl (.cons rfl (.cons rfl (.cons rfl (.cons rfl .nil))))) fun a29 H29 => ?_
            clear H28
            refine h_op (m' := [(104, _), (15, _), (3, _), (2, _)]) H29 rfl (wn rfl) (R_pick H29 rfl rfl rfl) rfl (.cons rfl (.cons rfl (.cons rfl (.cons rfl .nil)))) fun a30 H30 => ?_
            clear H29
            refine h_op (m' := [(105, _), (15, _), (3, _), (2, _)]) H30 rfl (wn rfl) (R_mv H30 rfl rfl) rfl (.cons rfl (.cons rfl (.cons rfl (.cons rfl .nil)))) fun a31 H31 => ?_
            clear H30
            refine h_op (m' := [(106, _), (105, _), (3, _), (2, _)]) H31 rfl (H31.wt rfl rfl rfl) (R_ld H31 rfl rfl (ld_row (m := a) (vo := vo2) (vs := vs2) (hL.mem_at (by simp)))) rfl (.cons rfl (.cons rfl (.cons rfl (.cons rfl .nil)))) fun a32 H32 => ?_
            clear H31
            refine h_op (m' := [(107, _), (106, _), (105, _), (2, _)]) H32 rfl (H32.wt rfl rfl rfl) (R_ld H32 rfl rfl (ld_row (m := a) (vo := ao) (vs := aS) (hL.mem_at (by simp)))) rfl (.cons rfl (.cons rfl (.cons rfl (.cons rfl .nil)))) fun a33 H33 => ?_
            clear H32
            refine h_call H33 rfl (H33.wt rfl rfl rfl) (R_call2 H33 rfl rfl rfl (fun w => by simp [go_sem])) rfl ?_
            refine (Same_any (ho2.rdm hL (fun p hp => by simp [hp])) (hs2.rdm hL (fun p hp => by simp [hp])) (K1 hL.1) (K2 hL.1) l1 l2 l1 l2).mono ?_
            rintro e wx ⟨rfl, hb⟩
            replace hL := hL.call hb
            clear hb
            rw [sameB_self]
            refine ⟨_, rfl, fun a34 HH => ?_⟩
            have H34 := HH [(108, _), (105, _), (2, _)] (.cons rfl (.cons rfl (.cons rfl .nil)))
            clear HH H33
            refine h_op (m' := [(109, _), (105, _), (2, _)]) H34 rfl (H34.wt rfl rfl rfl) (R_not H34 rfl rfl) rfl (.cons rfl (.cons rfl (.cons rfl .nil))) fun a35 H35 => ?_
            clear H34
            refine h_op (m' := [(110, _), (2, _)]) H35 rfl (wn rfl) (R_pick H35 rfl rfl rfl) rfl (.cons rfl (.cons rfl .nil)) fun a36 H36 => ?_
            clear H35
            refine h_end ?_
            go_upto_region 14 with fail
            refine wp_cond (t := false) (H36.ev (x := .tmp 110) rfl) ?_
            simp only [Bool.false_eq_true, if_false]
            refine wp_skip ?_
            exact hM _ _ (Met.intro (hJ _ _ ⟨H36.pick _ (.cons rfl .nil), hL.none⟩))
          · refine wp_cond (t := false) ((H2.ev (x := .tmp 82) rfl).trans (by rw [beq_eq_false_iff_ne.2 ea])) ?_
            simp only [Bool.false_eq_true, if_false]
            refine wp_skip ?_
            exact hM _ _ (Met.intro (hJ _ _ ⟨H2.pick _ (.cons rfl .nil), hL.none⟩))
        intro ac wd hcut
        obtain ⟨H0, hL⟩ := hcut
        go_upto_region 15 with fail
        refine wp_region_lit ?_
        refine h_op (m' := [(112, _), (2, _)]) H0 rfl (wn rfl) (R_mv H0 rfl rfl) rfl (.cons rfl (.cons rfl .nil)) fun a1 H1 => ?_
        clear H0
        refine h_call H1 rfl (wn rfl) (R_call1 H1 rfl rfl (fun w => by simp [go_sem])) rfl ?_
        refine (Read_e hz hL).mono ?_
        rintro e wx ⟨vo, vs, Ro, Rs, rfl, ho, hs, hL2, lo, ls⟩
        replace hL := hL2
        clear hL2
        refine ⟨_, rfl, fun a2 HH => ?_⟩
        have H2 := HH [(113, _), (2, _)] (.cons rfl (.cons rfl .nil))
        clear HH H1
        refine h_op (m' := [(111, _), (2, _)]) H2 rfl (wn rfl) (R_mv H2 rfl rfl) rfl (.cons rfl (.cons rfl .nil)) fun a3 H3 => ?_
        clear H2
        refine h_op (m' := [(114, _), (111, _), (2, _)]) H3 rfl (wn rfl) (R_ext H3 rfl rfl rfl) rfl (.cons rfl (.cons rfl (.cons rfl .nil))) fun a4 H4 => ?_
        clear H3
        refine h_op (m' := [(115, _), (114, _), (2, _)]) H4 rfl (wn rfl) (R_ext H4 rfl rfl rfl) rfl (.cons rfl (.cons rfl (.cons rfl .nil))) fun a5 H5 => ?_
        clear H4
        refine h_op (m' := [(17, _), (115, _), (114, _), (2, _)]) H5 rfl (wn rfl) (R_alloc rfl al_row) rfl (.cons rfl (.cons rfl (.cons rfl (.cons rfl .nil)))) fun a6 H6 => ?_
        clear H5
        replace hL := hL.alloc zcells 29
        have hst := hL.at_
        have hone : (mcells (backM s) vo vs).all (·.oneCell') = true := mcells_one (slot_one ho) (slot_one hs)
        refine h_st H6 rfl (wn rfl) (R_st H6 rfl rfl rfl (st_row hst hone)) fun a7 H7 => ?_
        clear H6
        replace hL := hL.row (mcells (backM s) vo vs)
        clear hst hone
        refine h_op (m' := [(18, _), (17, _), (2, _)]) H7 rfl (wn rfl) (R_as H7 rfl rfl) rfl (.cons rfl (.cons rfl (.cons rfl .nil))) fun a8 H8 => ?_
        clear H7
        refine h_end ?_
        go_upto_region 16 with fail
        refine wp_region_lit ?_
        refine h_op (m' := [(116, _), (17, _), (2, _)]) H8 rfl (wn rfl) (R_mv H8 rfl rfl) rfl (.cons rfl (.cons rfl (.cons rfl .nil))) fun a9 H9 => ?_
        clear H8
        refine h_op (m' := [(117, _), (17, _), (2, _)]) H9 rfl (wn rfl) (R_bin H9 rfl rfl rfl (B_ne Try.underlying33 _ _)) rfl (.cons rfl (.cons rfl (.cons rfl .nil))) fun a10 H10 => ?_
        clear H9
        refine h_end ?_
        go_upto_region 17 with fail
        by_cases er : errR s = 0
        · have hrm := errR_iff.1 er
          have hbm := readM_ok hrm
          obtain ⟨fm, km, im⟩ := read_fit hrm
          have em : errM (backM s) = 0 := by unfold errM; rw [hbm]
          have hbo : bytesOr (backM s) = s := by unfold bytesOr; rw [hbm]
          refine wp_cond (t := false) ((H10.ev (x := .tmp 117) rfl).trans (by rw [er]; rfl)) ?_
          simp only [Bool.false_eq_true, if_false]
          go_upto_region 18 with fail
          refine wp_region_lit ?_
          refine h_op (m' := [(122, _), (17, _), (2, _)]) H10 rfl (wn rfl) (R_ld H10 rfl rfl (ld_row (m := backM s) (vo := vo) (vs := vs) (hL.mem_at (by simp)))) rfl (.cons rfl (.cons rfl (.cons rfl .nil))) fun a11 H11 => ?_
          clear H10
          refine h_call H11 rfl (wn rfl) (R_call1 H11 rfl rfl (fun w => by simp [go_sem])) rfl ?_
          refine (Bytes_e fm km im (ho.rdm hL (fun p hp => by simp [hp])) (hs.rdm hL (fun p hp => by simp [hp])) (by omega) (by omega)).mono ?_
          rintro e wx ⟨rfl, hb⟩
          replace hL := hL.call hb
          clear hb
          rw [em, hbo]
          refine ⟨_, rfl, fun a12 HH => ?_⟩
          have H12 := HH [(123, _), (17, _), (2, _)] (.cons rfl (.cons rfl (.cons rfl .nil)))
          clear HH H11
          refine h_op (m' := [(121, _), (17, _), (2, _)]) H12 rfl (wn rfl) (R_mv H12 rfl rfl) rfl (.cons rfl (.cons rfl (.cons rfl .nil))) fun a13 H13 => ?_
          clear H12
          refine h_op (m' := [(124, _), (121, _), (17, _), (2, _)]) H13 rfl (wn rfl) (R_ext H13 rfl rfl rfl) rfl (.cons rfl (.cons rfl (.cons rfl (.cons rfl .nil)))) fun a14 H14 => ?_
          clear H13
          refine h_op (m' := [(125, _), (124, _), (17, _), (2, _)]) H14 rfl (wn rfl) (R_ext H14 rfl rfl rfl) rfl (.cons rfl (.cons rfl (.cons rfl (.cons rfl .nil)))) fun a15 H15 => ?_
          clear H14
          refine h_op (m' := [(19, _), (125, _), (17, _), (2, _)]) H15 rfl (wn rfl) (R_as H15 rfl rfl) rfl (.cons rfl (.cons rfl (.cons rfl (.cons rfl .nil)))) fun a16 H16 => ?_
          clear H15
          refine h_op (m' := [(20, _), (19, _), (17, _), (2, _)]) H16 rfl (wn rfl) (R_as H16 rfl rfl) rfl (.cons rfl (.cons rfl (.cons rfl (.cons rfl .nil)))) fun a17 H17 => ?_
          clear H16
          refine h_end ?_
          go_upto_region 19 with fail
          refine wp_region_lit ?_
          refine h_op (m' := [(126, _), (19, _), (17, _), (2, _)]) H17 rfl (wn rfl) (R_mv H17 rfl rfl) rfl (.cons rfl (.cons rfl (.cons rfl (.cons rfl .nil)))) fun a18 H18 => ?_
          clear H17
          refine h_op (m' := [(127, _), (19, _), (17, _), (2, _)]) H18 rfl (wn rfl) (R_bin H18 rfl rfl rfl (B_eq Try.underlying33 _ _)) rfl (.cons rfl (.cons rfl (.cons rfl (.cons rfl .nil)))) fun a19 H19 => ?_
          clear H18
          refine h_op (m' := [(128, _), (19, _), (17, _), (2, _)]) H19 rfl (wn rfl) (R_mv H19 rfl rfl) rfl (.cons rfl (.cons rfl (.cons rfl (.cons rfl .nil)))) fun a20 H20 => ?_
          clear H19
          refine h_op (m' := [(129, _), (128, _), (17, _), (2, _)]) H20 rfl (H20.wt rfl rfl rfl) (R_mv H20 rfl rfl) rfl (.cons rfl (.cons rfl (.cons rfl (.cons rfl .nil)))) fun a21 H21 => ?_
          clear H20
          refine h_op (m' := [(130, _), (129, _), (128, _), (17, _)]) H21 rfl (H21.wt rfl rfl rfl) (R_mv H21 rfl rfl) rfl (.cons rfl (.cons rfl (.cons rfl (.cons rfl .nil)))) fun a22 H22 => ?_
          clear H21
          refine h_op (m' := [(131, _), (128, _), (17, _)]) H22 rfl (H22.wt rfl rfl rfl) (R_bin H22 rfl rfl rfl (B_to (y := true) (B_eqs _ _) (by simp))) rfl (.cons rfl (.cons rfl (.cons rfl .nil))) fun a23 H23 => ?_
          clear H22
          refine h_op (m' := [(132, _), (17, _)]) H23 rfl (wn rfl) (R_pick H23 rfl rfl rfl) rfl (.cons rfl (.cons rfl .nil)) fun a24 H24 => ?_
          clear H23
          refine h_op (m' := [(133, _), (17, _)]) H24 rfl (wn rfl) (R_mv H24 rfl rfl) rfl (.cons rfl (.cons rfl .nil)) fun a25 H25 => ?_
          clear H24
          refine h_op (m' := [(134, _), (133, _)]) H25 rfl (H25.wt rfl rfl rfl) (R_ld H25 rfl rfl (ld_row (m := backM s) (vo := vo) (vs := vs) (hL.mem_at (by simp)))) rfl (.cons rfl (.cons rfl .nil)) fun a26 H26 => ?_
          clear H25
          refine h_call H26 rfl (H26.wt rfl rfl rfl) (R_call1 H26 rfl rfl (fun w => by simp [go_sem])) rfl ?_
          refine (Right_any fm km im (ho.rdm hL (fun p hp => by simp [hp])) (hs.rdm hL (fun p hp => by simp [hp])) (by omega) (by omega)).mono ?_
          rintro e wx ⟨rfl, hb⟩
          replace hL := hL.call hb
          clear hb
          rw [em]
          refine ⟨_, rfl, fun a27 HH => ?_⟩
          have H27 := HH [(135, _), (133, _)] (.cons rfl (.cons rfl .nil))
          clear HH H26
          refine h_op (m' := [(136, _), (133, _)]) H27 rfl (H27.wt rfl rfl rfl) (R_bin H27 rfl rfl rfl (B_eq Try.underlying33 _ _)) rfl (.cons rfl (.cons rfl .nil)) fun a28 H28 => ?_
          clear H27
          refine h_op (m' := [(137, _)]) H28 rfl (wn rfl) (R_pick H28 rfl rfl rfl) rfl (.cons rfl .nil) fun a29 H29 => ?_
          clear H28
          refine h_op (m' := [(6, _)]) H29 rfl (wn rfl) (R_as H29 rfl rfl) rfl (.cons rfl .nil) fun a30 H30 => ?_
          clear H29
          refine h_end ?_
          go_upto_region 999 with fail
          refine H30.ret1 (v := .bool true) rfl rfl ?_
          exact ⟨rfl, hL.1⟩
        · have hz0 : backM s = .zero := by
            unfold backM
            cases h : readM s with
            | ok m => exact absurd (by unfold errR; rw [h]) er
            | error f => rfl
          refine wp_cond (t := true) ((H10.ev (x := .tmp 117) rfl).trans (by rw [bne_iff_ne.2 er])) ?_
          simp only [if_true]
          go_upto_region 17 with fail
          refine wp_region_lit ?_
          refine h_op (m' := [(118, _)]) H10 rfl (wn rfl) (R_ld H10 rfl rfl (ld_row (m := backM s) (vo := vo) (vs := vs) (hL.mem_at (by simp)))) rfl (.cons rfl .nil) fun a11 H11 => ?_
          clear H10
          refine h_op (m' := [(119, _), (118, _)]) H11 rfl (wn rfl) (R_build rfl bd_row) rfl (.cons rfl (.cons rfl .nil)) fun a12 H12 => ?_
          clear H11
          refine h_call H12 rfl (wn rfl) (R_call2 H12 rfl rfl rfl (fun w => by simp [go_sem])) rfl ?_
          refine (Same_any (b := .zero) (ho.rdm hL (fun p hp => by simp [hp])) (hs.rdm hL (fun p hp => by simp [hp])) (.inl ⟨rfl, rfl⟩) (.inl ⟨rfl, rfl⟩) (by omega) (by omega) (by decide) (by decide)).mono ?_
          rintro e wx ⟨rfl, hb⟩
          replace hL := hL.call hb
          clear hb
          rw [hz0, sameB_self]
          refine ⟨_, rfl, fun a13 HH => ?_⟩
          have H13 := HH [(120, _)] (.cons rfl .nil)
          clear HH H12
          refine h_op (m' := [(6, _)]) H13 rfl (wn rfl) (R_as H13 rfl rfl) rfl (.cons rfl .nil) fun a14 H14 => ?_
          clear H13
          refine h_end ?_
          go_upto_region 999 with fail
          refine H14.ret1 (v := .bool true) rfl rfl ?_
          exact ⟨rfl, hL.1⟩
    · refine wp_region_lit ?_
      refine h_op (m' := [(23, _), (6, _), (4, _), (3, _), (2, _)]) H5 rfl (wn rfl) (R_ld H5 rfl rfl (ld_row hL.tail.at_)) rfl (.cons rfl (.cons rfl (.cons rfl (.cons rfl (.cons rfl .nil))))) fun a6 H6 => ?_
      clear H5
      refine h_call H6 rfl (wn rfl) (R_call1 H6 rfl rfl (fun w => by simp [go_sem])) rfl ?_
      refine (Great_any (K1 hL.1) (K2 hL.1) l1 l2).mono ?_
      rintro e wx ⟨rfl, hb⟩
      replace hL := hL.call hb
      clear hb
      rw [ga]
      refine ⟨_, rfl, fun a7 HH => ?_⟩
      have H7 := HH [(24, _), (6, _), (4, _), (3, _), (2, _)] (.cons rfl (.cons rfl (.cons rfl (.cons rfl (.cons rfl .nil)))))
      clear HH H6
      refine h_op (m' := [(25, _), (6, _), (4, _), (3, _), (2, _)]) H7 rfl (wn rfl) (R_mv H7 rfl rfl) rfl (.cons rfl (.cons rfl (.cons rfl (.cons rfl (.cons rfl .nil))))) fun a8 H8 => ?_
      clear H7
      refine h_op (m' := [(26, _), (25, _), (6, _), (4, _), (3, _), (2, _)]) H8 rfl (H8.wt rfl rfl rfl) (R_ld H8 rfl rfl (ld_row hL.at_)) rfl (.cons rfl (.cons rfl (.cons rfl (.cons rfl (.cons rfl (.cons rfl .nil)))))) fun a9 H9 => ?_
      clear H8
      refine h_call H9 rfl (H9.wt rfl rfl rfl) (R_call1 H9 rfl rfl (fun w => by simp [go_sem])) rfl ?_
      refine (Great_any (K3 hL.1) (K4 hL.1) l3 l4).mono ?_
      rintro e wx ⟨rfl, hb⟩
      replace hL := hL.call hb
      clear hb
      rw [gb]
      refine ⟨_, rfl, fun a10 HH => ?_⟩
      have H10 := HH [(27, _), (25, _), (6, _), (4, _), (3, _), (2, _)] (.cons rfl (.cons rfl (.cons rfl (.cons rfl (.cons rfl (.cons rfl .nil))))))
      clear HH H9
      refine h_op (m' := [(28, _), (6, _), (4, _), (3, _), (2, _)]) H10 rfl (wn rfl) (R_pick H10 rfl rfl rfl) rfl (.cons rfl (.cons rfl (.cons rfl (.cons rfl (.cons rfl .nil))))) fun a11 H11 => ?_
      clear H10
      refine h_op (m' := [(29, _), (6, _), (4, _), (3, _), (2, _)]) H11 rfl (wn rfl) (R_mv H11 rfl rfl) rfl (.cons rfl (.cons rfl (.cons rfl (.cons rfl (.cons rfl .nil))))) fun a12 H12 => ?_
      clear H11
      refine h_skip (m' := [(29, _), (6, _), (4, _), (3, _), (2, _)]) H12 rfl (H12.wf rfl rfl rfl) rfl (.cons rfl (.cons rfl (.cons rfl (.cons rfl (.cons rfl .nil))))) fun a13 H13 => ?_
      clear H12
      refine h_skip (m' := [(29, _), (6, _), (4, _), (3, _), (2, _)]) H13 rfl (H13.wf rfl rfl rfl) rfl (.cons rfl (.cons rfl (.cons rfl (.cons rfl (.cons rfl .nil))))) fun a14 H14 => ?_
      clear H13
      refine h_skip (m' := [(29, _), (6, _), (4, _), (3, _), (2, _)]) H14 rfl (H14.wf rfl rfl rfl) rfl (.cons rfl (.cons rfl (.cons rfl (.cons rfl (.cons rfl .nil))))) fun a15 H15 => ?_
      clear H14
      refine h_op (m' := [(33, _), (6, _), (4, _), (3, _), (2, _)]) H15 rfl (wn rfl) (R_pick H15 rfl rfl rfl) rfl (.cons rfl (.cons rfl (.cons rfl (.cons rfl (.cons rfl .nil))))) fun a16 H16 => ?_
      clear H15
      refine h_end ?_
      go_upto_region 4 with fail
      refine wp_cond (t := true) (H16.ev (x := .tmp 33) rfl) ?_
      go_upto_region 4 with fail
      refine wp_region_lit ?_
      refine h_op (m' := [(6, _), (4, _), (3, _), (2, _)]) H16 rfl (wn rfl) (R_as H16 rfl rfl) rfl (.cons rfl (.cons rfl (.cons rfl (.cons rfl .nil)))) fun a17 H17 => ?_
      clear H16
      refine h_end ?_
      go_upto_region 999 with fail
      refine H17.ret1 (v := .bool true) rfl rfl ?_
      exact ⟨rfl, hL.1⟩
  · refine wp_region_lit ?_
    refine h_op (m' := [(23, _), (6, _), (4, _), (3, _), (2, _)]) H5 rfl (wn rfl) (R_ld H5 rfl rfl (ld_row hL.tail.at_)) rfl (.cons rfl (.cons rfl (.cons rfl (.cons rfl (.cons rfl .nil))))) fun a6 H6 => ?_
    clear H5
    refine h_call H6 rfl (wn rfl) (R_call1 H6 rfl rfl (fun w => by simp [go_sem])) rfl ?_
    refine (Great_any (K1 hL.1) (K2 hL.1) l1 l2).mono ?_
    rintro e wx ⟨rfl, hb⟩
    replace hL := hL.call hb
    clear hb
    rw [ga]
    refine ⟨_, rfl, fun a7 HH => ?_⟩
    have H7 := HH [(24, _), (6, _), (4, _), (3, _), (2, _)] (.cons rfl (.cons rfl (.cons rfl (.cons rfl (.cons rfl .nil)))))
    clear HH H6
    refine h_op (m' := [(25, _), (6, _), (4, _), (3, _), (2, _)]) H7 rfl (wn rfl) (R_mv H7 rfl rfl) rfl (.cons rfl (.cons rfl (.cons rfl (.cons rfl (.cons rfl .nil))))) fun a8 H8 => ?_
    clear H7
    refine h_skip (m' := [(25, _), (6, _), (4, _), (3, _), (2, _)]) H8 rfl (H8.wf rfl rfl rfl) rfl (.cons rfl (.cons rfl (.cons rfl (.cons rfl (.cons rfl .nil))))) fun a9 H9 => ?_
    clear H8
    refine h_skip (m' := [(25, _), (6, _), (4, _), (3, _), (2, _)]) H9 rfl (H9.wf rfl rfl rfl) rfl (.cons rfl (.cons rfl (.cons rfl (.cons rfl (.cons rfl .nil))))) fun a10 H10 => ?_
    clear H9
    refine h_op (m' := [(28, _), (6, _), (4, _), (3, _), (2, _)]) H10 rfl (wn rfl) (R_pick H10 rfl rfl rfl) rfl (.cons rfl (.cons rfl (.cons rfl (.cons rfl (.cons rfl .nil))))) fun a11 H11 => ?_
    clear H10
    refine h_op (m' := [(29, _), (6, _), (4, _), (3, _), (2, _)]) H11 rfl (wn rfl) (R_mv H11 rfl rfl) rfl (.cons rfl (.cons rfl (.cons rfl (.cons rfl (.cons rfl .nil))))) fun a12 H12 => ?_
    clear H11
    refine h_skip (m' := [(29, _), (6, _), (4, _), (3, _), (2, _)]) H12 rfl (H12.wf rfl rfl rfl) rfl (.cons rfl (.cons rfl (.cons rfl (.cons rfl (.cons rfl .nil))))) fun a13 H13 => ?_
    clear H12
    refine h_skip (m' := [(29, _), (6, _), (4, _), (3, _), (2, _)]) H13 rfl (H13.wf rfl rfl rfl) rfl (.cons rfl (.cons rfl (.cons rfl (.cons rfl (.cons rfl .nil))))) fun a14 H14 => ?_
    clear H13
    refine h_skip (m' := [(29, _), (6, _), (4, _), (3, _), (2, _)]) H14 rfl (H14.wf rfl rfl rfl) rfl (.cons rfl (.cons rfl (.cons rfl (.cons rfl (.cons rfl .nil))))) fun a15 H15 => ?_
    clear H14
    refine h_op (m' := [(33, _), (6, _), (4, _), (3, _), (2, _)]) H15 rfl (wn rfl) (R_pick H15 rfl rfl rfl) rfl (.cons rfl (.cons rfl (.cons rfl (.cons rfl (.cons rfl .nil))))) fun a16 H16 => ?_
    clear H15
    refine h_end ?_
    go_upto_region 4 with fail
    refine wp_cond (t := true) (H16.ev (x := .tmp 33) rfl) ?_
    go_upto_region 4 with fail
    refine wp_region_lit ?_
    refine h_op (m' := [(6, _), (4, _), (3, _), (2, _)]) H16 rfl (wn rfl) (R_as H16 rfl rfl) rfl (.cons rfl (.cons rfl (.cons rfl (.cons rfl .nil)))) fun a17 H17 => ?_
    clear H16
    refine h_end ?_
    go_upto_region 999 with fail
    refine H17.ret1 (v := .bool true) rfl rfl ?_
    exact ⟨rfl, hL.1⟩
end
end Go.Proofs.Ytmmhchpilcjflaa
