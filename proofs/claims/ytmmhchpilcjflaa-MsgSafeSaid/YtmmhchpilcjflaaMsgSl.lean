/-
  MsgSafe: its walk.
-/
import Derived.Test.YtmmhchpilcjflaaMsgSf
import Derived.Test.YtmmhchpilcjflaaFr
import Derived.Deep.Cut
set_option linter.unusedSimpArgs false
set_option linter.unusedVariables false
namespace Go.Proofs.Ytmmhchpilcjflaa
open Go.RowKit

section
variable {W : World} {a : PMsg} {ao aS : Value} {at_ pt : Nat}
set_option maxHeartbeats 16000000 in
set_option maxRecDepth 100000 in
theorem safe_law (na : a.FitsN) (hat : at_ < 4294967296) (hpt : pt < 4294967296)
    (h1 : Rd W ao a.owner) (h2 : Rd W aS a.set) (l1 : a.owner.length ≤ 9223372036854775807) (l2 : a.set.length ≤ 9223372036854775807) :
    Calls Try.prog 9 #[.agg (mcells a ao aS), .int .u32 (at_ : Nat), .int .u32 (pt : Nat)] W fun e W' => e = .returned (.bool true) ∧ Below W.heap.size W W' := by
  have hs1 : ∀ (w : World) (o : Obj), (w.alloc o).heap.size = w.heap.size + 1 := fun w o => by simp
  have hL := ((Live.init W).alloc (mcells a ao aS) 29)
  have K1 : ∀ {w}, Below W.heap.size W w → Rd w ao a.owner := fun hb => h1.kept fun k hk => hb.block k hk
  have K2 : ∀ {w}, Below W.heap.size W w → Rd w aS a.set := fun hb => h2.kept fun k hk => hb.block k hk
  go_enter Try.func9, Try.ntmps9
  refine wp_fr (n := 74) (m := [(0, _), (1, _), (2, _)]) ⟨rfl, rfl, by intro p hp; simp only [List.mem_cons, List.not_mem_nil, or_false] at hp; rcases hp with rfl | rfl | rfl <;> rfl⟩ fun a0 H0 => ?_
  repeat (go_not_at_region 0; go_step)
  refine wp_region_lit ?_
  refine h_op (m' := [(3, _), (1, _), (2, _)]) H0 rfl (wn rfl) (R_box H0 rfl rfl bx_row) rfl (.cons rfl (.cons rfl (.cons rfl .nil))) fun a1 H1 => ?_
  clear H0
  refine h_op (m' := [(6, _), (3, _), (1, _), (2, _)]) H1 rfl (wn rfl) (R_as H1 rfl rfl) rfl (.cons rfl (.cons rfl (.cons rfl (.cons rfl .nil)))) fun a2 H2 => ?_
  clear H1
  refine h_end ?_
  repeat (go_not_at_region 1; go_step)
  refine wp_region_lit ?_
  refine h_call H2 rfl (wn rfl) (R_call0 H2 rfl (fun w => by simp [go_sem])) rfl ?_
  refine (awake_ok).mono ?_
  rintro e wx ⟨rfl, hb⟩
  replace hL := hL.call hb
  clear hb
  refine ⟨_, rfl, fun a3 HH => ?_⟩
  have H3 := HH [(15, _), (6, _), (3, _), (1, _), (2, _)] (.cons rfl (.cons rfl (.cons rfl (.cons rfl (.cons rfl .nil)))))
  clear HH H2
  refine h_op (m' := [(16, _), (6, _), (3, _), (1, _), (2, _)]) H3 rfl (wn rfl) (R_not H3 rfl rfl) rfl (.cons rfl (.cons rfl (.cons rfl (.cons rfl (.cons rfl .nil))))) fun a4 H4 => ?_
  clear H3
  refine h_end ?_
  repeat (go_not_at_region 3; go_step)
  refine wp_cond_false (H4.ev (x := .tmp 16) rfl) ?_
  repeat (go_not_at_region 3; go_step)
  cases ga : greatB a
  rotate_left
  · refine wp_region_lit ?_
    refine h_op (m' := [(17, _), (6, _), (3, _), (1, _), (2, _)]) H4 rfl (wn rfl) (R_ld H4 rfl rfl (ld_row (m := a) (vo := ao) (vs := aS) (hL.mem_at (by simp)))) rfl (.cons rfl (.cons rfl (.cons rfl (.cons rfl (.cons rfl .nil))))) fun a5 H5 => ?_
    clear H4
    refine h_call H5 rfl (wn rfl) (R_call1 H5 rfl rfl (fun w => by simp [go_sem])) rfl ?_
    refine (Great_any (K1 hL.1) (K2 hL.1) l1 l2).mono ?_
    rintro e wx ⟨rfl, hb⟩
    replace hL := hL.call hb
    clear hb
    rw [ga]
    refine ⟨_, rfl, fun a6 HH => ?_⟩
    have H6 := HH [(18, _), (6, _), (3, _), (1, _), (2, _)] (.cons rfl (.cons rfl (.cons rfl (.cons rfl (.cons rfl .nil)))))
    clear HH H5
    refine h_end ?_
    repeat (go_not_at_region 4; go_step)
    refine wp_cond_true (H6.ev (x := .tmp 18) rfl) ?_
    repeat (go_not_at_region 4; go_step)
    refine wp_region_lit ?_
    refine h_op (m' := [(6, _), (3, _), (1, _), (2, _)]) H6 rfl (wn rfl) (R_as H6 rfl rfl) rfl (.cons rfl (.cons rfl (.cons rfl (.cons rfl .nil)))) fun a7 H7 => ?_
    clear H6
    refine h_end ?_
    repeat (go_not_at_region 999; go_step)
    refine H7.ret1 (v := .bool true) rfl rfl ?_
    exact ⟨rfl, hL.1⟩
  refine wp_region_lit ?_
  refine h_op (m' := [(17, _), (6, _), (3, _), (1, _), (2, _)]) H4 rfl (wn rfl) (R_ld H4 rfl rfl (ld_row (m := a) (vo := ao) (vs := aS) (hL.mem_at (by simp)))) rfl (.cons rfl (.cons rfl (.cons rfl (.cons rfl (.cons rfl .nil))))) fun a5 H5 => ?_
  clear H4
  refine h_call H5 rfl (wn rfl) (R_call1 H5 rfl rfl (fun w => by simp [go_sem])) rfl ?_
  refine (Great_any (K1 hL.1) (K2 hL.1) l1 l2).mono ?_
  rintro e wx ⟨rfl, hb⟩
  replace hL := hL.call hb
  clear hb
  rw [ga]
  refine ⟨_, rfl, fun a6 HH => ?_⟩
  have H6 := HH [(18, _), (6, _), (3, _), (1, _), (2, _)] (.cons rfl (.cons rfl (.cons rfl (.cons rfl (.cons rfl .nil)))))
  clear HH H5
  refine h_end ?_
  repeat (go_not_at_region 5; go_step)
  refine wp_cond_false (H6.ev (x := .tmp 18) rfl) ?_
  repeat (go_not_at_region 5; go_step)
  have fa := fits_g na ga
  have ka := na.kind
  have ia := na.ikind
  have lo1 : a.owner.length ≤ 1000000000000 := by have := great_no ga; omega
  have ls1 : a.set.length ≤ 1000000000000 := by have := great_no ga; omega
  refine wp_region_lit ?_
  refine h_op (m' := [(20, _), (1, _), (2, _)]) H6 rfl (wn rfl) (R_ld H6 rfl rfl (ld_row (m := a) (vo := ao) (vs := aS) (hL.mem_at (by simp)))) rfl (.cons rfl (.cons rfl (.cons rfl .nil))) fun a7 H7 => ?_
  clear H6
  refine h_call H7 rfl (wn rfl) (R_call1 H7 rfl rfl (fun w => by simp [go_sem])) rfl ?_
  refine (Data_e fa ka ia (K1 hL.1) (K2 hL.1) lo1 ls1).mono ?_
  rintro e wx ⟨rfl, hb⟩
  replace hL := hL.call hb
  clear hb
  refine ⟨_, rfl, fun a8 HH => ?_⟩
  have H8 := HH [(21, _), (1, _), (2, _)] (.cons rfl (.cons rfl (.cons rfl .nil)))
  clear HH H7
  refine h_op (m' := [(19, _), (1, _), (2, _)]) H8 rfl (wn rfl) (R_mv H8 rfl rfl) rfl (.cons rfl (.cons rfl (.cons rfl .nil))) fun a9 H9 => ?_
  clear H8
  refine h_op (m' := [(22, _), (19, _), (1, _), (2, _)]) H9 rfl (wn rfl) (R_ext H9 rfl rfl rfl) rfl (.cons rfl (.cons rfl (.cons rfl (.cons rfl .nil)))) fun a10 H10 => ?_
  clear H9
  refine h_op (m' := [(23, _), (22, _), (1, _), (2, _)]) H10 rfl (wn rfl) (R_ext H10 rfl rfl rfl) rfl (.cons rfl (.cons rfl (.cons rfl (.cons rfl .nil)))) fun a11 H11 => ?_
  clear H10
  refine h_op (m' := [(7, _), (23, _), (1, _), (2, _)]) H11 rfl (wn rfl) (R_as H11 rfl rfl) rfl (.cons rfl (.cons rfl (.cons rfl (.cons rfl .nil)))) fun a12 H12 => ?_
  clear H11
  refine h_op (m' := [(8, _), (7, _), (1, _), (2, _)]) H12 rfl (wn rfl) (R_as H12 rfl rfl) rfl (.cons rfl (.cons rfl (.cons rfl (.cons rfl .nil)))) fun a13 H13 => ?_
  clear H12
  refine h_end ?_
  repeat (go_not_at_region 6; go_step)
  refine wp_region_lit ?_
  refine h_op (m' := [(24, _), (7, _), (1, _), (2, _)]) H13 rfl (wn rfl) (R_mv H13 rfl rfl) rfl (.cons rfl (.cons rfl (.cons rfl (.cons rfl .nil)))) fun a14 H14 => ?_
  clear H13
  refine h_op (m' := [(25, _), (7, _), (1, _), (2, _)]) H14 rfl (wn rfl) (R_bin H14 rfl rfl rfl (B_ne Try.underlying33 _ _)) rfl (.cons rfl (.cons rfl (.cons rfl (.cons rfl .nil)))) fun a15 H15 => ?_
  clear H14
  refine h_end ?_
  repeat (go_not_at_region 7; go_step)
  by_cases ea : errM a = 0
  rotate_left
  · refine wp_cond (t := true) ((H15.ev (x := .tmp 25) rfl).trans (by rw [bne_iff_ne.2 ea])) ?_
    simp only [if_true]
    repeat (go_not_at_region 7; go_step)
    refine wp_region_lit ?_
    refine h_op (m' := [(6, _), (7, _), (1, _), (2, _)]) H15 rfl (wn rfl) (R_as H15 rfl rfl) rfl (.cons rfl (.cons rfl (.cons rfl (.cons rfl .nil)))) fun a16 H16 => ?_
    clear H15
    refine h_end ?_
    repeat (go_not_at_region 999; go_step)
    refine H16.ret1 (v := .bool true) rfl rfl ?_
    exact ⟨rfl, hL.1⟩
  refine wp_cond (t := false) ((H15.ev (x := .tmp 25) rfl).trans (by rw [ea]; rfl)) ?_
  simp only [Bool.false_eq_true, if_false]
  repeat (go_not_at_region 8; go_step)
  obtain ⟨hwk, hra⟩ := bytesM_ok fa ka ia (err_iff.1 ea)
  have hdo : dataOr a = packL (frameL (bytesOr a)) := by
    unfold dataOr
    rw [data_ok fa ka ia (err_iff.1 ea)]
  have hz1 := bytesOr_size fa ka ia
  have hw : wholeM (dataOr a) = .ok (bytesOr a) := by rw [hdo]; exact whole_put (by omega)
  have ho : ofM (dataOr a) = .ok a := by rw [hdo]; exact of_data fa ka ia (err_iff.1 ea)
  have hz2 := dataOr_size fa ka ia
  obtain ⟨c, k, w2, hcv, hB⟩ := cv_to (s := dataOr a) hL.tail
  obtain ⟨g, hg⟩ : ∃ g, g = wx.heap.size := ⟨_, rfl⟩
  rw [← hg] at hcv hB
  obtain ⟨d, hd⟩ : ∃ d, d = dataOr a := ⟨_, rfl⟩
  have HF := H15.pick [(1, .int .u32 (at_ : Nat)), (2, .int .u32 (pt : Nat)), (7, .string (dataOr a))] (.cons rfl (.cons rfl (.cons rfl .nil)))
  clear H15
  rw [← hd] at HF hcv hB hw ho hz2
  clear hd hdo
  obtain ⟨p, hp⟩ : ∃ p, p = at_ % 100000 := ⟨_, rfl⟩
  have H16 := HF
  clear HF
  refine wp_region_lit ?_
  refine h_op (m' := [(26, _), (1, _), (2, _)]) H16 rfl (wn rfl) (R_mv H16 rfl rfl) rfl (.cons rfl (.cons rfl (.cons rfl .nil))) fun a17 H17 => ?_
  clear H16
  refine h_op (m' := [(27, _), (1, _), (2, _)]) H17 rfl (wn rfl) (R_cvW H17 rfl rfl hcv) rfl (.cons rfl (.cons rfl (.cons rfl .nil))) fun a18 H18 => ?_
  clear H17
  refine h_op (m' := [(9, _), (1, _), (2, _)]) H18 rfl (wn rfl) (R_as H18 rfl rfl) rfl (.cons rfl (.cons rfl (.cons rfl .nil))) fun a19 H19 => ?_
  clear H18
  refine h_end ?_
  repeat (go_not_at_region 9; go_step)
  refine wp_region_lit ?_
  refine h_op (m' := [(10, _), (9, _), (1, _), (2, _)]) H19 rfl (wn rfl) (R_as H19 rfl rfl) rfl (.cons rfl (.cons rfl (.cons rfl (.cons rfl .nil)))) fun a20 H20 => ?_
  clear H19
  refine h_end ?_
  repeat (go_not_at_region 10; go_step)
  refine wp_region_lit ?_
  refine h_op (m' := [(11, _), (10, _), (9, _), (1, _), (2, _)]) H20 rfl (wn rfl) (R_as H20 rfl rfl) rfl (.cons rfl (.cons rfl (.cons rfl (.cons rfl (.cons rfl .nil))))) fun a21 H21 => ?_
  clear H20
  refine h_end ?_
  repeat (go_not_at_region 11; go_step)
  obtain ⟨I, hI⟩ : ∃ I : Nat → Act → World → Prop, ∀ n a' w', I n a' w' ↔ ∃ (i : Nat) (xs : List Nat) (q : Nat), n = 32 - i ∧ i ≤ 32 ∧ xs.length = d.size ∧ (∀ x ∈ xs, x < 256) ∧ q < 2 ^ i ∧ vl xs = vl (bytesOf d) ^^^ 2 ^ p * q ∧ Fr a' 74 [(1, .int .u32 (at_ : Nat)), (2, .int .u32 (pt : Nat)), (9, .slice (some ⟨g, 0, none⟩) d.size c), (10, .bool (decide (q ≠ 0))), (11, .int .i64 (i : Nat))] ∧ LiveB W [] g xs k w' := ⟨_, fun _ _ _ => Iff.rfl⟩
  have HI := Lib.hid hI
  clear hI
  refine wp_loop_ghost I 32 ((HI.out _ _ _).2 ⟨0, bytesOf d, 0, rfl, by decide, by rw [bytes_size], bytesOf_lt, by decide, by rw [Nat.mul_zero, Nat.xor_zero], H21.pick _ (.cons rfl (.cons rfl (.cons rfl (.cons rfl (.cons rfl .nil))))), hB⟩) ?_
  clear hB
  intro n a1 w1 hi
  obtain ⟨i, xs, q, rfl, hi32, hl, hx, hq, hv, H0, hB⟩ := (HI.out _ _ _).1 hi
  clear hi
  have hpl : p < 100000 := by omega
  by_cases hi2 : i < 32
  · repeat (go_not_at_region 11; go_step)
    refine wp_region_lit ?_
    refine h_op (m' := [(28, _), (1, _), (2, _), (9, _), (10, _), (11, _)]) H0 rfl (wn rfl) (R_mv H0 rfl rfl) rfl (.cons rfl (.cons rfl (.cons rfl (.cons rfl (.cons rfl (.cons rfl .nil)))))) fun a1 H1 => ?_
    clear H0
    refine h_op (m' := [(29, _), (1, _), (2, _), (9, _), (10, _), (11, _)]) H1 rfl (wn rfl) (R_bin H1 rfl rfl rfl (B_to (y := true) (B_lt Try.underlying3 _ _) (decide_eq_true (by omega)))) rfl (.cons rfl (.cons rfl (.cons rfl (.cons rfl (.cons rfl (.cons rfl .nil)))))) fun a2 H2 => ?_
    clear H1
    refine h_end ?_
    repeat (go_not_at_region 13; go_step)
    refine wp_cond_true (H2.ev (x := .tmp 29) rfl) ?_
    repeat (go_not_at_region 13; go_step)
    refine wp_region_lit ?_
    refine h_op (m' := [(32, _), (1, _), (2, _), (9, _), (10, _), (11, _)]) H2 rfl (wn rfl) (R_mv H2 rfl rfl) rfl (.cons rfl (.cons rfl (.cons rfl (.cons rfl (.cons rfl (.cons rfl .nil)))))) fun a3 H3 => ?_
    clear H2
    refine h_op (m' := [(33, _), (1, _), (2, _), (9, _), (10, _), (11, _)]) H3 rfl (wn rfl) (R_bin H3 rfl rfl rfl (B32_rem _)) rfl (.cons rfl (.cons rfl (.cons rfl (.cons rfl (.cons rfl (.cons rfl .nil)))))) fun a4 H4 => ?_
    clear H3
    refine h_op (m' := [(34, _), (1, _), (2, _), (9, _), (10, _), (11, _)]) H4 rfl (wn rfl) (R_cv H4 rfl rfl (cv32_i _ (by omega))) rfl (.cons rfl (.cons rfl (.cons rfl (.cons rfl (.cons rfl (.cons rfl .nil)))))) fun a5 H5 => ?_
    clear H4
    refine h_op (m' := [(35, _), (34, _), (1, _), (2, _), (9, _), (10, _), (11, _)]) H5 rfl (wn rfl) (R_mv H5 rfl rfl) rfl (.cons rfl (.cons rfl (.cons rfl (.cons rfl (.cons rfl (.cons rfl (.cons rfl .nil))))))) fun a6 H6 => ?_
    clear H5
    refine h_op (m' := [(36, _), (1, _), (2, _), (9, _), (10, _), (11, _)]) H6 rfl (wn rfl) (R_bin H6 rfl rfl rfl (Bi_addN _ _ (by omega))) rfl (.cons rfl (.cons rfl (.cons rfl (.cons rfl (.cons rfl (.cons rfl .nil)))))) fun a7 H7 => ?_
    clear H6
    refine h_op (m' := [(12, _), (1, _), (2, _), (9, _), (10, _), (11, _)]) H7 rfl (wn rfl) (R_as H7 rfl rfl) rfl (.cons rfl (.cons rfl (.cons rfl (.cons rfl (.cons rfl (.cons rfl .nil)))))) fun a8 H8 => ?_
    clear H7
    refine h_end ?_
    have HF := H8.pick [(1, .int .u32 (at_ : Nat)), (2, .int .u32 (pt : Nat)), (9, .slice (some ⟨g, 0, none⟩) d.size c), (10, .bool (decide (q ≠ 0))), (11, .int .i64 (i : Nat)), (12, .int .i64 (at_ % 100000 + i : Nat))] (.cons rfl (.cons rfl (.cons rfl (.cons rfl (.cons rfl (.cons rfl .nil))))))
    clear H8
    rw [← hp] at HF
    have H9 := HF
    clear HF
    repeat (go_not_at_region 14; go_step)
    by_cases ht : pt / 2 ^ i % 2 = 1
    · by_cases hk : (p + i) / 8 < d.size
      · refine wp_region_lit ?_
        refine h_op (m' := [(37, _), (1, _), (2, _), (9, _), (10, _), (11, _), (12, _)]) H9 rfl (wn rfl) (R_mv H9 rfl rfl) rfl (.cons rfl (.cons rfl (.cons rfl (.cons rfl (.cons rfl (.cons rfl (.cons rfl .nil))))))) fun a10 H10 => ?_
        clear H9
        refine h_op (m' := [(38, _), (37, _), (1, _), (2, _), (9, _), (10, _), (11, _), (12, _)]) H10 rfl (wn rfl) (R_mv H10 rfl rfl) rfl (.cons rfl (.cons rfl (.cons rfl (.cons rfl (.cons rfl (.cons rfl (.cons rfl (.cons rfl .nil)))))))) fun a11 H11 => ?_
        clear H10
        refine h_op (m' := [(39, _), (37, _), (1, _), (2, _), (9, _), (10, _), (11, _), (12, _)]) H11 rfl (wn rfl) (R_cv H11 rfl rfl (cvi_u _ (by omega))) rfl (.cons rfl (.cons rfl (.cons rfl (.cons rfl (.cons rfl (.cons rfl (.cons rfl (.cons rfl .nil)))))))) fun a12 H12 => ?_
        clear H11
        refine h_op (m' := [(40, _), (1, _), (2, _), (9, _), (10, _), (11, _), (12, _)]) H12 rfl (wn rfl) (R_bin H12 rfl rfl rfl (B32_shr _ _ hi2)) rfl (.cons rfl (.cons rfl (.cons rfl (.cons rfl (.cons rfl (.cons rfl (.cons rfl .nil))))))) fun a13 H13 => ?_
        clear H12
        refine h_op (m' := [(41, _), (1, _), (2, _), (9, _), (10, _), (11, _), (12, _)]) H13 rfl (wn rfl) (R_bin H13 rfl rfl rfl (B32_and1 _ (Nat.lt_of_le_of_lt (Nat.div_le_self _ _) hpt))) rfl (.cons rfl (.cons rfl (.cons rfl (.cons rfl (.cons rfl (.cons rfl (.cons rfl .nil))))))) fun a14 H14 => ?_
        clear H13
        refine h_op (m' := [(42, _), (1, _), (2, _), (9, _), (10, _), (11, _), (12, _)]) H14 rfl (wn rfl) (R_bin H14 rfl rfl rfl (B_to (y := true) (B32_eq1 _) (decide_eq_true ht))) rfl (.cons rfl (.cons rfl (.cons rfl (.cons rfl (.cons rfl (.cons rfl (.cons rfl .nil))))))) fun a15 H15 => ?_
        clear H14
        refine h_op (m' := [(43, _), (1, _), (2, _), (9, _), (10, _), (11, _), (12, _)]) H15 rfl (wn rfl) (R_mv H15 rfl rfl) rfl (.cons rfl (.cons rfl (.cons rfl (.cons rfl (.cons rfl (.cons rfl (.cons rfl .nil))))))) fun a16 H16 => ?_
        clear H15
        refine h_op (m' := [(44, _), (43, _), (1, _), (2, _), (9, _), (10, _), (11, _), (12, _)]) H16 rfl (H16.wt rfl rfl rfl) (R_mv H16 rfl rfl) rfl (.cons rfl (.cons rfl (.cons rfl (.cons rfl (.cons rfl (.cons rfl (.cons rfl (.cons rfl .nil)))))))) fun a17 H17 => ?_
        clear H16
        refine h_op (m' := [(45, _), (43, _), (1, _), (2, _), (9, _), (10, _), (11, _), (12, _)]) H17 rfl (H17.wt rfl rfl rfl) (R_bin H17 rfl rfl rfl (Bi_quo _ (by omega))) rfl (.cons rfl (.cons rfl (.cons rfl (.cons rfl (.cons rfl (.cons rfl (.cons rfl (.cons rfl .nil)))))))) fun a18 H18 => ?_
        clear H17
        refine h_op (m' := [(46, _), (45, _), (43, _), (1, _), (2, _), (9, _), (10, _), (11, _), (12, _)]) H18 rfl (H18.wt rfl rfl rfl) (R_mv H18 rfl rfl) rfl (.cons rfl (.cons rfl (.cons rfl (.cons rfl (.cons rfl (.cons rfl (.cons rfl (.cons rfl (.cons rfl .nil))))))))) fun a19 H19 => ?_
        clear H18
        refine h_op (m' := [(47, _), (45, _), (43, _), (1, _), (2, _), (9, _), (10, _), (11, _), (12, _)]) H19 rfl (H19.wt rfl rfl rfl) (R_lenS H19 rfl rfl Try.underlying38) rfl (.cons rfl (.cons rfl (.cons rfl (.cons rfl (.cons rfl (.cons rfl (.cons rfl (.cons rfl (.cons rfl .nil))))))))) fun a20 H20 => ?_
        clear H19
        refine h_op (m' := [(48, _), (43, _), (1, _), (2, _), (9, _), (10, _), (11, _), (12, _)]) H20 rfl (H20.wt rfl rfl rfl) (R_bin H20 rfl rfl rfl (B_to (y := true) (B_lt Try.underlying3 _ _) (decide_eq_true (by omega)))) rfl (.cons rfl (.cons rfl (.cons rfl (.cons rfl (.cons rfl (.cons rfl (.cons rfl (.cons rfl .nil)))))))) fun a21 H21 => ?_
        clear H20
        refine h_op (m' := [(49, _), (1, _), (2, _), (9, _), (10, _), (11, _), (12, _)]) H21 rfl (wn rfl) (R_pick H21 rfl rfl rfl) rfl (.cons rfl (.cons rfl (.cons rfl (.cons rfl (.cons rfl (.cons rfl (.cons rfl .nil))))))) fun a22 H22 => ?_
        clear H21
        refine h_end ?_
        repeat (go_not_at_region 15; go_step)
        refine wp_cond_true (H22.ev (x := .tmp 49) rfl) ?_
        repeat (go_not_at_region 15; go_step)
        obtain ⟨s1, s2, s3, s4⟩ := flip_step hx hq hv (by rw [hl]; exact hk)
        have hb8 : xs.getD ((p + i) / 8) 0 < 256 := by
          rw [List.getD_eq_getElem?_getD, List.getElem?_eq_getElem (by rw [hl]; exact hk)]
          exact hx _ (List.getElem_mem _)
        have hj8 : 2 ^ ((p + i) % 8) < 256 := Nat.lt_of_lt_of_le (Nat.pow_lt_pow_right (by decide) (Nat.mod_lt _ (by decide))) (Nat.le_refl (2 ^ 8))
        obtain ⟨w3, hst, hB3⟩ := hB.st (j := (p + i) / 8) (y := xs.getD ((p + i) / 8) 0 ^^^ 2 ^ ((p + i) % 8)) (by rw [hl]; exact hk)
        refine wp_region_lit ?_
        refine h_op (m' := [(50, _), (1, _), (2, _), (9, _), (10, _), (11, _), (12, _)]) H22 rfl (wn rfl) (R_mv H22 rfl rfl) rfl (.cons rfl (.cons rfl (.cons rfl (.cons rfl (.cons rfl (.cons rfl (.cons rfl .nil))))))) fun a23 H23 => ?_
        clear H22
        refine h_op (m' := [(51, _), (50, _), (1, _), (2, _), (9, _), (10, _), (11, _), (12, _)]) H23 rfl (wn rfl) (R_mv H23 rfl rfl) rfl (.cons rfl (.cons rfl (.cons rfl (.cons rfl (.cons rfl (.cons rfl (.cons rfl (.cons rfl .nil)))))))) fun a24 H24 => ?_
        clear H23
        refine h_op (m' := [(52, _), (50, _), (1, _), (2, _), (9, _), (10, _), (11, _), (12, _)]) H24 rfl (wn rfl) (R_bin H24 rfl rfl rfl (Bi_quo _ (by omega))) rfl (.cons rfl (.cons rfl (.cons rfl (.cons rfl (.cons rfl (.cons rfl (.cons rfl (.cons rfl .nil)))))))) fun a25 H25 => ?_
        clear H24
        refine h_op (m' := [(53, _), (52, _), (50, _), (1, _), (2, _), (9, _), (10, _), (11, _), (12, _)]) H25 rfl (wn rfl) (R_mv H25 rfl rfl) rfl (.cons rfl (.cons rfl (.cons rfl (.cons rfl (.cons rfl (.cons rfl (.cons rfl (.cons rfl (.cons rfl .nil))))))))) fun a26 H26 => ?_
        clear H25
        refine h_op (m' := [(54, _), (53, _), (52, _), (50, _), (1, _), (2, _), (9, _), (10, _), (11, _), (12, _)]) H26 rfl (wn rfl) (R_mv H26 rfl rfl) rfl (.cons rfl (.cons rfl (.cons rfl (.cons rfl (.cons rfl (.cons rfl (.cons rfl (.cons rfl (.cons rfl (.cons rfl .nil)))))))))) fun a27 H27 => ?_
        clear H26
        refine h_op (m' := [(55, _), (53, _), (52, _), (50, _), (1, _), (2, _), (9, _), (10, _), (11, _), (12, _)]) H27 rfl (wn rfl) (R_bin H27 rfl rfl rfl (Bi_quo _ (by omega))) rfl (.cons rfl (.cons rfl (.cons rfl (.cons rfl (.cons rfl (.cons rfl (.cons rfl (.cons rfl (.cons rfl (.cons rfl .nil)))))))))) fun a28 H28 => ?_
        clear H27
        refine h_op (m' := [(56, _), (52, _), (50, _), (1, _), (2, _), (9, _), (10, _), (11, _), (12, _)]) H28 rfl (wn rfl) (R_ixa H28 rfl rfl rfl (ix8_at hk)) rfl (.cons rfl (.cons rfl (.cons rfl (.cons rfl (.cons rfl (.cons rfl (.cons rfl (.cons rfl (.cons rfl .nil))))))))) fun a29 H29 => ?_
        clear H28
        refine h_op (m' := [(57, _), (52, _), (50, _), (1, _), (2, _), (9, _), (10, _), (11, _), (12, _)]) H29 rfl (wn rfl) (R_ld H29 rfl rfl (hB.ld (by rw [hl]; exact hk))) rfl (.cons rfl (.cons rfl (.cons rfl (.cons rfl (.cons rfl (.cons rfl (.cons rfl (.cons rfl (.cons rfl .nil))))))))) fun a30 H30 => ?_
        clear H29
        refine h_op (m' := [(58, _), (57, _), (52, _), (50, _), (1, _), (2, _), (9, _), (10, _), (11, _)]) H30 rfl (wn rfl) (R_mv H30 rfl rfl) rfl (.cons rfl (.cons rfl (.cons rfl (.cons rfl (.cons rfl (.cons rfl (.cons rfl (.cons rfl (.cons rfl .nil))))))))) fun a31 H31 => ?_
        clear H30
        refine h_op (m' := [(59, _), (57, _), (52, _), (50, _), (1, _), (2, _), (9, _), (10, _), (11, _)]) H31 rfl (wn rfl) (R_bin H31 rfl rfl rfl (Bi_rem _ (by omega))) rfl (.cons rfl (.cons rfl (.cons rfl (.cons rfl (.cons rfl (.cons rfl (.cons rfl (.cons rfl (.cons rfl .nil))))))))) fun a32 H32 => ?_
        clear H31
        refine h_op (m' := [(60, _), (57, _), (52, _), (50, _), (1, _), (2, _), (9, _), (10, _), (11, _)]) H32 rfl (wn rfl) (R_cv H32 rfl rfl (cvi_u _ (by omega))) rfl (.cons rfl (.cons rfl (.cons rfl (.cons rfl (.cons rfl (.cons rfl (.cons rfl (.cons rfl (.cons rfl .nil))))))))) fun a33 H33 => ?_
        clear H32
        refine h_op (m' := [(61, _), (57, _), (52, _), (50, _), (1, _), (2, _), (9, _), (10, _), (11, _)]) H33 rfl (wn rfl) (R_bin H33 rfl rfl rfl (B8_shl _ (Nat.mod_lt _ (by decide)))) rfl (.cons rfl (.cons rfl (.cons rfl (.cons rfl (.cons rfl (.cons rfl (.cons rfl (.cons rfl (.cons rfl .nil))))))))) fun a34 H34 => ?_
        clear H33
        refine h_op (m' := [(62, _), (52, _), (50, _), (1, _), (2, _), (9, _), (10, _), (11, _)]) H34 rfl (wn rfl) (R_bin H34 rfl rfl rfl (B8_xorN _ _ hb8 hj8)) rfl (.cons rfl (.cons rfl (.cons rfl (.cons rfl (.cons rfl (.cons rfl (.cons rfl (.cons rfl .nil)))))))) fun a35 H35 => ?_
        clear H34
        refine h_op (m' := [(63, _), (62, _), (1, _), (2, _), (9, _), (10, _), (11, _)]) H35 rfl (wn rfl) (R_ixa H35 rfl rfl rfl (ix8_at hk)) rfl (.cons rfl (.cons rfl (.cons rfl (.cons rfl (.cons rfl (.cons rfl (.cons rfl .nil))))))) fun a36 H36 => ?_
        clear H35
        refine h_st H36 rfl (wn rfl) (R_st H36 rfl rfl rfl hst) fun a37 H37 => ?_
        clear H36
        refine h_end ?_
        repeat (go_not_at_region 16; go_step)
        refine wp_region_lit ?_
        refine h_op (m' := [(10, _), (1, _), (2, _), (9, _), (11, _)]) H37 rfl (wn rfl) (R_as H37 rfl rfl) rfl (.cons rfl (.cons rfl (.cons rfl (.cons rfl (.cons rfl .nil))))) fun a38 H38 => ?_
        clear H37
        refine h_end ?_
        repeat (go_not_at_region 12; go_step)
        refine wp_region_lit ?_
        refine h_op (m' := [(30, _), (10, _), (1, _), (2, _), (9, _), (11, _)]) H38 rfl (wn rfl) (R_mv H38 rfl rfl) rfl (.cons rfl (.cons rfl (.cons rfl (.cons rfl (.cons rfl (.cons rfl .nil)))))) fun a39 H39 => ?_
        clear H38
        refine h_op (m' := [(31, _), (10, _), (1, _), (2, _), (9, _), (11, _)]) H39 rfl (wn rfl) (R_bin H39 rfl rfl rfl (Bi_addN i 1 (by omega))) rfl (.cons rfl (.cons rfl (.cons rfl (.cons rfl (.cons rfl (.cons rfl .nil)))))) fun a40 H40 => ?_
        clear H39
        refine h_op (m' := [(11, _), (10, _), (1, _), (2, _), (9, _)]) H40 rfl (wn rfl) (R_as H40 rfl rfl) rfl (.cons rfl (.cons rfl (.cons rfl (.cons rfl (.cons rfl .nil))))) fun a41 H41 => ?_
        clear H40
        refine h_end ?_
        repeat (go_not_at_region 999; go_step)
        refine ⟨32 - (i + 1), by omega, (HI.out _ _ _).2 ⟨i + 1, _, _, rfl, hi2, by rw [List.length_set, hl], s1, s2, s4, ?_, hB3⟩⟩
        have e : (decide (q ^^^ 2 ^ i ≠ 0)) = true := decide_eq_true s3
        rw [e]
        exact H41.pick _ (.cons rfl (.cons rfl (.cons rfl (.cons rfl (.cons rfl .nil)))))
      · refine wp_region_lit ?_
        refine h_op (m' := [(37, _), (1, _), (2, _), (9, _), (10, _), (11, _), (12, _)]) H9 rfl (wn rfl) (R_mv H9 rfl rfl) rfl (.cons rfl (.cons rfl (.cons rfl (.cons rfl (.cons rfl (.cons rfl (.cons rfl .nil))))))) fun a10 H10 => ?_
        clear H9
        refine h_op (m' := [(38, _), (37, _), (1, _), (2, _), (9, _), (10, _), (11, _), (12, _)]) H10 rfl (wn rfl) (R_mv H10 rfl rfl) rfl (.cons rfl (.cons rfl (.cons rfl (.cons rfl (.cons rfl (.cons rfl (.cons rfl (.cons rfl .nil)))))))) fun a11 H11 => ?_
        clear H10
        refine h_op (m' := [(39, _), (37, _), (1, _), (2, _), (9, _), (10, _), (11, _), (12, _)]) H11 rfl (wn rfl) (R_cv H11 rfl rfl (cvi_u _ (by omega))) rfl (.cons rfl (.cons rfl (.cons rfl (.cons rfl (.cons rfl (.cons rfl (.cons rfl (.cons rfl .nil)))))))) fun a12 H12 => ?_
        clear H11
        refine h_op (m' := [(40, _), (1, _), (2, _), (9, _), (10, _), (11, _), (12, _)]) H12 rfl (wn rfl) (R_bin H12 rfl rfl rfl (B32_shr _ _ hi2)) rfl (.cons rfl (.cons rfl (.cons rfl (.cons rfl (.cons rfl (.cons rfl (.cons rfl .nil))))))) fun a13 H13 => ?_
        clear H12
        refine h_op (m' := [(41, _), (1, _), (2, _), (9, _), (10, _), (11, _), (12, _)]) H13 rfl (wn rfl) (R_bin H13 rfl rfl rfl (B32_and1 _ (Nat.lt_of_le_of_lt (Nat.div_le_self _ _) hpt))) rfl (.cons rfl (.cons rfl (.cons rfl (.cons rfl (.cons rfl (.cons rfl (.cons rfl .nil))))))) fun a14 H14 => ?_
        clear H13
        refine h_op (m' := [(42, _), (1, _), (2, _), (9, _), (10, _), (11, _), (12, _)]) H14 rfl (wn rfl) (R_bin H14 rfl rfl rfl (B_to (y := true) (B32_eq1 _) (decide_eq_true ht))) rfl (.cons rfl (.cons rfl (.cons rfl (.cons rfl (.cons rfl (.cons rfl (.cons rfl .nil))))))) fun a15 H15 => ?_
        clear H14
        refine h_op (m' := [(43, _), (1, _), (2, _), (9, _), (10, _), (11, _), (12, _)]) H15 rfl (wn rfl) (R_mv H15 rfl rfl) rfl (.cons rfl (.cons rfl (.cons rfl (.cons rfl (.cons rfl (.cons rfl (.cons rfl .nil))))))) fun a16 H16 => ?_
        clear H15
        refine h_op (m' := [(44, _), (43, _), (1, _), (2, _), (9, _), (10, _), (11, _)]) H16 rfl (H16.wt rfl rfl rfl) (R_mv H16 rfl rfl) rfl (.cons rfl (.cons rfl (.cons rfl (.cons rfl (.cons rfl (.cons rfl (.cons rfl .nil))))))) fun a17 H17 => ?_
        clear H16
        refine h_op (m' := [(45, _), (43, _), (1, _), (2, _), (9, _), (10, _), (11, _)]) H17 rfl (H17.wt rfl rfl rfl) (R_bin H17 rfl rfl rfl (Bi_quo _ (by omega))) rfl (.cons rfl (.cons rfl (.cons rfl (.cons rfl (.cons rfl (.cons rfl (.cons rfl .nil))))))) fun a18 H18 => ?_
        clear H17
        refine h_op (m' := [(46, _), (45, _), (43, _), (1, _), (2, _), (9, _), (10, _), (11, _)]) H18 rfl (H18.wt rfl rfl rfl) (R_mv H18 rfl rfl) rfl (.cons rfl (.cons rfl (.cons rfl (.cons rfl (.cons rfl (.cons rfl (.cons rfl (.cons rfl .nil)))))))) fun a19 H19 => ?_
        clear H18
        refine h_op (m' := [(47, _), (45, _), (43, _), (1, _), (2, _), (9, _), (10, _), (11, _)]) H19 rfl (H19.wt rfl rfl rfl) (R_lenS H19 rfl rfl Try.underlying38) rfl (.cons rfl (.cons rfl (.cons rfl (.cons rfl (.cons rfl (.cons rfl (.cons rfl (.cons rfl .nil)))))))) fun a20 H20 => ?_
        clear H19
        refine h_op (m' := [(48, _), (43, _), (1, _), (2, _), (9, _), (10, _), (11, _)]) H20 rfl (H20.wt rfl rfl rfl) (R_bin H20 rfl rfl rfl (B_to (y := false) (B_lt Try.underlying3 _ _) (decide_eq_false (by omega)))) rfl (.cons rfl (.cons rfl (.cons rfl (.cons rfl (.cons rfl (.cons rfl (.cons rfl .nil))))))) fun a21 H21 => ?_
        clear H20
        refine h_op (m' := [(49, _), (1, _), (2, _), (9, _), (10, _), (11, _)]) H21 rfl (wn rfl) (R_pick H21 rfl rfl rfl) rfl (.cons rfl (.cons rfl (.cons rfl (.cons rfl (.cons rfl (.cons rfl .nil)))))) fun a22 H22 => ?_
        clear H21
        refine h_end ?_
        repeat (go_not_at_region 12; go_step)
        refine wp_cond_false (H22.ev (x := .tmp 49) rfl) ?_
        repeat (go_not_at_region 12; go_step)
        refine wp_region_lit ?_
        refine h_op (m' := [(30, _), (1, _), (2, _), (9, _), (10, _), (11, _)]) H22 rfl (wn rfl) (R_mv H22 rfl rfl) rfl (.cons rfl (.cons rfl (.cons rfl (.cons rfl (.cons rfl (.cons rfl .nil)))))) fun a23 H23 => ?_
        clear H22
        refine h_op (m' := [(31, _), (1, _), (2, _), (9, _), (10, _), (11, _)]) H23 rfl (wn rfl) (R_bin H23 rfl rfl rfl (Bi_addN i 1 (by omega))) rfl (.cons rfl (.cons rfl (.cons rfl (.cons rfl (.cons rfl (.cons rfl .nil)))))) fun a24 H24 => ?_
        clear H23
        refine h_op (m' := [(11, _), (1, _), (2, _), (9, _), (10, _)]) H24 rfl (wn rfl) (R_as H24 rfl rfl) rfl (.cons rfl (.cons rfl (.cons rfl (.cons rfl (.cons rfl .nil))))) fun a25 H25 => ?_
        clear H24
        refine h_end ?_
        repeat (go_not_at_region 999; go_step)
        refine ⟨32 - (i + 1), by omega, (HI.out _ _ _).2 ⟨i + 1, xs, q, rfl, hi2, hl, hx, Nat.lt_of_lt_of_le hq (Nat.pow_le_pow_right (by decide) (by omega)), hv, H25.pick _ (.cons rfl (.cons rfl (.cons rfl (.cons rfl (.cons rfl .nil))))), hB⟩⟩
    · refine wp_region_lit ?_
      refine h_op (m' := [(37, _), (1, _), (2, _), (9, _), (10, _), (11, _), (12, _)]) H9 rfl (wn rfl) (R_mv H9 rfl rfl) rfl (.cons rfl (.cons rfl (.cons rfl (.cons rfl (.cons rfl (.cons rfl (.cons rfl .nil))))))) fun a10 H10 => ?_
      clear H9
      refine h_op (m' := [(38, _), (37, _), (1, _), (2, _), (9, _), (10, _), (11, _), (12, _)]) H10 rfl (wn rfl) (R_mv H10 rfl rfl) rfl (.cons rfl (.cons rfl (.cons rfl (.cons rfl (.cons rfl (.cons rfl (.cons rfl (.cons rfl .nil)))))))) fun a11 H11 => ?_
      clear H10
      refine h_op (m' := [(39, _), (37, _), (1, _), (2, _), (9, _), (10, _), (11, _), (12, _)]) H11 rfl (wn rfl) (R_cv H11 rfl rfl (cvi_u _ (by omega))) rfl (.cons rfl (.cons rfl (.cons rfl (.cons rfl (.cons rfl (.cons rfl (.cons rfl (.cons rfl .nil)))))))) fun a12 H12 => ?_
      clear H11
      refine h_op (m' := [(40, _), (1, _), (2, _), (9, _), (10, _), (11, _), (12, _)]) H12 rfl (wn rfl) (R_bin H12 rfl rfl rfl (B32_shr _ _ hi2)) rfl (.cons rfl (.cons rfl (.cons rfl (.cons rfl (.cons rfl (.cons rfl (.cons rfl .nil))))))) fun a13 H13 => ?_
      clear H12
      refine h_op (m' := [(41, _), (1, _), (2, _), (9, _), (10, _), (11, _), (12, _)]) H13 rfl (wn rfl) (R_bin H13 rfl rfl rfl (B32_and1 _ (Nat.lt_of_le_of_lt (Nat.div_le_self _ _) hpt))) rfl (.cons rfl (.cons rfl (.cons rfl (.cons rfl (.cons rfl (.cons rfl (.cons rfl .nil))))))) fun a14 H14 => ?_
      clear H13
      refine h_op (m' := [(42, _), (1, _), (2, _), (9, _), (10, _), (11, _), (12, _)]) H14 rfl (wn rfl) (R_bin H14 rfl rfl rfl (B_to (y := false) (B32_eq1 _) (decide_eq_false ht))) rfl (.cons rfl (.cons rfl (.cons rfl (.cons rfl (.cons rfl (.cons rfl (.cons rfl .nil))))))) fun a15 H15 => ?_
      clear H14
      refine h_op (m' := [(43, _), (1, _), (2, _), (9, _), (10, _), (11, _), (12, _)]) H15 rfl (wn rfl) (R_mv H15 rfl rfl) rfl (.cons rfl (.cons rfl (.cons rfl (.cons rfl (.cons rfl (.cons rfl (.cons rfl .nil))))))) fun a16 H16 => ?_
      clear H15
      refine h_skip (m' := [(43, _), (1, _), (2, _), (9, _), (10, _), (11, _)]) H16 rfl (H16.wf rfl rfl rfl) rfl (.cons rfl (.cons rfl (.cons rfl (.cons rfl (.cons rfl (.cons rfl .nil)))))) fun a17 H17 => ?_
      clear H16
      refine h_skip (m' := [(43, _), (1, _), (2, _), (9, _), (10, _), (11, _)]) H17 rfl (H17.wf rfl rfl rfl) rfl (.cons rfl (.cons rfl (.cons rfl (.cons rfl (.cons rfl (.cons rfl .nil)))))) fun a18 H18 => ?_
      clear H17
      refine h_skip (m' := [(43, _), (1, _), (2, _), (9, _), (10, _), (11, _)]) H18 rfl (H18.wf rfl rfl rfl) rfl (.cons rfl (.cons rfl (.cons rfl (.cons rfl (.cons rfl (.cons rfl .nil)))))) fun a19 H19 => ?_
      clear H18
      refine h_skip (m' := [(43, _), (1, _), (2, _), (9, _), (10, _), (11, _)]) H19 rfl (H19.wf rfl rfl rfl) rfl (.cons rfl (.cons rfl (.cons rfl (.cons rfl (.cons rfl (.cons rfl .nil)))))) fun a20 H20 => ?_
      clear H19
      refine h_skip (m' := [(43, _), (1, _), (2, _), (9, _), (10, _), (11, _)]) H20 rfl (H20.wf rfl rfl rfl) rfl (.cons rfl (.cons rfl (.cons rfl (.cons rfl (.cons rfl (.cons rfl .nil)))))) fun a21 H21 => ?_
      clear H20
      refine h_op (m' := [(49, _), (1, _), (2, _), (9, _), (10, _), (11, _)]) H21 rfl (wn rfl) (R_pick H21 rfl rfl rfl) rfl (.cons rfl (.cons rfl (.cons rfl (.cons rfl (.cons rfl (.cons rfl .nil)))))) fun a22 H22 => ?_
      clear H21
      refine h_end ?_
      repeat (go_not_at_region 12; go_step)
      refine wp_cond_false (H22.ev (x := .tmp 49) rfl) ?_
      repeat (go_not_at_region 12; go_step)
      refine wp_region_lit ?_
      refine h_op (m' := [(30, _), (1, _), (2, _), (9, _), (10, _), (11, _)]) H22 rfl (wn rfl) (R_mv H22 rfl rfl) rfl (.cons rfl (.cons rfl (.cons rfl (.cons rfl (.cons rfl (.cons rfl .nil)))))) fun a23 H23 => ?_
      clear H22
      refine h_op (m' := [(31, _), (1, _), (2, _), (9, _), (10, _), (11, _)]) H23 rfl (wn rfl) (R_bin H23 rfl rfl rfl (Bi_addN i 1 (by omega))) rfl (.cons rfl (.cons rfl (.cons rfl (.cons rfl (.cons rfl (.cons rfl .nil)))))) fun a24 H24 => ?_
      clear H23
      refine h_op (m' := [(11, _), (1, _), (2, _), (9, _), (10, _)]) H24 rfl (wn rfl) (R_as H24 rfl rfl) rfl (.cons rfl (.cons rfl (.cons rfl (.cons rfl (.cons rfl .nil))))) fun a25 H25 => ?_
      clear H24
      refine h_end ?_
      repeat (go_not_at_region 999; go_step)
      refine ⟨32 - (i + 1), by omega, (HI.out _ _ _).2 ⟨i + 1, xs, q, rfl, hi2, hl, hx, Nat.lt_of_lt_of_le hq (Nat.pow_le_pow_right (by decide) (by omega)), hv, H25.pick _ (.cons rfl (.cons rfl (.cons rfl (.cons rfl (.cons rfl .nil))))), hB⟩⟩
  · obtain rfl : i = 32 := by omega
    repeat (go_not_at_region 11; go_step)
    refine wp_region_lit ?_
    refine h_op (m' := [(28, _), (1, _), (2, _), (9, _), (10, _), (11, _)]) H0 rfl (wn rfl) (R_mv H0 rfl rfl) rfl (.cons rfl (.cons rfl (.cons rfl (.cons rfl (.cons rfl (.cons rfl .nil)))))) fun a1 H1 => ?_
    clear H0
    refine h_op (m' := [(29, _), (1, _), (2, _), (9, _), (10, _), (11, _)]) H1 rfl (wn rfl) (R_bin H1 rfl rfl rfl (B_to (y := false) (B_lt Try.underlying3 _ _) (decide_eq_false (by omega)))) rfl (.cons rfl (.cons rfl (.cons rfl (.cons rfl (.cons rfl (.cons rfl .nil)))))) fun a2 H2 => ?_
    clear H1
    refine h_end ?_
    repeat (go_not_at_region 17; go_step)
    refine wp_cond_false (H2.ev (x := .tmp 29) rfl) ?_
    have hq2 : q < 4294967296 := hq
    obtain ⟨y, hy⟩ : ∃ y, y = packL xs := ⟨_, rfl⟩
    have hcb := hB.back hx hl c
    have hot := of_turned hw ho hl hx hq2 hv
    have hys : y.size < 140737488351233 := by rw [hy, packL_size, hl]; omega
    have hL := hB.1
    rw [← hy] at hcb hot
    have hans : (decide (q ≠ 0) == (errO y != 0)) = true := by
      unfold errO
      rcases hot with ⟨h0, hh⟩ | ⟨h0, f, hf, hh⟩
      · rw [hh, h0]; rfl
      · rw [hh]
        have e1 : decide (q ≠ 0) = true := decide_eq_true h0
        have e2 : (f != 0) = true := bne_iff_ne.2 hf
        show (decide (q ≠ 0) == (f != 0)) = true
        rw [e1, e2]; rfl
    clear hot hy hB hv hq hq2
    repeat (go_not_at_region 17; go_step)
    refine wp_region_lit ?_
    refine h_op (m' := [(65, _), (10, _)]) H2 rfl (wn rfl) (R_mv H2 rfl rfl) rfl (.cons rfl (.cons rfl .nil)) fun a3 H3 => ?_
    clear H2
    refine h_op (m' := [(66, _), (10, _)]) H3 rfl (wn rfl) (R_cv H3 rfl rfl hcb) rfl (.cons rfl (.cons rfl .nil)) fun a4 H4 => ?_
    clear H3
    refine h_call H4 rfl (wn rfl) (R_call1 H4 rfl rfl (fun w => by simp [go_sem])) rfl ?_
    refine (Of_e hys hL).mono ?_
    rintro e wx ⟨vo, vs, Ro, Rs, rfl, ho, hs, hL2, lo, ls⟩
    replace hL := hL2
    clear hL2
    refine ⟨_, rfl, fun a5 HH => ?_⟩
    have H5 := HH [(67, _), (10, _)] (.cons rfl (.cons rfl .nil))
    clear HH H4
    refine h_op (m' := [(64, _), (10, _)]) H5 rfl (wn rfl) (R_mv H5 rfl rfl) rfl (.cons rfl (.cons rfl .nil)) fun a6 H6 => ?_
    clear H5
    refine h_op (m' := [(68, _), (64, _), (10, _)]) H6 rfl (wn rfl) (R_ext H6 rfl rfl rfl) rfl (.cons rfl (.cons rfl (.cons rfl .nil))) fun a7 H7 => ?_
    clear H6
    refine h_op (m' := [(69, _), (68, _), (10, _)]) H7 rfl (wn rfl) (R_ext H7 rfl rfl rfl) rfl (.cons rfl (.cons rfl (.cons rfl .nil))) fun a8 H8 => ?_
    clear H7
    refine h_op (m' := [(13, _), (69, _), (68, _), (10, _)]) H8 rfl (wn rfl) (R_alloc rfl al_row) rfl (.cons rfl (.cons rfl (.cons rfl (.cons rfl .nil)))) fun a9 H9 => ?_
    clear H8
    replace hL := hL.alloc zcells 29
    have hst := hL.at_
    have hone : (mcells (backO y) vo vs).all (·.oneCell') = true := mcells_one (slot_one ho) (slot_one hs)
    refine h_st H9 rfl (wn rfl) (R_st H9 rfl rfl rfl (st_row hst hone)) fun a10 H10 => ?_
    clear H9
    replace hL := hL.row (mcells (backO y) vo vs)
    clear hst hone
    refine h_op (m' := [(14, _), (10, _)]) H10 rfl (wn rfl) (R_as H10 rfl rfl) rfl (.cons rfl (.cons rfl .nil)) fun a11 H11 => ?_
    clear H10
    refine h_end ?_
    repeat (go_not_at_region 18; go_step)
    refine wp_region_lit ?_
    refine h_op (m' := [(70, _), (14, _)]) H11 rfl (wn rfl) (R_mv H11 rfl rfl) rfl (.cons rfl (.cons rfl .nil)) fun a12 H12 => ?_
    clear H11
    refine h_op (m' := [(71, _), (70, _)]) H12 rfl (wn rfl) (R_mv H12 rfl rfl) rfl (.cons rfl (.cons rfl .nil)) fun a13 H13 => ?_
    clear H12
    refine h_op (m' := [(72, _), (70, _)]) H13 rfl (wn rfl) (R_bin H13 rfl rfl rfl (B_ne Try.underlying33 _ _)) rfl (.cons rfl (.cons rfl .nil)) fun a14 H14 => ?_
    clear H13
    refine h_op (m' := [(73, _)]) H14 rfl (wn rfl) (R_bin H14 rfl rfl rfl (B_to (Bb_eq _ _) hans)) rfl (.cons rfl .nil) fun a15 H15 => ?_
    clear H14
    refine h_op (m' := [(6, _)]) H15 rfl (wn rfl) (R_as H15 rfl rfl) rfl (.cons rfl .nil) fun a16 H16 => ?_
    clear H15
    refine h_end ?_
    repeat (go_not_at_region 999; go_step)
    refine H16.ret1 (v := .bool true) rfl rfl ?_
    exact ⟨rfl, hL.1⟩
end
end Go.Proofs.Ytmmhchpilcjflaa
