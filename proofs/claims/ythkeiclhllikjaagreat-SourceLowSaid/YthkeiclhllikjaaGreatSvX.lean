/-
  SourceLow: its walk.
-/
import Derived.Test.YthkeiclhllikjaaGreatSvV
set_option linter.unusedSimpArgs false
set_option linter.unusedVariables false
namespace Go.Proofs.YthkeiclhllikjaaGreat
open Go.RowKit
section
variable {S : PSrc} {n : Int} {k : Nat}
theorem ans_len {c : Int} {k : Int} : (ansM S k c).1.L.length = S.L.length := by
  unfold ansM
  split
  · rfl
  · show (setA S.L k c).length = _
    exact setA_len
theorem ans_code (h1 : 1 ≤ k) (h2 : k ≤ S.L.length) : codeN (ansM S (k : Nat) 2).1.L (k : Nat) ≠ 0 := by
  unfold ansM
  by_cases ho : openB S.L (k : Nat) = true
  · rw [if_neg (by rw [ho]; decide)]
    show codeN (setA S.L (k : Nat) 2) (k : Nat) ≠ 0
    obtain ⟨i, y, hi, hk, e⟩ := setA_eq (c := 2) ho
    rw [e, codeN_set hi, if_pos hk]
    decide
  · rw [if_pos (by simp [ho])]
    intro h0
    exact ho (openB_iff.2 ⟨by omega, h0⟩)
theorem one_0 {x : PAct} (h : x.do_ = 0) : (sendM S x.item).1 = (oneM S n x).1 := by unfold oneM; rw [if_pos h]
theorem one_1 {x : PAct} (h0 : ¬ x.do_ = 0) (h : x.do_ = 1) : (handleM S x.msg).1 = (oneM S n x).1 := by unfold oneM; rw [if_neg h0, if_pos h]
theorem one_2 {x : PAct} (h0 : ¬ x.do_ = 0) (h1 : ¬ x.do_ = 1) (h : x.do_ = 2) : (handleM S (ansMsg n ((lowN S.L : Nat) + x.of_.tmod 16) x.code)).1 = (oneM S n x).1 := by unfold oneM; rw [if_neg h0, if_neg h1, if_pos h]
theorem one_3 {x : PAct} (h0 : ¬ x.do_ = 0) (h1 : ¬ x.do_ = 1) (h : ¬ x.do_ = 2) : S = (oneM S n x).1 := by unfold oneM; rw [if_neg h0, if_neg h1, if_neg h]
theorem OneK.of_eq {w0 w : World} {p bo ba : Nat} {S S' : PSrc} {K : List Thg} (h : OneK w0 p bo ba S K w) (e : S = S') : OneK w0 p bo ba S' K w := e ▸ h
theorem low_0 {n : Int} {i : Nat} : LowI ⟨n, T5, []⟩ n i := ⟨⟨rfl, rfl, Nat.zero_le _, fun q hq => (by cases hq)⟩, by kernel_rfl, rfl, fun q hq => (by cases hq), by show 0 < 1 + 16; decide, fun j p hp => (by simp at hp)⟩
end
section
variable {W : World}
set_option maxRecDepth 100000 in
set_option maxHeartbeats 4000000 in
theorem low_law {n0 : Nat} {l : List PAct} {v : Value} (hn0 : n0 < 256) (hl : RdC W 33 v (l.map actC)) (hok : ∀ x ∈ l, x.OkA W) (hll : l.length ≤ maxLen) :
    Calls Tryz.prog 4 #[.int .u8 (n0 : Nat), v] W fun e W' => e = .returned (.bool true) ∧ Below W.heap.size W W' := by
  have hlw : ∀ w, Below W.heap.size W w → RdC w 33 v (l.map actC) := fun w hb => hl.kept fun k hk => hb.block k hk
  have hokw : ∀ w, Below W.heap.size W w → ∀ x ∈ l, x.OkA w := fun w hb x hx => (hok x hx).kept hb
  obtain ⟨A1, c1, rfl⟩ := hl.slc
  rw [List.length_map] at hlw
  rw [List.length_map]
  clear hl
  have ml : maxLen ≤ 9223372036854775807 := by unfold maxLen; omega
  have hn4 : n0 % 4 < 4 := Nat.mod_lt _ (by decide)
  have hL := LV.init W
  go_enter Tryz.func4, Tryz.ntmps4
  refine wp_fr (n := 108) (m := [(0, _), (1, _)]) ⟨rfl, rfl, by intro p hp; simp only [List.mem_cons, List.not_mem_nil, or_false] at hp; rcases hp with rfl | rfl <;> rfl⟩ fun a0 H0 => ?_
  repeat (go_not_at_region 0; go_step)
  refine wp_region_lit ?_
  refine h_op H0 rfl (wn rfl) (R_as H0 rfl rfl) rfl (P2 0 1 rfl rfl) fun a1 H1 => ?_
  clear H0
  refine h_end ?_
  repeat (go_not_at_region 1; go_step)
  refine wp_region_lit ?_
  refine h_call H1 rfl (wn rfl) (R_call0 H1 rfl (fun w => by simp [go_sem])) rfl ?_
  refine awake_ok.mono ?_
  rintro e w2 ⟨rfl, hb⟩
  replace hL := hL.call hb
  clear hb
  refine ⟨_, rfl, fun a2 HH => ?_⟩
  have H2 := HH _ (P3 12 0 1 rfl rfl rfl)
  clear HH H1
  refine h_op H2 rfl (wn rfl) (R_not H2 rfl rfl) rfl (P3 13 0 1 rfl rfl rfl) fun a3 H3 => ?_
  clear H2
  refine h_end ?_
  repeat (go_not_at_region 3; go_step)
  refine wp_cond_false (H3.ev (x := .tmp 13) rfl) ?_
  repeat (go_not_at_region 3; go_step)
  refine wp_region_lit ?_
  refine h_op H3 rfl (wn rfl) (R_mv H3 rfl rfl) rfl (P3 14 0 1 rfl rfl rfl) fun a4 H4 => ?_
  clear H3
  refine h_call H4 rfl (wn rfl) (R_call1 H4 rfl rfl (fun w => by simp [go_sem])) rfl ?_
  refine (great_any (hlw _ hL.1) (hokw _ hL.1) hll).mono ?_
  rintro e w5 ⟨b, rfl, hb, hsm⟩
  replace hL := hL.call hb
  clear hb
  refine ⟨_, rfl, fun a5 HH => ?_⟩
  have H5 := HH _ (P3 15 0 1 rfl rfl rfl)
  clear HH H4
  refine h_end ?_
  cases b
  rotate_left
  · repeat (go_not_at_region 4; go_step)
    refine wp_cond_true (H5.ev (x := .tmp 15) rfl) ?_
    repeat (go_not_at_region 4; go_step)
    refine wp_region_lit ?_
    refine h_op H5 rfl (wn rfl) (R_as H5 rfl rfl) rfl (P1 4 rfl) fun a6 H6 => ?_
    clear H5
    refine h_end ?_
    repeat (go_not_at_region 999; go_step)
    exact H6.ret1 rfl rfl ⟨rfl, hL.1⟩
  obtain ⟨h200, hsmall⟩ := hsm rfl
  clear hsm
  repeat (go_not_at_region 5; go_step)
  refine wp_cond_false (H5.ev (x := .tmp 15) rfl) ?_
  repeat (go_not_at_region 5; go_step)
  refine wp_region_lit ?_
  refine h_op H5 rfl (wn rfl) (R_mv H5 rfl rfl) rfl (P2 16 1 rfl rfl) fun a6 H6 => ?_
  clear H5
  refine h_op H6 rfl (wn rfl) (R_bin H6 rfl rfl rfl (B8_remN _ 4 (by decide) hn0)) rfl (P2 17 1 rfl rfl) fun a7 H7 => ?_
  clear H6
  refine h_op H7 rfl (wn rfl) (R_cv H7 rfl rfl (cv_u8i (Nat.lt_of_lt_of_le hn4 (by decide)))) rfl (P2 18 1 rfl rfl) fun a8 H8 => ?_
  clear H7
  refine h_op H8 rfl (wn rfl) (R_as H8 rfl rfl) rfl (P2 5 1 rfl rfl) fun a9 H9 => ?_
  clear H8
  refine h_end ?_
  repeat (go_not_at_region 6; go_step)
  refine wp_region_lit ?_
  refine h_op H9 rfl (wn rfl) (R_mv H9 rfl rfl) rfl (P3 20 5 1 rfl rfl rfl) fun a10 H10 => ?_
  clear H9
  refine h_opS [bk (w5.heap.size) row5 3] H10 rfl (wn rfl) (R_bs5 H10 rfl rfl rfl rfl rfl rfl bs_5) (hL.alloc _ _) rfl (P4 21 20 5 1 rfl rfl rfl rfl) fun a11 w11 H11 hL' => ?_
  replace hL := hL'
  clear H10 hL'
  refine h_op H11 rfl (wn rfl) (R_bd3 H11 rfl rfl rfl rfl (bd_tb (o := T5.own))) rfl (P4 22 20 5 1 rfl rfl rfl rfl) fun a12 H12 => ?_
  clear H11
  refine h_call H12 rfl (wn rfl) (R_call2 H12 rfl rfl rfl (fun w => by simp [go_sem])) rfl ?_
  refine (new_any (t := T5) (src := ((n0 % 4 : Nat) : Int)) (rd_row (L := []) row5_is _ hL) (by decide)).mono ?_
  rintro e w13 ⟨hA, _⟩
  obtain ⟨va, Ra, p, oa, aa, rfl, hra, hL3⟩ := hA (newB5 hn4)
  clear hA
  have hT : OneK W p oa aa (⟨((n0 % 4 : Nat) : Int), T5, []⟩ : PSrc) [] w13 := ⟨va, lift Ra ++ [bk w5.heap.size row5 3], hL.joinV hL3, fun w h => rd_row hra w h⟩
  clear hL3 hL
  have hL := hT
  clear hT
  refine ⟨_, rfl, fun a13 HH => ?_⟩
  have H13 := HH _ (P3 23 5 1 rfl rfl rfl)
  clear HH H12
  refine h_op H13 rfl (wn rfl) (R_mv H13 rfl rfl) rfl (P3 19 5 1 rfl rfl rfl) fun a14 H14 => ?_
  clear H13
  refine h_op H14 rfl (wn rfl) (R_ext H14 rfl rfl rfl) rfl (P4 24 19 5 1 rfl rfl rfl rfl) fun a15 H15 => ?_
  clear H14
  refine h_op H15 rfl (wn rfl) (R_ext H15 rfl rfl rfl) rfl (P4 25 24 5 1 rfl rfl rfl rfl) fun a16 H16 => ?_
  clear H15
  refine h_op H16 rfl (wn rfl) (R_as H16 rfl rfl) rfl (P4 6 25 5 1 rfl rfl rfl rfl) fun a17 H17 => ?_
  clear H16
  refine h_op H17 rfl (wn rfl) (R_as H17 rfl rfl) rfl (P4 7 6 5 1 rfl rfl rfl rfl) fun a18 H18 => ?_
  clear H17
  refine h_end ?_
  repeat (go_not_at_region 7; go_step)
  refine wp_region_lit ?_
  refine h_op H18 rfl (wn rfl) (R_mv H18 rfl rfl) rfl (P4 26 6 5 1 rfl rfl rfl rfl) fun a19 H19 => ?_
  clear H18
  refine h_op H19 rfl (wn rfl) (R_bin H19 rfl rfl rfl (B_to (y := false) (B_ne Tryz.underlying23 _ _) (by decide))) rfl (P4 27 6 5 1 rfl rfl rfl rfl) fun a20 H20 => ?_
  clear H19
  refine h_end ?_
  repeat (go_not_at_region 9; go_step)
  refine wp_cond_false (H20.ev (x := .tmp 27) rfl) ?_
  repeat (go_not_at_region 9; go_step)
  refine wp_region_lit ?_
  refine h_opP (OneK W p oa aa (⟨((n0 % 4 : Nat) : Int), T5, []⟩ : PSrc) [mp w13.heap.size []]) H20 rfl (wn rfl) (R_mm rfl) (hL.add fun R h => h.allocM) rfl (P4 28 6 5 1 rfl rfl rfl rfl) fun a21 w21 H21 hL' => ?_
  replace hL := hL'
  clear H20 hL'
  refine h_op H21 rfl (wn rfl) (R_as H21 rfl rfl) rfl (P4 8 6 5 1 rfl rfl rfl rfl) fun a22 H22 => ?_
  clear H21
  refine h_end ?_
  obtain ⟨bc, hbc⟩ : ∃ g, g = w13.heap.size := ⟨_, rfl⟩
  rw [← hbc] at H22 hL
  clear hbc
  repeat (go_not_at_region 10; go_step)
  refine wp_region_lit ?_
  refine h_op H22 rfl (wn rfl) (R_as H22 rfl rfl) rfl (P5 9 8 6 5 1 rfl rfl rfl rfl rfl) fun a23 H23 => ?_
  clear H22
  refine h_end ?_
  repeat (go_not_at_region 11; go_step)
  obtain ⟨I, hI⟩ : ∃ I : Nat → Act → World → Prop, ∀ n a' w', I n a' w' ↔ ∃ (j : Nat) (S : PSrc), n = l.length - j ∧ j ≤ l.length ∧ Fr a' 108 [(1, .slice A1 l.length c1), (5, .int .i64 ((n0 % 4 : Nat) : Int)), (6, .pointer (some ⟨p, 0, none⟩)), (8, .map (some bc)), (9, .int .i64 (j : Nat))] ∧ LowI S ((n0 % 4 : Nat) : Int) j ∧ (OneK W p oa aa S [mp bc (anE S.L)]) w' := ⟨_, fun _ _ _ => Iff.rfl⟩
  have HI := Lib.hid hI
  clear hI
  refine wp_loop_ghost I (l.length) ((HI.out _ _ _).2 ⟨0, (⟨((n0 % 4 : Nat) : Int), T5, []⟩ : PSrc), rfl, Nat.zero_le _, H23.pick _ (P5 1 5 6 8 9 rfl rfl rfl rfl rfl), low_0, hL⟩) ?_
  clear hL H23
  intro n a1 wl hi
  obtain ⟨j, S, rfl, hj, H0, hS, hL⟩ := (HI.out _ _ _).1 hi
  clear hi
  have hlen := hS.hold.len
  have hown := hS.hold.own
  have hsrc := hS.hold.src
  have hlo := lowN_le (L := S.L)
  by_cases hjl : j < l.length
  · repeat (go_not_at_region 11; go_step)
    refine wp_region_lit ?_
    refine h_op H0 rfl (wn rfl) (R_mv H0 rfl rfl) rfl (P6 29 1 5 6 8 9 rfl rfl rfl rfl rfl rfl) fun a1 H1 => ?_
    clear H0
    refine h_op H1 rfl (wn rfl) (R_mv H1 rfl rfl) rfl (P7 30 29 1 5 6 8 9 rfl rfl rfl rfl rfl rfl rfl) fun a2 H2 => ?_
    clear H1
    refine h_op H2 rfl (wn rfl) (R_lenS H2 rfl rfl Tryz.underlying46) rfl (P7 31 29 1 5 6 8 9 rfl rfl rfl rfl rfl rfl rfl) fun a3 H3 => ?_
    clear H2
    refine h_op H3 rfl (wn rfl) (R_bin H3 rfl rfl rfl (B_to (y := true) (B_lt Tryz.underlying3 _ _) (decide_eq_true (by omega)))) rfl (P6 32 1 5 6 8 9 rfl rfl rfl rfl rfl rfl) fun a4 H4 => ?_
    clear H3
    refine h_end ?_
    repeat (go_not_at_region 13; go_step)
    refine wp_cond_true (H4.ev (x := .tmp 32) rfl) ?_
    repeat (go_not_at_region 13; go_step)
    obtain ⟨ad, had, hel⟩ := (hlw _ hL.below).elem (List.length_map _) hjl
    have hx := hok _ (List.getElem_mem hjl)
    have hsx := hsmall _ (List.getElem_mem hjl)
    obtain ⟨x, hxe⟩ : ∃ x, x = l[j] := ⟨_, rfl⟩
    rw [← hxe] at hx hsx
    have hld : ∀ w, Below W.heap.size W w → (Instr.loadAt 50 (.pointer (some (ad.add (j * 33))))).run Tryz.prog w = .ok (.agg (actC x)) w := fun w hb => by
      obtain ⟨a2, hae2, hel2⟩ := (hlw _ hb).elem (List.length_map _) hjl
      have hq := Option.some.inj (had.symm.trans hae2)
      subst hq
      exact ld_actA fun k u hu => hel2 k u (by rw [List.getElem_map, ← hxe]; exact hu)
    have hvo : ∀ w, Below W.heap.size W w → Rd w x.vo x.msg.owner := fun w hb => (hx.kept hb).vo
    have hvs : x.vs.oneCell' = true := hx.vs.one
    have hvo1 : x.vo.oneCell' = true := hx.vo.one
    refine wp_region_lit ?_
    refine h_op H4 rfl (wn rfl) (R_mv H4 rfl rfl) rfl (P6 35 1 5 6 8 9 rfl rfl rfl rfl rfl rfl) fun a5 H5 => ?_
    clear H4
    refine h_op H5 rfl (wn rfl) (R_mv H5 rfl rfl) rfl (P7 36 35 1 5 6 8 9 rfl rfl rfl rfl rfl rfl rfl) fun a6 H6 => ?_
    clear H5
    refine h_op H6 rfl (wn rfl) (R_ixa H6 rfl rfl rfl (ix_actE had hjl)) rfl (P6 37 1 5 6 8 9 rfl rfl rfl rfl rfl rfl) fun a7 H7 => ?_
    clear H6
    refine h_op H7 rfl (wn rfl) (R_ld H7 rfl rfl (hld _ hL.below)) rfl (P6 38 1 5 6 8 9 rfl rfl rfl rfl rfl rfl) fun a8 H8 => ?_
    clear H7
    refine h_opP (OneK W p oa aa S [bk wl.heap.size zact 50, mp bc (anE S.L)]) H8 rfl (wn rfl) (R_alloc rfl al_act) (hL.add fun R h => h.alloc _ _) rfl (P7 10 38 1 5 6 8 9 rfl rfl rfl rfl rfl rfl rfl) fun a9 w9 H9 hL' => ?_
    replace hL := hL'
    clear H8 hL'
    refine h_stP (OneK W p oa aa S [bk wl.heap.size (actC x) 50, mp bc (anE S.L)]) H9 rfl (wn rfl) (R_st H9 rfl rfl rfl (st_act (hL.mem List.mem_cons_self) (act_one hvo1 hvs))) (hL.upd fun R h => h.row _) fun a10 w10 H10 hL' => ?_
    replace hL := hL'
    clear H9 hL'
    refine h_end ?_
    obtain ⟨gx, hgx⟩ : ∃ g, g = wl.heap.size := ⟨_, rfl⟩
    rw [← hgx] at H10 hL
    clear hgx
    have hxo := hx.item.ok hsx.key
    have hmo := hsx.owner
    repeat (go_not_at_region 14; go_step)
    refine wp_region_lit ?_
    refine h_op H10 rfl (wn rfl) (R_fa H10 rfl rfl fa_box0) rfl (P7 39 10 1 5 6 8 9 rfl rfl rfl rfl rfl rfl rfl) fun a11 H11 => ?_
    clear H10
    refine h_op H11 rfl (wn rfl) (R_ld H11 rfl rfl (ld_int (x := x.do_) ((hL.cl List.mem_cons_self _).trans rfl))) rfl (P7 40 10 1 5 6 8 9 rfl rfl rfl rfl rfl rfl rfl) fun a12 H12 => ?_
    clear H11
    refine h_end ?_
    by_cases h0 : x.do_ = 0
    · repeat (go_not_at_region 15; go_step)
      repeat (go_not_at_region 15; go_step)
      refine wp_region_lit ?_
      refine h_op H12 rfl (wn rfl) (R_bin H12 rfl rfl rfl (B_to (y := true) (B_eq Tryz.underlying3 _ _) (beq_iff_eq.2 h0))) rfl (P8 42 40 10 1 5 6 8 9 rfl rfl rfl rfl rfl rfl rfl rfl) fun a13 H13 => ?_
      clear H12
      refine h_op H13 rfl (wn rfl) (R_as H13 rfl rfl) rfl (P8 41 40 10 1 5 6 8 9 rfl rfl rfl rfl rfl rfl rfl rfl) fun a14 H14 => ?_
      clear H13
      refine h_end ?_
      repeat (go_not_at_region 16; go_step)
      refine wp_cond_true (H14.ev (x := .tmp 41) rfl) ?_
      repeat (go_not_at_region 16; go_step)
      refine wp_region_lit ?_
      refine h_op H14 rfl (wn rfl) (R_mv H14 rfl rfl) rfl (P7 43 10 1 5 6 8 9 rfl rfl rfl rfl rfl rfl rfl) fun a15 H15 => ?_
      clear H14
      refine h_op H15 rfl (wn rfl) (R_fa H15 rfl rfl fa_box1) rfl (P7 44 43 1 5 6 8 9 rfl rfl rfl rfl rfl rfl rfl) fun a16 H16 => ?_
      clear H15
      refine h_op H16 rfl (wn rfl) (R_ld H16 rfl rfl (ld_boxI (hL.mem List.mem_cons_self))) rfl (P7 45 43 1 5 6 8 9 rfl rfl rfl rfl rfl rfl rfl) fun a17 H17 => ?_
      clear H16
      refine h_call H17 rfl (wn rfl) (R_call2 H17 rfl rfl rfl (fun w => by simp [go_sem])) rfl ?_
      refine (k1_send (x := x.item) hL (by omega)).mono ?_
      rintro e w18 ⟨rfl, hL2⟩
      replace hL := hL2
      clear hL2
      refine ⟨_, rfl, fun a18 HH => ?_⟩
      have H18 := HH _ (P5 1 5 6 8 9 rfl rfl rfl rfl rfl)
      clear HH H17
      refine h_end ?_
      rw [one_0 (n := ((n0 % 4 : Nat) : Int)) h0] at hL
      replace hL := hL.tail
      repeat (go_not_at_region 21; go_step)
      refine wp_region_lit ?_
      refine h_op H18 rfl (wn rfl) (R_mv H18 rfl rfl) rfl (P6 68 1 5 6 8 9 rfl rfl rfl rfl rfl rfl) fun a19 H19 => ?_
      clear H18
      refine h_op H19 rfl (wn rfl) (R_mv H19 rfl rfl) rfl (P7 69 68 1 5 6 8 9 rfl rfl rfl rfl rfl rfl rfl) fun a20 H20 => ?_
      clear H19
      refine h_op H20 rfl (wn rfl) (R_mv H20 rfl rfl) rfl (P8 70 69 68 1 5 6 8 9 rfl rfl rfl rfl rfl rfl rfl rfl) fun a21 H21 => ?_
      clear H20
      refine h_call H21 rfl (wn rfl) (R_call3 H21 rfl rfl rfl rfl (fun w => by simp [go_sem])) rfl ?_
      refine (stands_k (n := ((n0 % 4 : Nat) : Int)) (i := j + 1) (So := S) hL (low_one hS hxo) (by omega) (by omega) (by omega) ext_one).mono ?_
      rintro e w22 ⟨rfl, hL2⟩
      replace hL := hL2
      clear hL2
      refine ⟨_, rfl, fun a22 HH => ?_⟩
      have H22 := HH _ (P6 71 1 5 6 8 9 rfl rfl rfl rfl rfl rfl)
      clear HH H21
      refine h_op H22 rfl (wn rfl) (R_not H22 rfl rfl) rfl (P6 72 1 5 6 8 9 rfl rfl rfl rfl rfl rfl) fun a23 H23 => ?_
      clear H22
      refine h_end ?_
      repeat (go_not_at_region 12; go_step)
      refine wp_cond_false (H23.ev (x := .tmp 72) rfl) ?_
      repeat (go_not_at_region 12; go_step)
      refine wp_region_lit ?_
      refine h_op H23 rfl (wn rfl) (R_mv H23 rfl rfl) rfl (P6 33 1 5 6 8 9 rfl rfl rfl rfl rfl rfl) fun a24 H24 => ?_
      clear H23
      refine h_op H24 rfl (wn rfl) (R_bin H24 rfl rfl rfl (B_add Tryz.underlying3 _ _ (by omega) (by omega))) rfl (P6 34 1 5 6 8 9 rfl rfl rfl rfl rfl rfl) fun a25 H25 => ?_
      clear H24
      refine h_op H25 rfl (wn rfl) (R_as H25 rfl rfl) rfl (P5 9 1 5 6 8 rfl rfl rfl rfl rfl) fun a26 H26 => ?_
      clear H25
      refine h_end ?_
      repeat (go_not_at_region 999; go_step)
      exact ⟨l.length - (j + 1), by omega, (HI.out _ _ _).2 ⟨j + 1, _, rfl, hjl, H26.pick _ (P5 1 5 6 8 9 rfl rfl rfl rfl rfl), low_one hS hxo, hL⟩⟩
    · repeat (go_not_at_region 15; go_step)
      repeat (go_not_at_region 15; go_step)
      refine wp_region_lit ?_
      refine h_op H12 rfl (wn rfl) (R_bin H12 rfl rfl rfl (B_to (y := false) (B_eq Tryz.underlying3 _ _) (beq_eq_false_iff_ne.2 h0))) rfl (P8 42 40 10 1 5 6 8 9 rfl rfl rfl rfl rfl rfl rfl rfl) fun a13 H13 => ?_
      clear H12
      refine h_op H13 rfl (wn rfl) (R_as H13 rfl rfl) rfl (P8 41 40 10 1 5 6 8 9 rfl rfl rfl rfl rfl rfl rfl rfl) fun a14 H14 => ?_
      clear H13
      refine h_end ?_
      repeat (go_not_at_region 17; go_step)
      refine wp_cond_false (H14.ev (x := .tmp 41) rfl) ?_
      by_cases h1 : x.do_ = 1
      · repeat (go_not_at_region 17; go_step)
        repeat (go_not_at_region 17; go_step)
        refine wp_region_lit ?_
        refine h_op H14 rfl (wn rfl) (R_bin H14 rfl rfl rfl (B_to (y := true) (B_eq Tryz.underlying3 _ _) (beq_iff_eq.2 h1))) rfl (P8 48 40 10 1 5 6 8 9 rfl rfl rfl rfl rfl rfl rfl rfl) fun a15 H15 => ?_
        clear H14
        refine h_op H15 rfl (wn rfl) (R_as H15 rfl rfl) rfl (P8 47 40 10 1 5 6 8 9 rfl rfl rfl rfl rfl rfl rfl rfl) fun a16 H16 => ?_
        clear H15
        refine h_end ?_
        repeat (go_not_at_region 18; go_step)
        refine wp_cond_true (H16.ev (x := .tmp 47) rfl) ?_
        repeat (go_not_at_region 18; go_step)
        refine wp_region_lit ?_
        refine h_op H16 rfl (wn rfl) (R_mv H16 rfl rfl) rfl (P7 49 10 1 5 6 8 9 rfl rfl rfl rfl rfl rfl rfl) fun a17 H17 => ?_
        clear H16
        refine h_op H17 rfl (wn rfl) (R_fa H17 rfl rfl fa_box2) rfl (P7 50 49 1 5 6 8 9 rfl rfl rfl rfl rfl rfl rfl) fun a18 H18 => ?_
        clear H17
        refine h_op H18 rfl (wn rfl) (R_ld H18 rfl rfl (ld_boxM (hL.mem List.mem_cons_self))) rfl (P7 51 49 1 5 6 8 9 rfl rfl rfl rfl rfl rfl rfl) fun a19 H19 => ?_
        clear H18
        refine h_call H19 rfl (wn rfl) (R_call2 H19 rfl rfl rfl (fun w => by simp [go_sem])) rfl ?_
        refine (k1_handle (m := x.msg) (vo := x.vo) (vs := x.vs) hL hvo (by omega) hx.msg.iseq0 hx.msg.iseq1 (by omega) (by omega) hvs).mono ?_
        rintro e w20 ⟨rfl, hL2⟩
        replace hL := hL2
        clear hL2
        refine ⟨_, rfl, fun a20 HH => ?_⟩
        have H20 := HH _ (P5 1 5 6 8 9 rfl rfl rfl rfl rfl)
        clear HH H19
        refine h_end ?_
        rw [one_1 (n := ((n0 % 4 : Nat) : Int)) h0 h1] at hL
        replace hL := hL.tail
        repeat (go_not_at_region 21; go_step)
        refine wp_region_lit ?_
        refine h_op H20 rfl (wn rfl) (R_mv H20 rfl rfl) rfl (P6 68 1 5 6 8 9 rfl rfl rfl rfl rfl rfl) fun a21 H21 => ?_
        clear H20
        refine h_op H21 rfl (wn rfl) (R_mv H21 rfl rfl) rfl (P7 69 68 1 5 6 8 9 rfl rfl rfl rfl rfl rfl rfl) fun a22 H22 => ?_
        clear H21
        refine h_op H22 rfl (wn rfl) (R_mv H22 rfl rfl) rfl (P8 70 69 68 1 5 6 8 9 rfl rfl rfl rfl rfl rfl rfl rfl) fun a23 H23 => ?_
        clear H22
        refine h_call H23 rfl (wn rfl) (R_call3 H23 rfl rfl rfl rfl (fun w => by simp [go_sem])) rfl ?_
        refine (stands_k (n := ((n0 % 4 : Nat) : Int)) (i := j + 1) (So := S) hL (low_one hS hxo) (by omega) (by omega) (by omega) ext_one).mono ?_
        rintro e w24 ⟨rfl, hL2⟩
        replace hL := hL2
        clear hL2
        refine ⟨_, rfl, fun a24 HH => ?_⟩
        have H24 := HH _ (P6 71 1 5 6 8 9 rfl rfl rfl rfl rfl rfl)
        clear HH H23
        refine h_op H24 rfl (wn rfl) (R_not H24 rfl rfl) rfl (P6 72 1 5 6 8 9 rfl rfl rfl rfl rfl rfl) fun a25 H25 => ?_
        clear H24
        refine h_end ?_
        repeat (go_not_at_region 12; go_step)
        refine wp_cond_false (H25.ev (x := .tmp 72) rfl) ?_
        repeat (go_not_at_region 12; go_step)
        refine wp_region_lit ?_
        refine h_op H25 rfl (wn rfl) (R_mv H25 rfl rfl) rfl (P6 33 1 5 6 8 9 rfl rfl rfl rfl rfl rfl) fun a26 H26 => ?_
        clear H25
        refine h_op H26 rfl (wn rfl) (R_bin H26 rfl rfl rfl (B_add Tryz.underlying3 _ _ (by omega) (by omega))) rfl (P6 34 1 5 6 8 9 rfl rfl rfl rfl rfl rfl) fun a27 H27 => ?_
        clear H26
        refine h_op H27 rfl (wn rfl) (R_as H27 rfl rfl) rfl (P5 9 1 5 6 8 rfl rfl rfl rfl rfl) fun a28 H28 => ?_
        clear H27
        refine h_end ?_
        repeat (go_not_at_region 999; go_step)
        exact ⟨l.length - (j + 1), by omega, (HI.out _ _ _).2 ⟨j + 1, _, rfl, hjl, H28.pick _ (P5 1 5 6 8 9 rfl rfl rfl rfl rfl), low_one hS hxo, hL⟩⟩
      · repeat (go_not_at_region 17; go_step)
        repeat (go_not_at_region 17; go_step)
        refine wp_region_lit ?_
        refine h_op H14 rfl (wn rfl) (R_bin H14 rfl rfl rfl (B_to (y := false) (B_eq Tryz.underlying3 _ _) (beq_eq_false_iff_ne.2 h1))) rfl (P8 48 40 10 1 5 6 8 9 rfl rfl rfl rfl rfl rfl rfl rfl) fun a15 H15 => ?_
        clear H14
        refine h_op H15 rfl (wn rfl) (R_as H15 rfl rfl) rfl (P8 47 40 10 1 5 6 8 9 rfl rfl rfl rfl rfl rfl rfl rfl) fun a16 H16 => ?_
        clear H15
        refine h_end ?_
        repeat (go_not_at_region 19; go_step)
        refine wp_cond_false (H16.ev (x := .tmp 47) rfl) ?_
        by_cases h2 : x.do_ = 2
        · have hr1 := Int.tmod_lt_of_pos x.of_ (show (0 : Int) < 16 by decide)
          have hr2 := Int.lt_tmod_of_pos x.of_ (show (0 : Int) < 16 by decide)
          repeat (go_not_at_region 19; go_step)
          repeat (go_not_at_region 19; go_step)
          refine wp_region_lit ?_
          refine h_op H16 rfl (wn rfl) (R_bin H16 rfl rfl rfl (B_to (y := true) (B_eq Tryz.underlying3 _ _) (beq_iff_eq.2 h2))) rfl (P8 54 40 10 1 5 6 8 9 rfl rfl rfl rfl rfl rfl rfl rfl) fun a17 H17 => ?_
          clear H16
          refine h_op H17 rfl (wn rfl) (R_as H17 rfl rfl) rfl (P8 53 40 10 1 5 6 8 9 rfl rfl rfl rfl rfl rfl rfl rfl) fun a18 H18 => ?_
          clear H17
          refine h_end ?_
          repeat (go_not_at_region 20; go_step)
          refine wp_cond_true (H18.ev (x := .tmp 53) rfl) ?_
          repeat (go_not_at_region 20; go_step)
          refine wp_region_held_drew (S := fun w' => HasB gx (actC x) 50 w') (by kernel_rfl) ((OneK.mem hL.drew List.mem_cons_self : HasB gx (actC x) 50 _)) (fun _ => ?_)
          replace hL := hL.drew
          refine a_op 0 H18 rfl rfl (by kernel_rfl) (by kernel_rfl) (by kernel_rfl) (fun _ _ _ h => h) (wn rfl) (fun w hL => R_mv H18 rfl rfl) ((OneK.mem hL List.mem_cons_self : HasB gx (actC x) 50 _)) rfl (P7 55 10 1 5 6 8 9 rfl rfl rfl rfl rfl rfl rfl) fun a19 H19 => ?_
          clear H18
          refine a_op 1 H19 rfl rfl (by kernel_rfl) (by kernel_rfl) (by kernel_rfl) (fun _ _ _ h => h) (wn rfl) (fun w hL => R_mv H19 rfl rfl) ((OneK.mem hL List.mem_cons_self : HasB gx (actC x) 50 _)) rfl (P8 56 55 10 1 5 6 8 9 rfl rfl rfl rfl rfl rfl rfl rfl) fun a20 H20 => ?_
          clear H19
          refine a_op 2 H20 rfl rfl (by kernel_rfl) (by kernel_rfl) (by kernel_rfl) (fun _ _ _ h => h) (wn rfl) (fun w hL => R_mv H20 rfl rfl) ((OneK.mem hL List.mem_cons_self : HasB gx (actC x) 50 _)) rfl (P9 57 56 55 10 1 5 6 8 9 rfl rfl rfl rfl rfl rfl rfl rfl rfl) fun a21 H21 => ?_
          clear H20
          refine a_op 4 H21 rfl rfl (by kernel_rfl) (by kernel_rfl) (by kernel_rfl) (fun _ _ _ h => h) (wn rfl) (fun w hL => R_fa H21 rfl rfl fa_box3) ((OneK.mem hL List.mem_cons_self : HasB gx (actC x) 50 _)) rfl (P10 59 57 56 55 10 1 5 6 8 9 rfl rfl rfl rfl rfl rfl rfl rfl rfl rfl) fun a22 H22 => ?_
          clear H21
          refine a_op 9 H22 rfl rfl (by kernel_rfl) (by kernel_rfl) (by kernel_rfl) (fun _ _ _ h => h) (wn rfl) (fun w hL => R_fa H22 rfl rfl fa_box4) ((OneK.mem hL List.mem_cons_self : HasB gx (actC x) 50 _)) rfl (P10 64 59 57 56 55 1 5 6 8 9 rfl rfl rfl rfl rfl rfl rfl rfl rfl rfl) fun a23 H23 => ?_
          clear H22
          refine a_op 5 H23 rfl rfl (by kernel_rfl) (by kernel_rfl) (by kernel_rfl) (fun _ _ _ h => h) (wn rfl) (fun w hL => R_ld H23 rfl rfl (ld_int (x := x.of_) (by rw [HasB.cl hL]; rfl))) ((OneK.mem hL List.mem_cons_self : HasB gx (actC x) 50 _)) rfl (P10 60 64 57 56 55 1 5 6 8 9 rfl rfl rfl rfl rfl rfl rfl rfl rfl rfl) fun a24 H24 => ?_
          clear H23
          refine a_op 10 H24 rfl rfl (by kernel_rfl) (by kernel_rfl) (by kernel_rfl) (fun _ _ _ h => h) (wn rfl) (fun w hL => R_ld H24 rfl rfl (ld_int (x := x.code) (by rw [HasB.cl hL]; rfl))) ((OneK.mem hL List.mem_cons_self : HasB gx (actC x) 50 _)) rfl (P10 65 60 57 56 55 1 5 6 8 9 rfl rfl rfl rfl rfl rfl rfl rfl rfl rfl) fun a25 H25 => ?_
          clear H24
          refine a_op 6 H25 rfl rfl (by kernel_rfl) (by kernel_rfl) (by kernel_rfl) (fun _ _ _ h => h) (wn rfl) (fun w hL => R_bin H25 rfl rfl rfl (B_rem16 _)) ((OneK.mem hL List.mem_cons_self : HasB gx (actC x) 50 _)) rfl (P10 61 65 57 56 55 1 5 6 8 9 rfl rfl rfl rfl rfl rfl rfl rfl rfl rfl) fun a26 H26 => ?_
          clear H25
          refine a_all1 3 (by kernel_rfl) ?_
          refine o_call 3 H26 rfl rfl (wn rfl) (R_call1 H26 rfl rfl (fun w => by simp [go_sem])) rfl ?_
          refine (k1_low hL).mono ?_
          rintro e wx ⟨rfl, rfl⟩
          refine ⟨_, rfl, fun a27 HH => ?_⟩
          have H27 := HH _ (P10 58 61 65 56 55 1 5 6 8 9 rfl rfl rfl rfl rfl rfl rfl rfl rfl rfl)
          clear HH H26
          refine ⟨(OneK.mem hL List.mem_cons_self : HasB gx (actC x) 50 _), ?_⟩
          refine a_op 7 H27 rfl rfl (by kernel_rfl) (by kernel_rfl) (by kernel_rfl) (fun _ _ _ h => h) (wn rfl) (fun w hL => R_bin H27 rfl rfl rfl (B_add Tryz.underlying3 _ _ (by omega) (by omega))) ((OneK.mem hL List.mem_cons_self : HasB gx (actC x) 50 _)) rfl (P9 62 65 56 55 1 5 6 8 9 rfl rfl rfl rfl rfl rfl rfl rfl rfl) fun a28 H28 => ?_
          clear H27
          refine a_op 8 H28 rfl rfl (by kernel_rfl) (by kernel_rfl) (by kernel_rfl) (fun _ _ _ h => h) (wn rfl) (fun w hL => R_bd2 H28 rfl rfl rfl bd_it2) ((OneK.mem hL List.mem_cons_self : HasB gx (actC x) 50 _)) rfl (P8 63 65 55 1 5 6 8 9 rfl rfl rfl rfl rfl rfl rfl rfl) fun a29 H29 => ?_
          clear H28
          refine a_op 11 H29 rfl rfl (by kernel_rfl) (by kernel_rfl) (by kernel_rfl) (fun _ _ _ h => h) (wn rfl) (fun w hL => R_bd3 H29 rfl rfl rfl rfl bd_ans) ((OneK.mem hL List.mem_cons_self : HasB gx (actC x) 50 _)) rfl (P7 66 55 1 5 6 8 9 rfl rfl rfl rfl rfl rfl rfl) fun a30 H30 => ?_
          clear H29
          refine a_all1 12 (by kernel_rfl) ?_
          refine o_call 12 H30 rfl rfl (wn rfl) (R_call2 H30 rfl rfl rfl (fun w => by simp [go_sem])) rfl ?_
          refine (k1_handle (m := (ansMsg ((n0 % 4 : Nat) : Int) ((lowN S.L : Nat) + x.of_.tmod 16) x.code)) (vo := .slice none 0 0) (vs := .slice none 0 0) hL (fun w _ => rd_nul w) (by omega) (by show (_ : Int) ≤ (lowN S.L : Nat) + x.of_.tmod 16; omega) (by show ((lowN S.L : Nat) : Int) + x.of_.tmod 16 < _; omega) (by omega) (Nat.zero_le _) rfl).mono ?_
          rintro e w31 ⟨rfl, hL2⟩
          replace hL := hL2
          clear hL2
          refine ⟨_, rfl, fun a31 HH => ?_⟩
          have H31 := HH _ (P5 1 5 6 8 9 rfl rfl rfl rfl rfl)
          clear HH H30
          refine ⟨(OneK.mem hL List.mem_cons_self : HasB gx (actC x) 50 _), ?_⟩
          refine wpAnyH_done (by kernel_rfl) ?_ _
          rw [one_2 (n := ((n0 % 4 : Nat) : Int)) h0 h1 h2] at hL
          replace hL := hL.tail
          repeat (go_not_at_region 21; go_step)
          refine wp_region_lit ?_
          refine h_op H31 rfl (wn rfl) (R_mv H31 rfl rfl) rfl (P6 68 1 5 6 8 9 rfl rfl rfl rfl rfl rfl) fun a32 H32 => ?_
          clear H31
          refine h_op H32 rfl (wn rfl) (R_mv H32 rfl rfl) rfl (P7 69 68 1 5 6 8 9 rfl rfl rfl rfl rfl rfl rfl) fun a33 H33 => ?_
          clear H32
          refine h_op H33 rfl (wn rfl) (R_mv H33 rfl rfl) rfl (P8 70 69 68 1 5 6 8 9 rfl rfl rfl rfl rfl rfl rfl rfl) fun a34 H34 => ?_
          clear H33
          refine h_call H34 rfl (wn rfl) (R_call3 H34 rfl rfl rfl rfl (fun w => by simp [go_sem])) rfl ?_
          refine (stands_k (n := ((n0 % 4 : Nat) : Int)) (i := j + 1) (So := S) hL (low_one hS hxo) (by omega) (by omega) (by omega) ext_one).mono ?_
          rintro e w35 ⟨rfl, hL2⟩
          replace hL := hL2
          clear hL2
          refine ⟨_, rfl, fun a35 HH => ?_⟩
          have H35 := HH _ (P6 71 1 5 6 8 9 rfl rfl rfl rfl rfl rfl)
          clear HH H34
          refine h_op H35 rfl (wn rfl) (R_not H35 rfl rfl) rfl (P6 72 1 5 6 8 9 rfl rfl rfl rfl rfl rfl) fun a36 H36 => ?_
          clear H35
          refine h_end ?_
          repeat (go_not_at_region 12; go_step)
          refine wp_cond_false (H36.ev (x := .tmp 72) rfl) ?_
          repeat (go_not_at_region 12; go_step)
          refine wp_region_lit ?_
          refine h_op H36 rfl (wn rfl) (R_mv H36 rfl rfl) rfl (P6 33 1 5 6 8 9 rfl rfl rfl rfl rfl rfl) fun a37 H37 => ?_
          clear H36
          refine h_op H37 rfl (wn rfl) (R_bin H37 rfl rfl rfl (B_add Tryz.underlying3 _ _ (by omega) (by omega))) rfl (P6 34 1 5 6 8 9 rfl rfl rfl rfl rfl rfl) fun a38 H38 => ?_
          clear H37
          refine h_op H38 rfl (wn rfl) (R_as H38 rfl rfl) rfl (P5 9 1 5 6 8 rfl rfl rfl rfl rfl) fun a39 H39 => ?_
          clear H38
          refine h_end ?_
          repeat (go_not_at_region 999; go_step)
          exact ⟨l.length - (j + 1), by omega, (HI.out _ _ _).2 ⟨j + 1, _, rfl, hjl, H39.pick _ (P5 1 5 6 8 9 rfl rfl rfl rfl rfl), low_one hS hxo, hL⟩⟩
        · repeat (go_not_at_region 19; go_step)
          repeat (go_not_at_region 19; go_step)
          refine wp_region_lit ?_
          refine h_op H16 rfl (wn rfl) (R_bin H16 rfl rfl rfl (B_to (y := false) (B_eq Tryz.underlying3 _ _) (beq_eq_false_iff_ne.2 h2))) rfl (P8 54 40 10 1 5 6 8 9 rfl rfl rfl rfl rfl rfl rfl rfl) fun a17 H17 => ?_
          clear H16
          refine h_op H17 rfl (wn rfl) (R_as H17 rfl rfl) rfl (P8 53 40 10 1 5 6 8 9 rfl rfl rfl rfl rfl rfl rfl rfl) fun a18 H18 => ?_
          clear H17
          refine h_end ?_
          repeat (go_not_at_region 21; go_step)
          refine wp_cond_false (H18.ev (x := .tmp 53) rfl) ?_
          replace hL := hL.of_eq (one_3 (n := ((n0 % 4 : Nat) : Int)) h0 h1 h2)
          replace hL := hL.tail
          repeat (go_not_at_region 21; go_step)
          refine wp_region_lit ?_
          refine h_op H18 rfl (wn rfl) (R_mv H18 rfl rfl) rfl (P6 68 1 5 6 8 9 rfl rfl rfl rfl rfl rfl) fun a19 H19 => ?_
          clear H18
          refine h_op H19 rfl (wn rfl) (R_mv H19 rfl rfl) rfl (P7 69 68 1 5 6 8 9 rfl rfl rfl rfl rfl rfl rfl) fun a20 H20 => ?_
          clear H19
          refine h_op H20 rfl (wn rfl) (R_mv H20 rfl rfl) rfl (P8 70 69 68 1 5 6 8 9 rfl rfl rfl rfl rfl rfl rfl rfl) fun a21 H21 => ?_
          clear H20
          refine h_call H21 rfl (wn rfl) (R_call3 H21 rfl rfl rfl rfl (fun w => by simp [go_sem])) rfl ?_
          refine (stands_k (n := ((n0 % 4 : Nat) : Int)) (i := j + 1) (So := S) hL (low_one hS hxo) (by omega) (by omega) (by omega) ext_one).mono ?_
          rintro e w22 ⟨rfl, hL2⟩
          replace hL := hL2
          clear hL2
          refine ⟨_, rfl, fun a22 HH => ?_⟩
          have H22 := HH _ (P6 71 1 5 6 8 9 rfl rfl rfl rfl rfl rfl)
          clear HH H21
          refine h_op H22 rfl (wn rfl) (R_not H22 rfl rfl) rfl (P6 72 1 5 6 8 9 rfl rfl rfl rfl rfl rfl) fun a23 H23 => ?_
          clear H22
          refine h_end ?_
          repeat (go_not_at_region 12; go_step)
          refine wp_cond_false (H23.ev (x := .tmp 72) rfl) ?_
          repeat (go_not_at_region 12; go_step)
          refine wp_region_lit ?_
          refine h_op H23 rfl (wn rfl) (R_mv H23 rfl rfl) rfl (P6 33 1 5 6 8 9 rfl rfl rfl rfl rfl rfl) fun a24 H24 => ?_
          clear H23
          refine h_op H24 rfl (wn rfl) (R_bin H24 rfl rfl rfl (B_add Tryz.underlying3 _ _ (by omega) (by omega))) rfl (P6 34 1 5 6 8 9 rfl rfl rfl rfl rfl rfl) fun a25 H25 => ?_
          clear H24
          refine h_op H25 rfl (wn rfl) (R_as H25 rfl rfl) rfl (P5 9 1 5 6 8 rfl rfl rfl rfl rfl) fun a26 H26 => ?_
          clear H25
          refine h_end ?_
          repeat (go_not_at_region 999; go_step)
          exact ⟨l.length - (j + 1), by omega, (HI.out _ _ _).2 ⟨j + 1, _, rfl, hjl, H26.pick _ (P5 1 5 6 8 9 rfl rfl rfl rfl rfl), low_one hS hxo, hL⟩⟩
  · repeat (go_not_at_region 11; go_step)
    refine wp_region_lit ?_
    refine h_op H0 rfl (wn rfl) (R_mv H0 rfl rfl) rfl (P6 29 1 5 6 8 9 rfl rfl rfl rfl rfl rfl) fun a1 H1 => ?_
    clear H0
    refine h_op H1 rfl (wn rfl) (R_mv H1 rfl rfl) rfl (P7 30 29 1 5 6 8 9 rfl rfl rfl rfl rfl rfl rfl) fun a2 H2 => ?_
    clear H1
    refine h_op H2 rfl (wn rfl) (R_lenS H2 rfl rfl Tryz.underlying46) rfl (P7 31 29 1 5 6 8 9 rfl rfl rfl rfl rfl rfl rfl) fun a3 H3 => ?_
    clear H2
    refine h_op H3 rfl (wn rfl) (R_bin H3 rfl rfl rfl (B_to (y := false) (B_lt Tryz.underlying3 _ _) (decide_eq_false (by omega)))) rfl (P6 32 1 5 6 8 9 rfl rfl rfl rfl rfl rfl) fun a4 H4 => ?_
    clear H3
    refine h_end ?_
    repeat (go_not_at_region 23; go_step)
    refine wp_cond_false (H4.ev (x := .tmp 32) rfl) ?_
    clear HI
    repeat (go_not_at_region 23; go_step)
    refine wp_region_lit ?_
    refine h_op H4 rfl (wn rfl) (R_mv H4 rfl rfl) rfl (P4 73 5 6 8 rfl rfl rfl rfl) fun a5 H5 => ?_
    clear H4
    refine h_call H5 rfl (wn rfl) (R_call1 H5 rfl rfl (fun w => by simp [go_sem])) rfl ?_
    refine (k1_last hL).mono ?_
    rintro e wx ⟨rfl, rfl⟩
    refine ⟨_, rfl, fun a6 HH => ?_⟩
    have H6 := HH _ (P4 74 5 6 8 rfl rfl rfl rfl)
    clear HH H5
    refine h_op H6 rfl (wn rfl) (R_as H6 rfl rfl) rfl (P4 11 5 6 8 rfl rfl rfl rfl) fun a7 H7 => ?_
    clear H6
    refine h_end ?_
    repeat (go_not_at_region 24; go_step)
    obtain ⟨I, hI⟩ : ∃ I : Nat → Act → World → Prop, ∀ n a' w', I n a' w' ↔ ∃ (q : Nat) (S' : PSrc), n = q ∧ q ≤ S.L.length ∧ Fr a' 108 [(5, .int .i64 ((n0 % 4 : Nat) : Int)), (6, .pointer (some ⟨p, 0, none⟩)), (8, .map (some bc)), (11, .int .i64 (q : Nat))] ∧ LowI S' ((n0 % 4 : Nat) : Int) j ∧ Ext S S' ∧ S'.L.length = S.L.length ∧ (∀ k : Nat, q < k → k ≤ S.L.length → codeN S'.L (k : Nat) ≠ 0) ∧ (OneK W p oa aa S' [mp bc (anE S.L)]) w' := ⟨_, fun _ _ _ => Iff.rfl⟩
    have HI := Lib.hid hI
    clear hI
    refine wp_loop_ghost I (S.L.length) ((HI.out _ _ _).2 ⟨S.L.length, S, rfl, Nat.le_refl _, H7.pick _ (P4 5 6 8 11 rfl rfl rfl rfl), hS, Ext.refl, rfl, fun k h1 h2 => by omega, hL⟩) ?_
    clear hL H7
    intro n a1 wl hi
    obtain ⟨q, S', rfl, hq, H0, hS', hex, hsl, hall, hL⟩ := (HI.out _ _ _).1 hi
    clear hi
    have hsrc' := hS'.hold.src
    have hown' := hS'.hold.own
    by_cases hq1 : 1 ≤ n
    · repeat (go_not_at_region 24; go_step)
      refine wp_region_lit ?_
      refine h_op H0 rfl (wn rfl) (R_mv H0 rfl rfl) rfl (P5 75 5 6 8 11 rfl rfl rfl rfl rfl) fun a1 H1 => ?_
      clear H0
      refine h_op H1 rfl (wn rfl) (R_bin H1 rfl rfl rfl (B_to (y := true) (B_ge Tryz.underlying3 _ _) (decide_eq_true (by omega)))) rfl (P5 76 5 6 8 11 rfl rfl rfl rfl rfl) fun a2 H2 => ?_
      clear H1
      refine h_end ?_
      repeat (go_not_at_region 26; go_step)
      refine wp_cond_true (H2.ev (x := .tmp 76) rfl) ?_
      repeat (go_not_at_region 26; go_step)
      refine wp_region_lit ?_
      refine h_op H2 rfl (wn rfl) (R_mv H2 rfl rfl) rfl (P5 79 5 6 8 11 rfl rfl rfl rfl rfl) fun a3 H3 => ?_
      clear H2
      refine h_op H3 rfl (wn rfl) (R_mv H3 rfl rfl) rfl (P6 80 79 5 6 8 11 rfl rfl rfl rfl rfl rfl) fun a4 H4 => ?_
      clear H3
      refine h_op H4 rfl (wn rfl) (R_mv H4 rfl rfl) rfl (P7 81 80 79 5 6 8 11 rfl rfl rfl rfl rfl rfl rfl) fun a5 H5 => ?_
      clear H4
      refine h_op H5 rfl (wn rfl) (R_bd2 H5 rfl rfl rfl bd_it2) rfl (P6 82 79 5 6 8 11 rfl rfl rfl rfl rfl rfl) fun a6 H6 => ?_
      clear H5
      refine h_op H6 rfl (wn rfl) (R_bd3 H6 rfl rfl rfl rfl bd_ans) rfl (P6 83 79 5 6 8 11 rfl rfl rfl rfl rfl rfl) fun a7 H7 => ?_
      clear H6
      refine h_call H7 rfl (wn rfl) (R_call2 H7 rfl rfl rfl (fun w => by simp [go_sem])) rfl ?_
      have hh := k1_handle (m := ansMsg ((n0 % 4 : Nat) : Int) (n : Nat) 2) (vo := .slice none 0 0) (vs := .slice none 0 0) hL (fun w _ => rd_nul w) (by omega) (by show (_ : Int) ≤ (n : Nat); omega) (by show ((n : Nat) : Int) < _; omega) (by omega) (Nat.zero_le _) rfl
      rw [handle_ans hsrc'] at hh
      refine hh.mono ?_
      rintro e w8 ⟨rfl, hL2⟩
      replace hL := hL2
      clear hL2 hh
      refine ⟨_, rfl, fun a8 HH => ?_⟩
      have H8 := HH _ (P4 5 6 8 11 rfl rfl rfl rfl)
      clear HH H7
      refine h_end ?_
      repeat (go_not_at_region 25; go_step)
      refine wp_region_lit ?_
      refine h_op H8 rfl (wn rfl) (R_mv H8 rfl rfl) rfl (P5 77 5 6 8 11 rfl rfl rfl rfl rfl) fun a9 H9 => ?_
      clear H8
      refine h_op H9 rfl (wn rfl) (R_bin H9 rfl rfl rfl (B_toI (y := ((n - 1 : Nat) : Int)) (B_subI _ _ (by omega) (by omega)) (by omega))) rfl (P5 78 5 6 8 11 rfl rfl rfl rfl rfl) fun a10 H10 => ?_
      clear H9
      refine h_op H10 rfl (wn rfl) (R_as H10 rfl rfl) rfl (P4 11 5 6 8 rfl rfl rfl rfl) fun a11 H11 => ?_
      clear H10
      refine h_end ?_
      repeat (go_not_at_region 999; go_step)
      refine ⟨n - 1, by omega, (HI.out _ _ _).2 ⟨n - 1, _, rfl, by omega, H11.pick _ (P4 5 6 8 11 rfl rfl rfl rfl), low_ans hS', hex.trans ext_ans, ans_len.trans hsl, fun k h1 h2 => ?_, hL⟩⟩
      by_cases hk : k = n
      · subst hk
        exact ans_code hq1 (by omega)
      · rw [(ext_ans (S := S')).2 _ (hall k (by omega) h2)]
        exact hall k (by omega) h2
    · repeat (go_not_at_region 24; go_step)
      refine wp_region_lit ?_
      refine h_op H0 rfl (wn rfl) (R_mv H0 rfl rfl) rfl (P5 75 5 6 8 11 rfl rfl rfl rfl rfl) fun a1 H1 => ?_
      clear H0
      refine h_op H1 rfl (wn rfl) (R_bin H1 rfl rfl rfl (B_to (y := false) (B_ge Tryz.underlying3 _ _) (decide_eq_false (by omega)))) rfl (P5 76 5 6 8 11 rfl rfl rfl rfl rfl) fun a2 H2 => ?_
      clear H1
      refine h_end ?_
      repeat (go_not_at_region 27; go_step)
      refine wp_cond_false (H2.ev (x := .tmp 76) rfl) ?_
      have hal := all_low (L := S'.L) fun k h1 h2 => hall k (by omega) (by omega)
      have hop := all_open hal
      have hpn : (pktsM S').length = 0 := by
        have e := List.length_filterMap_le (pkt S') (opItems S'.L)
        have e2 := opE_len (L := S'.L)
        unfold pktsM
        omega
      repeat (go_not_at_region 27; go_step)
      refine wp_region_lit ?_
      refine h_op H2 rfl (wn rfl) (R_mv H2 rfl rfl) rfl (P4 85 5 6 8 rfl rfl rfl rfl) fun a3 H3 => ?_
      clear H2
      refine h_call H3 rfl (wn rfl) (R_call1 H3 rfl rfl (fun w => by simp [go_sem])) rfl ?_
      refine (k1_low hL).mono ?_
      rintro e wx ⟨rfl, rfl⟩
      refine ⟨_, rfl, fun a4 HH => ?_⟩
      have H4 := HH _ (P4 86 5 6 8 rfl rfl rfl rfl)
      clear HH H3
      refine h_op H4 rfl (wn rfl) (R_mv H4 rfl rfl) rfl (P5 87 86 5 6 8 rfl rfl rfl rfl rfl) fun a5 H5 => ?_
      clear H4
      refine h_call H5 rfl (wn rfl) (R_call1 H5 rfl rfl (fun w => by simp [go_sem])) rfl ?_
      refine (k1_last hL).mono ?_
      rintro e wx ⟨rfl, rfl⟩
      refine ⟨_, rfl, fun a6 HH => ?_⟩
      have H6 := HH _ (P5 88 86 5 6 8 rfl rfl rfl rfl rfl)
      clear HH H5
      refine h_op H6 rfl (wn rfl) (R_bin H6 rfl rfl rfl (B_add Tryz.underlying3 _ _ (by omega) (by omega))) rfl (P5 89 86 5 6 8 rfl rfl rfl rfl rfl) fun a7 H7 => ?_
      clear H6
      refine h_op H7 rfl (wn rfl) (R_bin H7 rfl rfl rfl (B_to (y := true) (B_eq Tryz.underlying3 _ _) (beq_iff_eq.2 (by omega)))) rfl (P4 90 5 6 8 rfl rfl rfl rfl) fun a8 H8 => ?_
      clear H7
      refine h_op H8 rfl (wn rfl) (R_mv H8 rfl rfl) rfl (P4 91 5 6 8 rfl rfl rfl rfl) fun a9 H9 => ?_
      clear H8
      refine h_op H9 rfl (H9.wt rfl rfl rfl) (R_mv H9 rfl rfl) rfl (P5 92 91 5 6 8 rfl rfl rfl rfl rfl) fun a10 H10 => ?_
      clear H9
      refine h_call H10 rfl (H10.wt rfl rfl rfl) (R_call1 H10 rfl rfl (fun w => by simp [go_sem])) rfl ?_
      refine (k1_left hL).mono ?_
      rintro e wx ⟨rfl, rfl⟩
      refine ⟨_, rfl, fun a11 HH => ?_⟩
      have H11 := HH _ (P5 93 91 5 6 8 rfl rfl rfl rfl rfl)
      clear HH H10
      refine h_op H11 rfl (H11.wt rfl rfl rfl) (R_bin H11 rfl rfl rfl (B_to (y := true) (B_eq Tryz.underlying3 _ _) (beq_iff_eq.2 (by omega)))) rfl (P5 94 91 5 6 8 rfl rfl rfl rfl rfl) fun a12 H12 => ?_
      clear H11
      refine h_op H12 rfl (wn rfl) (R_pick H12 rfl rfl rfl) rfl (P4 95 5 6 8 rfl rfl rfl rfl) fun a13 H13 => ?_
      clear H12
      refine h_op H13 rfl (wn rfl) (R_mv H13 rfl rfl) rfl (P4 96 5 6 8 rfl rfl rfl rfl) fun a14 H14 => ?_
      clear H13
      refine h_op H14 rfl (H14.wt rfl rfl rfl) (R_mv H14 rfl rfl) rfl (P5 97 96 5 6 8 rfl rfl rfl rfl rfl) fun a15 H15 => ?_
      clear H14
      refine h_call H15 rfl (H15.wt rfl rfl rfl) (R_call1 H15 rfl rfl (fun w => by simp [go_sem])) rfl ?_
      refine (k1_tick hL (by omega) (by omega) hS'.hold.ok (by omega) (by omega)).mono ?_
      rintro e w16 ⟨vp, Xp, rfl, hp, hL2⟩
      obtain ⟨qp, cp, rfl⟩ := hp.shape
      replace hL := hL2.dropl
      clear hL2 hp
      refine ⟨_, rfl, fun a16 HH => ?_⟩
      have H16 := HH _ (P5 98 96 5 6 8 rfl rfl rfl rfl rfl)
      clear HH H15
      refine h_op H16 rfl (H16.wt rfl rfl rfl) (R_lenS H16 rfl rfl Tryz.underlying41) rfl (P5 99 96 5 6 8 rfl rfl rfl rfl rfl) fun a17 H17 => ?_
      clear H16
      refine h_op H17 rfl (H17.wt rfl rfl rfl) (R_bin H17 rfl rfl rfl (B_to (y := true) (B_eq Tryz.underlying3 _ _) (beq_iff_eq.2 (by omega)))) rfl (P5 100 96 5 6 8 rfl rfl rfl rfl rfl) fun a18 H18 => ?_
      clear H17
      refine h_op H18 rfl (wn rfl) (R_pick H18 rfl rfl rfl) rfl (P4 101 5 6 8 rfl rfl rfl rfl) fun a19 H19 => ?_
      clear H18
      refine h_op H19 rfl (wn rfl) (R_mv H19 rfl rfl) rfl (P4 102 5 6 8 rfl rfl rfl rfl) fun a20 H20 => ?_
      clear H19
      refine h_op H20 rfl (H20.wt rfl rfl rfl) (R_mv H20 rfl rfl) rfl (P4 103 102 5 8 rfl rfl rfl rfl) fun a21 H21 => ?_
      clear H20
      refine h_op H21 rfl (H21.wt rfl rfl rfl) (R_mv H21 rfl rfl) rfl (P4 104 103 102 8 rfl rfl rfl rfl) fun a22 H22 => ?_
      clear H21
      refine h_op H22 rfl (H22.wt rfl rfl rfl) (R_mv H22 rfl rfl) rfl (P4 105 104 103 102 rfl rfl rfl rfl) fun a23 H23 => ?_
      clear H22
      refine h_call H23 rfl (H23.wt rfl rfl rfl) (R_call3 H23 rfl rfl rfl rfl (fun w => by simp [go_sem])) rfl ?_
      refine (stands_k (n := ((n0 % 4 : Nat) : Int)) (i := j) (So := S) hL hS' (by omega) (by omega) (by omega) hex).mono ?_
      rintro e w24 ⟨rfl, hL2⟩
      replace hL := hL2
      clear hL2
      refine ⟨_, rfl, fun a24 HH => ?_⟩
      have H24 := HH _ (P2 106 102 rfl rfl)
      clear HH H23
      refine h_op H24 rfl (wn rfl) (R_pick H24 rfl rfl rfl) rfl (P1 107 rfl) fun a25 H25 => ?_
      clear H24
      refine h_op H25 rfl (wn rfl) (R_as H25 rfl rfl) rfl (P1 4 rfl) fun a26 H26 => ?_
      clear H25
      refine h_end ?_
      repeat (go_not_at_region 999; go_step)
      exact H26.ret1 rfl rfl ⟨rfl, hL.below⟩
end
end Go.Proofs.YthkeiclhllikjaaGreat
