/-
  SourceKnown: its walk.
-/
import Derived.Test.YthkeiclhllikjaaGreatSvM
set_option linter.unusedSimpArgs false
set_option linter.unusedVariables false
namespace Go.Proofs.YthkeiclhllikjaaGreat
open Go.RowKit
section
variable {w0 W w : World} {L X : List Thg} {g : Nat}
theorem bd_itb {k : Nat} {a : Int} : (Instr.build 33 #[(3, .int .u8 (k : Nat)), (5, .int .i64 a)]).run Tryz.prog w = .ok (.agg (itC ⟨0, 0, 0, k, .empty, a, 0, 0⟩)) w := by
  simp [go_sem]
  rfl
theorem bd_itc {k : Nat} : (Instr.build 33 #[(3, .int .u8 (k : Nat))]).run Tryz.prog w = .ok (.agg (itC ⟨0, 0, 0, k, .empty, 0, 0, 0⟩)) w := by
  simp [go_sem]
  rfl
theorem bd_ans0 {a b : Int} : (Instr.build 37 #[(0, .int .u8 2), (9, .agg (itC ⟨a, b, 0, 0, .empty, 0, 0, 0⟩))]).run Tryz.prog w = .ok (.agg (mcells (ansMsg a b 0) (.slice none 0 0) (.slice none 0 0))) w := by
  simp [go_sem]
  rfl
/-- A table that is told. -/
def tblMsg (t : PTab) : PMsg := { PMsg.zero with kind := 14, epoch := t.ep, nodes := t.nd, owner := t.own }
theorem bd_tbl {t : PTab} {q : Option Addr} {l c : Nat} : (Instr.build 37 #[(0, .int .u8 14), (10, .agg (tbC t (.slice q l c)))]).run Tryz.prog w = .ok (.agg (mcells (tblMsg t) (.slice q l c) (.slice none 0 0))) w := by
  simp [go_sem]
  rfl
end
def T2 : PTab := ⟨2, 2, [0, 0]⟩
def S3 : PSrc := ⟨1, T2, [(x1, 2)]⟩
def x4 : PItem := ⟨1, 2, 0, 2, .empty, 1, 0, 0⟩
def y4 : PItem := ⟨1, 2, 2, 2, .empty, 1, 0, 0⟩
def S4 : PSrc := ⟨1, T2, [(x1, 2), (x4, 0)]⟩
theorem sendA : sendM S1 ⟨0, 0, 0, 2, .empty, 2, 0, 0⟩ = (S1, 0, 21) := by kernel_rfl
theorem sendB : sendM S1 ⟨0, 0, 0, 3, .empty, 0, 0, 0⟩ = (S1, 0, 10) := by kernel_rfl
theorem sendC : sendM S1 ⟨0, 0, 0, 1, .empty, 1, 0, 0⟩ = (S1, 0, 21) := by kernel_rfl
theorem handA : handleM S1 (ansMsg 1 1 0) = (S1, false) := by kernel_rfl
theorem handB : handleM S1 (ansMsg 2 1 1) = (S1, false) := by kernel_rfl
theorem handC : handleM S2 (ansMsg 1 1 1) = (S2, false) := by kernel_rfl
theorem handD : handleM S2 (tblMsg T2) = (S3, true) := by kernel_rfl
theorem sendD : sendM S3 ⟨0, 0, 0, 2, .empty, 1, 0, 0⟩ = (S4, 2, 0) := by kernel_rfl
theorem y4_good : y4.Good := ⟨⟨by decide, by decide, by decide, by decide, by decide, by decide⟩, by decide, by decide, by decide, by decide, by decide, by decide, by decide, by decide, by decide⟩
theorem x4_ok : x4.Ok := ⟨by decide, by decide, by decide, by decide, by decide, by decide⟩
theorem pk4 : pktsM S4 = [(5, 0, itD y4)] := by
  have e : pktsM S4 = [x4].filterMap (pkt S4) := rfl
  have e2 : pkt S4 x4 = some (5, 0, itD y4) := by
    unfold pkt
    rw [show ({ x4 with low := ((lowN S4.L : Nat) : Int) } : PItem) = y4 from rfl, item_data y4_good]
    rfl
  rw [e, List.filterMap_cons, e2]
  rfl
theorem ok1 : ∀ q ∈ S1.L, q.1.Ok := fun q hq => by rcases List.mem_singleton.1 hq with rfl; exact x1_ok
theorem ok2 : ∀ q ∈ S2.L, q.1.Ok := fun q hq => by rcases List.mem_singleton.1 hq with rfl; exact x1_ok
theorem ok4 : ∀ q ∈ S4.L, q.1.Ok := fun q hq => by
  rcases List.mem_cons.1 hq with rfl | hq
  · exact x1_ok
  · rcases List.mem_singleton.1 hq with rfl
    exact x4_ok
section
variable {W : World}
set_option maxRecDepth 100000 in
set_option maxHeartbeats 4000000 in
theorem known_law : Calls Tryz.prog 3 #[] W fun e W' => e = .returned (.bool true) ∧ Below W.heap.size W W' := by
  have hL := LV.init W
  go_enter Tryz.func3, Tryz.ntmps3
  refine wp_fr (n := 166) (m := []) ⟨rfl, rfl, by intro p hp; cases hp⟩ fun a0 H0 => ?_
  repeat (go_not_at_region 0; go_step)
  refine wp_region_lit ?_
  refine h_op H0 rfl (wn rfl) (R_as H0 rfl rfl) rfl .nil fun a1 H1 => ?_
  clear H0
  refine h_end ?_
  repeat (go_not_at_region 1; go_step)
  refine wp_region_lit ?_
  refine h_call H1 rfl (wn rfl) (R_call0 H1 rfl (fun w => by simp [go_sem])) rfl ?_
  refine first_any.mono ?_
  rintro e w2 ⟨vt, R1, rfl, hr1, hL3⟩
  replace hL := hL.join hL3
  clear hL3
  refine ⟨_, rfl, fun a2 HH => ?_⟩
  have H2 := HH _ (P1 23 rfl)
  clear HH H1
  refine h_call H2 rfl (wn rfl) (R_call2 H2 rfl rfl rfl (fun w => by simp [go_sem])) rfl ?_
  refine (new_any (t := T1) (src := 1) (rd_row hr1 _ hL) (by decide)).mono ?_
  rintro e w3 ⟨hA, _⟩
  obtain ⟨v1, R2, p, bo, ba, rfl, hr2, hL3⟩ := hA (by kernel_rfl)
  obtain ⟨LX, hLX⟩ : ∃ LX, LX = lift R2 ++ (lift R1 ++ []) := ⟨_, rfl⟩
  replace hL : LV W (bk p (srC S0 v1 bo ba) 60 :: mp bo (opE S0.L) :: mp ba (anE S0.L) :: LX) w3 := by rw [hLX]; exact hL.joinV hL3
  clear hL3
  have hv : ∀ w, LV W LX w → Rd w v1 T1.own := fun w h => by rw [hLX] at h; exact rd_row hr2 w h
  clear hLX
  refine ⟨_, rfl, fun a3 HH => ?_⟩
  have H3 := HH _ (P1 24 rfl)
  clear HH H2
  refine h_op H3 rfl (wn rfl) (R_mv H3 rfl rfl) rfl (P1 22 rfl) fun a4 H4 => ?_
  clear H3
  refine h_op H4 rfl (wn rfl) (R_ext H4 rfl rfl rfl) rfl (P2 25 22 rfl rfl) fun a5 H5 => ?_
  clear H4
  refine h_op H5 rfl (wn rfl) (R_ext H5 rfl rfl rfl) rfl (P2 26 25 rfl rfl) fun a6 H6 => ?_
  clear H5
  refine h_op H6 rfl (wn rfl) (R_as H6 rfl rfl) rfl (P2 1 26 rfl rfl) fun a7 H7 => ?_
  clear H6
  refine h_op H7 rfl (wn rfl) (R_as H7 rfl rfl) rfl (P2 2 1 rfl rfl) fun a8 H8 => ?_
  clear H7
  refine h_end ?_
  repeat (go_not_at_region 2; go_step)
  refine wp_region_lit ?_
  refine h_op H8 rfl (wn rfl) (R_mv H8 rfl rfl) rfl (P3 28 2 1 rfl rfl rfl) fun a9 H9 => ?_
  clear H8
  refine h_op H9 rfl (wn rfl) (R_bd3 H9 rfl rfl rfl rfl bd_it3) rfl (P4 29 28 2 1 rfl rfl rfl rfl) fun a10 H10 => ?_
  clear H9
  refine h_call H10 rfl (wn rfl) (R_call2 H10 rfl rfl rfl (fun w => by simp [go_sem])) rfl ?_
  have hq := send_any (x := x0) hL (hv _ hL.tail.tail.tail) (by decide)
  rw [send01] at hq
  refine hq.mono ?_
  rintro e w11 ⟨rfl, hL2⟩
  replace hL := hL2
  clear hL2 hq
  refine ⟨_, rfl, fun a11 HH => ?_⟩
  have H11 := HH _ (P3 30 2 1 rfl rfl rfl)
  clear HH H10
  refine h_op H11 rfl (wn rfl) (R_mv H11 rfl rfl) rfl (P3 27 2 1 rfl rfl rfl) fun a12 H12 => ?_
  clear H11
  refine h_op H12 rfl (wn rfl) (R_ext H12 rfl rfl rfl) rfl (P4 31 27 2 1 rfl rfl rfl rfl) fun a13 H13 => ?_
  clear H12
  refine h_op H13 rfl (wn rfl) (R_ext H13 rfl rfl rfl) rfl (P4 32 31 2 1 rfl rfl rfl rfl) fun a14 H14 => ?_
  clear H13
  refine h_op H14 rfl (wn rfl) (R_as H14 rfl rfl) rfl (P4 3 32 2 1 rfl rfl rfl rfl) fun a15 H15 => ?_
  clear H14
  refine h_op H15 rfl (wn rfl) (R_as H15 rfl rfl) rfl (P4 4 3 2 1 rfl rfl rfl rfl) fun a16 H16 => ?_
  clear H15
  refine h_end ?_
  repeat (go_not_at_region 3; go_step)
  refine wp_region_lit ?_
  refine h_op H16 rfl (wn rfl) (R_mv H16 rfl rfl) rfl (P4 34 3 2 1 rfl rfl rfl rfl) fun a17 H17 => ?_
  clear H16
  refine h_op H17 rfl (wn rfl) (R_bd2 H17 rfl rfl rfl (bd_itb (k := 2))) rfl (P5 35 34 3 2 1 rfl rfl rfl rfl rfl) fun a18 H18 => ?_
  clear H17
  refine h_call H18 rfl (wn rfl) (R_call2 H18 rfl rfl rfl (fun w => by simp [go_sem])) rfl ?_
  have hq := send_any (x := ⟨0, 0, 0, 2, .empty, 2, 0, 0⟩) hL (hv _ hL.tail.tail.tail) (by decide)
  rw [sendA] at hq
  refine hq.mono ?_
  rintro e w19 ⟨rfl, hL2⟩
  replace hL := hL2
  clear hL2 hq
  refine ⟨_, rfl, fun a19 HH => ?_⟩
  have H19 := HH _ (P4 36 3 2 1 rfl rfl rfl rfl)
  clear HH H18
  refine h_op H19 rfl (wn rfl) (R_mv H19 rfl rfl) rfl (P4 33 3 2 1 rfl rfl rfl rfl) fun a20 H20 => ?_
  clear H19
  refine h_op H20 rfl (wn rfl) (R_ext H20 rfl rfl rfl) rfl (P5 37 33 3 2 1 rfl rfl rfl rfl rfl) fun a21 H21 => ?_
  clear H20
  refine h_op H21 rfl (wn rfl) (R_ext H21 rfl rfl rfl) rfl (P5 38 37 3 2 1 rfl rfl rfl rfl rfl) fun a22 H22 => ?_
  clear H21
  refine h_op H22 rfl (wn rfl) (R_as H22 rfl rfl) rfl (P4 38 3 2 1 rfl rfl rfl rfl) fun a23 H23 => ?_
  clear H22
  refine h_op H23 rfl (wn rfl) (R_as H23 rfl rfl) rfl (P4 6 3 2 1 rfl rfl rfl rfl) fun a24 H24 => ?_
  clear H23
  refine h_end ?_
  repeat (go_not_at_region 4; go_step)
  refine wp_region_lit ?_
  refine h_op H24 rfl (wn rfl) (R_mv H24 rfl rfl) rfl (P5 40 6 3 2 1 rfl rfl rfl rfl rfl) fun a25 H25 => ?_
  clear H24
  refine h_op H25 rfl (wn rfl) (R_bd1 H25 rfl rfl (bd_itc (k := 3))) rfl (P6 41 40 6 3 2 1 rfl rfl rfl rfl rfl rfl) fun a26 H26 => ?_
  clear H25
  refine h_call H26 rfl (wn rfl) (R_call2 H26 rfl rfl rfl (fun w => by simp [go_sem])) rfl ?_
  have hq := send_any (x := ⟨0, 0, 0, 3, .empty, 0, 0, 0⟩) hL (hv _ hL.tail.tail.tail) (by decide)
  rw [sendB] at hq
  refine hq.mono ?_
  rintro e w27 ⟨rfl, hL2⟩
  replace hL := hL2
  clear hL2 hq
  refine ⟨_, rfl, fun a27 HH => ?_⟩
  have H27 := HH _ (P5 42 6 3 2 1 rfl rfl rfl rfl rfl)
  clear HH H26
  refine h_op H27 rfl (wn rfl) (R_mv H27 rfl rfl) rfl (P5 39 6 3 2 1 rfl rfl rfl rfl rfl) fun a28 H28 => ?_
  clear H27
  refine h_op H28 rfl (wn rfl) (R_ext H28 rfl rfl rfl) rfl (P6 43 39 6 3 2 1 rfl rfl rfl rfl rfl rfl) fun a29 H29 => ?_
  clear H28
  refine h_op H29 rfl (wn rfl) (R_ext H29 rfl rfl rfl) rfl (P6 44 43 6 3 2 1 rfl rfl rfl rfl rfl rfl) fun a30 H30 => ?_
  clear H29
  refine h_op H30 rfl (wn rfl) (R_as H30 rfl rfl) rfl (P5 44 6 3 2 1 rfl rfl rfl rfl rfl) fun a31 H31 => ?_
  clear H30
  refine h_op H31 rfl (wn rfl) (R_as H31 rfl rfl) rfl (P5 8 6 3 2 1 rfl rfl rfl rfl rfl) fun a32 H32 => ?_
  clear H31
  refine h_end ?_
  repeat (go_not_at_region 5; go_step)
  refine wp_region_lit ?_
  refine h_op H32 rfl (wn rfl) (R_mv H32 rfl rfl) rfl (P6 46 8 6 3 2 1 rfl rfl rfl rfl rfl rfl) fun a33 H33 => ?_
  clear H32
  refine h_op H33 rfl (wn rfl) (R_bd2 H33 rfl rfl rfl (bd_itb (k := 1))) rfl (P7 47 46 8 6 3 2 1 rfl rfl rfl rfl rfl rfl rfl) fun a34 H34 => ?_
  clear H33
  refine h_call H34 rfl (wn rfl) (R_call2 H34 rfl rfl rfl (fun w => by simp [go_sem])) rfl ?_
  have hq := send_any (x := ⟨0, 0, 0, 1, .empty, 1, 0, 0⟩) hL (hv _ hL.tail.tail.tail) (by decide)
  rw [sendC] at hq
  refine hq.mono ?_
  rintro e w35 ⟨rfl, hL2⟩
  replace hL := hL2
  clear hL2 hq
  refine ⟨_, rfl, fun a35 HH => ?_⟩
  have H35 := HH _ (P6 48 8 6 3 2 1 rfl rfl rfl rfl rfl rfl)
  clear HH H34
  refine h_op H35 rfl (wn rfl) (R_mv H35 rfl rfl) rfl (P6 45 8 6 3 2 1 rfl rfl rfl rfl rfl rfl) fun a36 H36 => ?_
  clear H35
  refine h_op H36 rfl (wn rfl) (R_ext H36 rfl rfl rfl) rfl (P7 49 45 8 6 3 2 1 rfl rfl rfl rfl rfl rfl rfl) fun a37 H37 => ?_
  clear H36
  refine h_op H37 rfl (wn rfl) (R_ext H37 rfl rfl rfl) rfl (P7 50 49 8 6 3 2 1 rfl rfl rfl rfl rfl rfl rfl) fun a38 H38 => ?_
  clear H37
  refine h_op H38 rfl (wn rfl) (R_as H38 rfl rfl) rfl (P6 50 8 6 3 2 1 rfl rfl rfl rfl rfl rfl) fun a39 H39 => ?_
  clear H38
  refine h_op H39 rfl (wn rfl) (R_as H39 rfl rfl) rfl (P6 10 8 6 3 2 1 rfl rfl rfl rfl rfl rfl) fun a40 H40 => ?_
  clear H39
  refine h_end ?_
  repeat (go_not_at_region 6; go_step)
  refine wp_region_lit ?_
  refine h_op H40 rfl (wn rfl) (R_bd2 H40 rfl rfl rfl bd_it2) rfl (P7 51 10 8 6 3 2 1 rfl rfl rfl rfl rfl rfl rfl) fun a41 H41 => ?_
  clear H40
  refine h_opS (bk w35.heap.size (itC itZ) 33 :: bk p (srC S1 v1 bo ba) 60 :: mp bo (opE S1.L) :: mp ba (anE S1.L) :: LX) H41 rfl (wn rfl) (R_alloc rfl al_it) (hL.alloc _ _) rfl (P8 11 51 10 8 6 3 2 1 rfl rfl rfl rfl rfl rfl rfl rfl) fun a42 w42 H42 hL' => ?_
  replace hL := hL'
  clear H41 hL'
  refine h_stS (bk w35.heap.size (itC ⟨1, 1, 0, 0, .empty, 0, 0, 0⟩) 33 :: bk p (srC S1 v1 bo ba) 60 :: mp bo (opE S1.L) :: mp ba (anE S1.L) :: LX) H42 rfl (wn rfl) (R_st H42 rfl rfl rfl (st_it (x := itZ) hL.at_)) (hL.row _) fun a43 w43 H43 hL' => ?_
  replace hL := hL'
  clear H42 hL'
  refine h_end ?_
  obtain ⟨LY0, hLY0⟩ : ∃ LY, LY = bk w35.heap.size (itC ⟨1, 1, 0, 0, .empty, 0, 0, 0⟩) 33 :: LX := ⟨_, rfl⟩
  replace hL := hL.shift (K := [])
  rw [List.nil_append, ← hLY0] at hL
  replace hv : ∀ w, LV W LY0 w → Rd w v1 T1.own := fun w h => hv w (by rw [hLY0] at h; exact h.tail)
  have hG : bk w35.heap.size (itC ⟨1, 1, 0, 0, .empty, 0, 0, 0⟩) 33 ∈ LY0 := by rw [hLY0]; exact List.mem_cons_self
  clear hLY0
  repeat (go_not_at_region 7; go_step)
  refine wp_region_lit ?_
  refine h_op H43 rfl (wn rfl) (R_mv H43 rfl rfl) rfl (P8 52 11 10 8 6 3 2 1 rfl rfl rfl rfl rfl rfl rfl rfl) fun a44 H44 => ?_
  clear H43
  refine h_op H44 rfl (wn rfl) (R_ld H44 rfl rfl (ld_it (hL.mem_at (List.mem_cons_of_mem _ (List.mem_cons_of_mem _ (List.mem_cons_of_mem _ hG)))))) rfl (P9 53 52 11 10 8 6 3 2 1 rfl rfl rfl rfl rfl rfl rfl rfl rfl) fun a45 H45 => ?_
  clear H44
  refine h_op H45 rfl (wn rfl) (R_bd2 H45 rfl rfl rfl bd_ans0) rfl (P9 54 52 11 10 8 6 3 2 1 rfl rfl rfl rfl rfl rfl rfl rfl rfl) fun a46 H46 => ?_
  clear H45
  refine h_call H46 rfl (wn rfl) (R_call2 H46 rfl rfl rfl (fun w => by simp [go_sem])) rfl ?_
  have hq := handle_any (m := ansMsg 1 1 0) (vo := .slice none 0 0) (vs := .slice none 0 0) hL hv (fun w _ => rd_nul w) (by decide) (by decide) (by decide) (by decide) (by decide) rfl
  rw [handA] at hq
  refine hq.mono ?_
  rintro e w47 ⟨u0, X0, rfl, hL2, hv2⟩
  obtain ⟨LY1, hLY1⟩ : ∃ LY, LY = X0 ++ LY0 := ⟨_, rfl⟩
  rw [← hLY1] at hL2 hv2
  replace hL := hL2
  replace hv := hv2
  replace hG : bk w35.heap.size (itC ⟨1, 1, 0, 0, .empty, 0, 0, 0⟩) 33 ∈ LY1 := by rw [hLY1]; exact List.mem_append.2 (.inr hG)
  clear hL2 hv2 hq hLY1
  refine ⟨_, rfl, fun a47 HH => ?_⟩
  have H47 := HH _ (P8 55 11 10 8 6 3 2 1 rfl rfl rfl rfl rfl rfl rfl rfl)
  clear HH H46
  refine h_op H47 rfl (wn rfl) (R_as H47 rfl rfl) rfl (P8 12 11 10 8 6 3 2 1 rfl rfl rfl rfl rfl rfl rfl rfl) fun a48 H48 => ?_
  clear H47
  refine h_end ?_
  repeat (go_not_at_region 8; go_step)
  refine wp_region_lit ?_
  refine h_op H48 rfl (wn rfl) (R_mv H48 rfl rfl) rfl (P9 56 12 11 10 8 6 3 2 1 rfl rfl rfl rfl rfl rfl rfl rfl rfl) fun a49 H49 => ?_
  clear H48
  refine h_op H49 rfl (wn rfl) (R_bd2 H49 rfl rfl rfl bd_it2) rfl (P10 57 56 12 11 10 8 6 3 2 1 rfl rfl rfl rfl rfl rfl rfl rfl rfl rfl) fun a50 H50 => ?_
  clear H49
  refine h_op H50 rfl (wn rfl) (R_bd3 H50 rfl rfl rfl rfl bd_ans) rfl (P10 58 56 12 11 10 8 6 3 2 1 rfl rfl rfl rfl rfl rfl rfl rfl rfl rfl) fun a51 H51 => ?_
  clear H50
  refine h_call H51 rfl (wn rfl) (R_call2 H51 rfl rfl rfl (fun w => by simp [go_sem])) rfl ?_
  have hq := handle_any (m := ansMsg 2 1 1) (vo := .slice none 0 0) (vs := .slice none 0 0) hL hv (fun w _ => rd_nul w) (by decide) (by decide) (by decide) (by decide) (by decide) rfl
  rw [handB] at hq
  refine hq.mono ?_
  rintro e w52 ⟨u1, X1, rfl, hL2, hv2⟩
  obtain ⟨LY2, hLY2⟩ : ∃ LY, LY = X1 ++ LY1 := ⟨_, rfl⟩
  rw [← hLY2] at hL2 hv2
  replace hL := hL2
  replace hv := hv2
  replace hG : bk w35.heap.size (itC ⟨1, 1, 0, 0, .empty, 0, 0, 0⟩) 33 ∈ LY2 := by rw [hLY2]; exact List.mem_append.2 (.inr hG)
  clear hL2 hv2 hq hLY2
  refine ⟨_, rfl, fun a52 HH => ?_⟩
  have H52 := HH _ (P9 59 12 11 10 8 6 3 2 1 rfl rfl rfl rfl rfl rfl rfl rfl rfl)
  clear HH H51
  refine h_op H52 rfl (wn rfl) (R_as H52 rfl rfl) rfl (P9 13 12 11 10 8 6 3 2 1 rfl rfl rfl rfl rfl rfl rfl rfl rfl) fun a53 H53 => ?_
  clear H52
  refine h_end ?_
  repeat (go_not_at_region 9; go_step)
  refine wp_region_lit ?_
  refine h_op H53 rfl (wn rfl) (R_mv H53 rfl rfl) rfl (P10 60 13 12 11 10 8 6 3 2 1 rfl rfl rfl rfl rfl rfl rfl rfl rfl rfl) fun a54 H54 => ?_
  clear H53
  refine h_op H54 rfl (wn rfl) (R_ld H54 rfl rfl (ld_it (hL.mem_at (List.mem_cons_of_mem _ (List.mem_cons_of_mem _ (List.mem_cons_of_mem _ hG)))))) rfl (P11 61 60 13 12 11 10 8 6 3 2 1 rfl rfl rfl rfl rfl rfl rfl rfl rfl rfl rfl) fun a55 H55 => ?_
  clear H54
  refine h_op H55 rfl (wn rfl) (R_bd3 H55 rfl rfl rfl rfl bd_ans) rfl (P11 62 60 13 12 11 10 8 6 3 2 1 rfl rfl rfl rfl rfl rfl rfl rfl rfl rfl rfl) fun a56 H56 => ?_
  clear H55
  refine h_call H56 rfl (wn rfl) (R_call2 H56 rfl rfl rfl (fun w => by simp [go_sem])) rfl ?_
  have hq := handle_any (m := ansMsg 1 1 2) (vo := .slice none 0 0) (vs := .slice none 0 0) hL hv (fun w _ => rd_nul w) (by decide) (by decide) (by decide) (by decide) (by decide) rfl
  rw [hand12] at hq
  refine hq.mono ?_
  rintro e w57 ⟨u2, X2, rfl, hL2, hv2⟩
  obtain ⟨LY3, hLY3⟩ : ∃ LY, LY = X2 ++ LY2 := ⟨_, rfl⟩
  rw [← hLY3] at hL2 hv2
  replace hL := hL2
  replace hv := hv2
  replace hG : bk w35.heap.size (itC ⟨1, 1, 0, 0, .empty, 0, 0, 0⟩) 33 ∈ LY3 := by rw [hLY3]; exact List.mem_append.2 (.inr hG)
  clear hL2 hv2 hq hLY3
  refine ⟨_, rfl, fun a57 HH => ?_⟩
  have H57 := HH _ (P10 63 13 12 11 10 8 6 3 2 1 rfl rfl rfl rfl rfl rfl rfl rfl rfl rfl)
  clear HH H56
  refine h_op H57 rfl (wn rfl) (R_as H57 rfl rfl) rfl (P10 14 13 12 11 10 8 6 3 2 1 rfl rfl rfl rfl rfl rfl rfl rfl rfl rfl) fun a58 H58 => ?_
  clear H57
  refine h_end ?_
  repeat (go_not_at_region 10; go_step)
  refine wp_region_lit ?_
  refine h_op H58 rfl (wn rfl) (R_mv H58 rfl rfl) rfl (P11 64 14 13 12 11 10 8 6 3 2 1 rfl rfl rfl rfl rfl rfl rfl rfl rfl rfl rfl) fun a59 H59 => ?_
  clear H58
  refine h_op H59 rfl (wn rfl) (R_ld H59 rfl rfl (ld_it (hL.mem_at (List.mem_cons_of_mem _ (List.mem_cons_of_mem _ (List.mem_cons_of_mem _ hG)))))) rfl (P11 65 64 14 13 12 10 8 6 3 2 1 rfl rfl rfl rfl rfl rfl rfl rfl rfl rfl rfl) fun a60 H60 => ?_
  clear H59
  refine h_op H60 rfl (wn rfl) (R_bd3 H60 rfl rfl rfl rfl bd_ans) rfl (P11 66 64 14 13 12 10 8 6 3 2 1 rfl rfl rfl rfl rfl rfl rfl rfl rfl rfl rfl) fun a61 H61 => ?_
  clear H60
  refine h_call H61 rfl (wn rfl) (R_call2 H61 rfl rfl rfl (fun w => by simp [go_sem])) rfl ?_
  have hq := handle_any (m := ansMsg 1 1 1) (vo := .slice none 0 0) (vs := .slice none 0 0) hL hv (fun w _ => rd_nul w) (by decide) (by decide) (by decide) (by decide) (by decide) rfl
  rw [handC] at hq
  refine hq.mono ?_
  rintro e w62 ⟨u3, X3, rfl, hL2, hv2⟩
  obtain ⟨LY4, hLY4⟩ : ∃ LY, LY = X3 ++ LY3 := ⟨_, rfl⟩
  rw [← hLY4] at hL2 hv2
  replace hL := hL2
  replace hv := hv2
  replace hG : bk w35.heap.size (itC ⟨1, 1, 0, 0, .empty, 0, 0, 0⟩) 33 ∈ LY4 := by rw [hLY4]; exact List.mem_append.2 (.inr hG)
  clear hL2 hv2 hq hLY4
  refine ⟨_, rfl, fun a62 HH => ?_⟩
  have H62 := HH _ (P10 67 14 13 12 10 8 6 3 2 1 rfl rfl rfl rfl rfl rfl rfl rfl rfl rfl)
  clear HH H61
  refine h_op H62 rfl (wn rfl) (R_as H62 rfl rfl) rfl (P10 15 14 13 12 10 8 6 3 2 1 rfl rfl rfl rfl rfl rfl rfl rfl rfl rfl) fun a63 H63 => ?_
  clear H62
  refine h_end ?_
  repeat (go_not_at_region 11; go_step)
  refine wp_region_lit ?_
  refine h_op H63 rfl (wn rfl) (R_mv H63 rfl rfl) rfl (P11 69 15 14 13 12 10 8 6 3 2 1 rfl rfl rfl rfl rfl rfl rfl rfl rfl rfl rfl) fun a64 H64 => ?_
  clear H63
  refine h_call H64 rfl (wn rfl) (R_call2 H64 rfl rfl rfl (fun w => by simp [go_sem])) rfl ?_
  refine (answer_any (k := 1) hL.at_ (hL.tail.tail.mem_map (by simp)) (by decide) (by decide)).mono ?_
  rintro e wx ⟨rfl, rfl⟩
  refine ⟨_, rfl, fun a65 HH => ?_⟩
  have H65 := HH _ (P11 70 15 14 13 12 10 8 6 3 2 1 rfl rfl rfl rfl rfl rfl rfl rfl rfl rfl rfl)
  clear HH H64
  refine h_op H65 rfl (wn rfl) (R_mv H65 rfl rfl) rfl (P11 68 15 14 13 12 10 8 6 3 2 1 rfl rfl rfl rfl rfl rfl rfl rfl rfl rfl rfl) fun a66 H66 => ?_
  clear H65
  refine h_op H66 rfl (wn rfl) (R_ext H66 rfl rfl rfl) rfl (P12 71 68 15 14 13 12 10 8 6 3 2 1 rfl rfl rfl rfl rfl rfl rfl rfl rfl rfl rfl rfl) fun a67 H67 => ?_
  clear H66
  refine h_op H67 rfl (wn rfl) (R_ext H67 rfl rfl rfl) rfl (P12 72 71 15 14 13 12 10 8 6 3 2 1 rfl rfl rfl rfl rfl rfl rfl rfl rfl rfl rfl rfl) fun a68 H68 => ?_
  clear H67
  refine h_op H68 rfl (wn rfl) (R_as H68 rfl rfl) rfl (P12 16 72 15 14 13 12 10 8 6 3 2 1 rfl rfl rfl rfl rfl rfl rfl rfl rfl rfl rfl rfl) fun a69 H69 => ?_
  clear H68
  refine h_op H69 rfl (wn rfl) (R_as H69 rfl rfl) rfl (P12 17 16 15 14 13 12 10 8 6 3 2 1 rfl rfl rfl rfl rfl rfl rfl rfl rfl rfl rfl rfl) fun a70 H70 => ?_
  clear H69
  refine h_end ?_
  repeat (go_not_at_region 12; go_step)
  refine wp_region_lit ?_
  refine h_op H70 rfl (wn rfl) (R_mv H70 rfl rfl) rfl (P12 73 17 16 15 14 13 12 10 8 6 3 1 rfl rfl rfl rfl rfl rfl rfl rfl rfl rfl rfl rfl) fun a71 H71 => ?_
  clear H70
  refine h_op H71 rfl (wn rfl) (R_bin H71 rfl rfl rfl (B_to (y := false) (B_ne Tryz.underlying23 _ _) (by decide))) rfl (P12 74 17 16 15 14 13 12 10 8 6 3 1 rfl rfl rfl rfl rfl rfl rfl rfl rfl rfl rfl rfl) fun a72 H72 => ?_
  clear H71
  refine h_op H72 rfl (wn rfl) (R_mv H72 rfl rfl) rfl (P12 75 17 16 15 14 13 12 10 8 6 3 1 rfl rfl rfl rfl rfl rfl rfl rfl rfl rfl rfl rfl) fun a73 H73 => ?_
  clear H72
  refine h_op H73 rfl (H73.wt rfl rfl rfl) (R_mv H73 rfl rfl) rfl (P12 76 75 17 16 15 14 13 12 10 8 6 1 rfl rfl rfl rfl rfl rfl rfl rfl rfl rfl rfl rfl) fun a74 H74 => ?_
  clear H73
  refine h_op H74 rfl (H74.wt rfl rfl rfl) (R_bin H74 rfl rfl rfl (B_to (y := false) (B_ne Tryz.underlying3 _ _) (by decide))) rfl (P12 77 75 17 16 15 14 13 12 10 8 6 1 rfl rfl rfl rfl rfl rfl rfl rfl rfl rfl rfl rfl) fun a75 H75 => ?_
  clear H74
  refine h_op H75 rfl (wn rfl) (R_pick H75 rfl rfl rfl) rfl (P11 78 17 16 15 14 13 12 10 8 6 1 rfl rfl rfl rfl rfl rfl rfl rfl rfl rfl rfl) fun a76 H76 => ?_
  clear H75
  refine h_op H76 rfl (wn rfl) (R_mv H76 rfl rfl) rfl (P11 79 17 16 15 14 13 12 10 8 6 1 rfl rfl rfl rfl rfl rfl rfl rfl rfl rfl rfl) fun a77 H77 => ?_
  clear H76
  refine h_op H77 rfl (H77.wt rfl rfl rfl) (R_mv H77 rfl rfl) rfl (P11 80 79 17 16 15 14 13 12 10 8 1 rfl rfl rfl rfl rfl rfl rfl rfl rfl rfl rfl) fun a78 H78 => ?_
  clear H77
  refine h_op H78 rfl (H78.wt rfl rfl rfl) (R_bin H78 rfl rfl rfl (B_to (y := false) (B_ne Tryz.underlying23 _ _) (by decide))) rfl (P11 81 79 17 16 15 14 13 12 10 8 1 rfl rfl rfl rfl rfl rfl rfl rfl rfl rfl rfl) fun a79 H79 => ?_
  clear H78
  refine h_op H79 rfl (wn rfl) (R_pick H79 rfl rfl rfl) rfl (P10 82 17 16 15 14 13 12 10 8 1 rfl rfl rfl rfl rfl rfl rfl rfl rfl rfl) fun a80 H80 => ?_
  clear H79
  refine h_op H80 rfl (wn rfl) (R_mv H80 rfl rfl) rfl (P10 83 17 16 15 14 13 12 10 8 1 rfl rfl rfl rfl rfl rfl rfl rfl rfl rfl) fun a81 H81 => ?_
  clear H80
  refine h_op H81 rfl (H81.wt rfl rfl rfl) (R_mv H81 rfl rfl) rfl (P10 84 83 17 16 15 14 13 12 10 1 rfl rfl rfl rfl rfl rfl rfl rfl rfl rfl) fun a82 H82 => ?_
  clear H81
  refine h_op H82 rfl (H82.wt rfl rfl rfl) (R_bin H82 rfl rfl rfl (B_to (y := false) (B_ne Tryz.underlying23 _ _) (by decide))) rfl (P10 85 83 17 16 15 14 13 12 10 1 rfl rfl rfl rfl rfl rfl rfl rfl rfl rfl) fun a83 H83 => ?_
  clear H82
  refine h_op H83 rfl (wn rfl) (R_pick H83 rfl rfl rfl) rfl (P9 86 17 16 15 14 13 12 10 1 rfl rfl rfl rfl rfl rfl rfl rfl rfl) fun a84 H84 => ?_
  clear H83
  refine h_op H84 rfl (wn rfl) (R_mv H84 rfl rfl) rfl (P9 87 17 16 15 14 13 12 10 1 rfl rfl rfl rfl rfl rfl rfl rfl rfl) fun a85 H85 => ?_
  clear H84
  refine h_op H85 rfl (H85.wt rfl rfl rfl) (R_mv H85 rfl rfl) rfl (P9 88 87 17 16 15 14 13 12 1 rfl rfl rfl rfl rfl rfl rfl rfl rfl) fun a86 H86 => ?_
  clear H85
  refine h_op H86 rfl (H86.wt rfl rfl rfl) (R_bin H86 rfl rfl rfl (B_to (y := false) (B_ne Tryz.underlying23 _ _) (by decide))) rfl (P9 89 87 17 16 15 14 13 12 1 rfl rfl rfl rfl rfl rfl rfl rfl rfl) fun a87 H87 => ?_
  clear H86
  refine h_op H87 rfl (wn rfl) (R_pick H87 rfl rfl rfl) rfl (P8 90 17 16 15 14 13 12 1 rfl rfl rfl rfl rfl rfl rfl rfl) fun a88 H88 => ?_
  clear H87
  refine h_op H88 rfl (wn rfl) (R_mv H88 rfl rfl) rfl (P8 91 17 16 15 14 13 12 1 rfl rfl rfl rfl rfl rfl rfl rfl) fun a89 H89 => ?_
  clear H88
  refine h_op H89 rfl (H89.wt rfl rfl rfl) (R_mv H89 rfl rfl) rfl (P8 92 91 17 16 15 14 13 1 rfl rfl rfl rfl rfl rfl rfl rfl) fun a90 H90 => ?_
  clear H89
  refine h_op H90 rfl (wn rfl) (R_pick H90 rfl rfl rfl) rfl (P7 93 17 16 15 14 13 1 rfl rfl rfl rfl rfl rfl rfl) fun a91 H91 => ?_
  clear H90
  refine h_op H91 rfl (wn rfl) (R_mv H91 rfl rfl) rfl (P7 94 17 16 15 14 13 1 rfl rfl rfl rfl rfl rfl rfl) fun a92 H92 => ?_
  clear H91
  refine h_op H92 rfl (H92.wt rfl rfl rfl) (R_mv H92 rfl rfl) rfl (P7 95 94 17 16 15 14 1 rfl rfl rfl rfl rfl rfl rfl) fun a93 H93 => ?_
  clear H92
  refine h_op H93 rfl (wn rfl) (R_pick H93 rfl rfl rfl) rfl (P6 96 17 16 15 14 1 rfl rfl rfl rfl rfl rfl) fun a94 H94 => ?_
  clear H93
  refine h_op H94 rfl (wn rfl) (R_mv H94 rfl rfl) rfl (P6 97 17 16 15 14 1 rfl rfl rfl rfl rfl rfl) fun a95 H95 => ?_
  clear H94
  refine h_op H95 rfl (H95.wt rfl rfl rfl) (R_mv H95 rfl rfl) rfl (P6 98 97 17 16 15 1 rfl rfl rfl rfl rfl rfl) fun a96 H96 => ?_
  clear H95
  refine h_op H96 rfl (H96.wt rfl rfl rfl) (R_not H96 rfl rfl) rfl (P6 99 97 17 16 15 1 rfl rfl rfl rfl rfl rfl) fun a97 H97 => ?_
  clear H96
  refine h_op H97 rfl (wn rfl) (R_pick H97 rfl rfl rfl) rfl (P5 100 17 16 15 1 rfl rfl rfl rfl rfl) fun a98 H98 => ?_
  clear H97
  refine h_op H98 rfl (wn rfl) (R_mv H98 rfl rfl) rfl (P5 101 17 16 15 1 rfl rfl rfl rfl rfl) fun a99 H99 => ?_
  clear H98
  refine h_op H99 rfl (H99.wt rfl rfl rfl) (R_mv H99 rfl rfl) rfl (P5 102 101 17 16 1 rfl rfl rfl rfl rfl) fun a100 H100 => ?_
  clear H99
  refine h_op H100 rfl (wn rfl) (R_pick H100 rfl rfl rfl) rfl (P4 103 17 16 1 rfl rfl rfl rfl) fun a101 H101 => ?_
  clear H100
  refine h_op H101 rfl (wn rfl) (R_mv H101 rfl rfl) rfl (P4 104 17 16 1 rfl rfl rfl rfl) fun a102 H102 => ?_
  clear H101
  refine h_op H102 rfl (H102.wt rfl rfl rfl) (R_mv H102 rfl rfl) rfl (P4 105 104 17 1 rfl rfl rfl rfl) fun a103 H103 => ?_
  clear H102
  refine h_op H103 rfl (H103.wt rfl rfl rfl) (R_bin H103 rfl rfl rfl (B_to (y := false) (B_ne Tryz.underlying3 _ _) (by decide))) rfl (P4 106 104 17 1 rfl rfl rfl rfl) fun a104 H104 => ?_
  clear H103
  refine h_op H104 rfl (wn rfl) (R_pick H104 rfl rfl rfl) rfl (P3 107 17 1 rfl rfl rfl) fun a105 H105 => ?_
  clear H104
  refine h_op H105 rfl (wn rfl) (R_mv H105 rfl rfl) rfl (P3 108 17 1 rfl rfl rfl) fun a106 H106 => ?_
  clear H105
  refine h_op H106 rfl (H106.wt rfl rfl rfl) (R_mv H106 rfl rfl) rfl (P3 109 108 1 rfl rfl rfl) fun a107 H107 => ?_
  clear H106
  refine h_op H107 rfl (H107.wt rfl rfl rfl) (R_not H107 rfl rfl) rfl (P3 110 108 1 rfl rfl rfl) fun a108 H108 => ?_
  clear H107
  refine h_op H108 rfl (wn rfl) (R_pick H108 rfl rfl rfl) rfl (P2 111 1 rfl rfl) fun a109 H109 => ?_
  clear H108
  refine h_op H109 rfl (wn rfl) (R_mv H109 rfl rfl) rfl (P2 112 1 rfl rfl) fun a110 H110 => ?_
  clear H109
  refine h_op H110 rfl (H110.wt rfl rfl rfl) (R_mv H110 rfl rfl) rfl (P3 113 112 1 rfl rfl rfl) fun a111 H111 => ?_
  clear H110
  refine h_call H111 rfl (H111.wt rfl rfl rfl) (R_call1 H111 rfl rfl (fun w => by simp [go_sem])) rfl ?_
  refine (low_any hL.at_).mono ?_
  rintro e wx ⟨rfl, rfl⟩
  refine ⟨_, rfl, fun a112 HH => ?_⟩
  have H112 := HH _ (P3 114 112 1 rfl rfl rfl)
  clear HH H111
  refine h_op H112 rfl (H112.wt rfl rfl rfl) (R_bin H112 rfl rfl rfl (B_to (y := false) (B_ne Tryz.underlying3 _ _) (by decide))) rfl (P3 115 112 1 rfl rfl rfl) fun a113 H113 => ?_
  clear H112
  refine h_op H113 rfl (wn rfl) (R_pick H113 rfl rfl rfl) rfl (P2 116 1 rfl rfl) fun a114 H114 => ?_
  clear H113
  refine h_op H114 rfl (wn rfl) (R_mv H114 rfl rfl) rfl (P2 117 1 rfl rfl) fun a115 H115 => ?_
  clear H114
  refine h_op H115 rfl (H115.wt rfl rfl rfl) (R_mv H115 rfl rfl) rfl (P3 118 117 1 rfl rfl rfl) fun a116 H116 => ?_
  clear H115
  refine h_call H116 rfl (H116.wt rfl rfl rfl) (R_call1 H116 rfl rfl (fun w => by simp [go_sem])) rfl ?_
  have hq := tick_any hL hv (by decide) (by decide) ok2 (by decide) (by decide)
  rw [pk2] at hq
  refine hq.mono ?_
  rintro e w117 ⟨vp, X1, rfl, hpr, hL2⟩
  obtain ⟨q1, c1, rfl, hpk⟩ := hpr.pk hL2
  clear hpk
  replace hL := hL2.dropl
  clear hL2 hq
  refine ⟨_, rfl, fun a117 HH => ?_⟩
  have H117 := HH _ (P3 119 117 1 rfl rfl rfl)
  clear HH H116
  refine h_op H117 rfl (H117.wt rfl rfl rfl) (R_lenS H117 rfl rfl Tryz.underlying41) rfl (P3 120 117 1 rfl rfl rfl) fun a118 H118 => ?_
  clear H117
  refine h_op H118 rfl (H118.wt rfl rfl rfl) (R_bin H118 rfl rfl rfl (B_to (y := false) (B_ne Tryz.underlying3 _ _) (by decide))) rfl (P3 121 117 1 rfl rfl rfl) fun a119 H119 => ?_
  clear H118
  refine h_op H119 rfl (wn rfl) (R_pick H119 rfl rfl rfl) rfl (P2 122 1 rfl rfl) fun a120 H120 => ?_
  clear H119
  refine h_end ?_
  repeat (go_not_at_region 14; go_step)
  refine wp_cond_false (H120.ev (x := .tmp 122) rfl) ?_
  repeat (go_not_at_region 14; go_step)
  refine wp_region_lit ?_
  refine h_op H120 rfl (wn rfl) (R_mv H120 rfl rfl) rfl (P2 123 1 rfl rfl) fun a121 H121 => ?_
  clear H120
  refine h_opS (bk w117.heap.size #[.int .i64 0, .int .i64 0] 3 :: bk p (srC S2 u3 bo ba) 60 :: mp bo (opE S2.L) :: mp ba (anE S2.L) :: LY4) H121 rfl (wn rfl) (R_bs2 H121 rfl rfl rfl bs_2) (hL.alloc _ _) rfl (P3 124 123 1 rfl rfl rfl) fun a122 w122 H122 hL' => ?_
  replace hL := hL'
  clear H121 hL'
  refine h_op H122 rfl (wn rfl) (R_bd3 H122 rfl rfl rfl rfl (bd_tb (o := [0, 0]))) rfl (P3 125 123 1 rfl rfl rfl) fun a123 H123 => ?_
  clear H122
  refine h_op H123 rfl (wn rfl) (R_bd2 H123 rfl rfl rfl (bd_tbl (t := T2))) rfl (P3 126 123 1 rfl rfl rfl) fun a124 H124 => ?_
  clear H123
  refine h_call H124 rfl (wn rfl) (R_call2 H124 rfl rfl rfl (fun w => by simp [go_sem])) rfl ?_
  have hrb : RowIs 3 (.slice (some ⟨w117.heap.size, 0, none⟩) 2 2) (ints T2.own) [(w117.heap.size, #[.int .i64 0, .int .i64 0], 3)] := .inr ⟨w117.heap.size, 2, #[.int .i64 0, .int .i64 0], rfl, rfl, Nat.le_refl _, by unfold maxLen; omega, rfl, rfl⟩
  obtain ⟨LZ, hLZ⟩ : ∃ LZ, LZ = bk w117.heap.size #[.int .i64 0, .int .i64 0] 3 :: LY4 := ⟨_, rfl⟩
  replace hL := hL.shift (K := [])
  rw [List.nil_append, ← hLZ] at hL
  have hvo : ∀ w, LV W LZ w → Rd w (.slice (some ⟨w117.heap.size, 0, none⟩) 2 2) [0, 0] := fun w h => rd_row (R := [(w117.heap.size, #[.int .i64 0, .int .i64 0], 3)]) (L := LY4) hrb w (by rw [hLZ] at h; exact h)
  replace hv : ∀ w, LV W LZ w → Rd w u3 T1.own := fun w h => hv w (by rw [hLZ] at h; exact h.tail)
  replace hG : bk w35.heap.size (itC ⟨1, 1, 0, 0, .empty, 0, 0, 0⟩) 33 ∈ LZ := by rw [hLZ]; exact List.mem_cons_of_mem _ hG
  have hq := handle_any (m := tblMsg T2) (vo := .slice (some ⟨w117.heap.size, 0, none⟩) 2 2) (vs := .slice none 0 0) hL hv hvo (by decide) (by decide) (by decide) (by decide) (by decide) rfl
  rw [handD] at hq
  refine hq.mono ?_
  rintro e w125 ⟨u4, X4, rfl, hL2, hv2⟩
  obtain ⟨LY5, hLY5⟩ : ∃ LY, LY = X4 ++ LZ := ⟨_, rfl⟩
  rw [← hLY5] at hL2 hv2
  replace hL := hL2
  replace hv := hv2
  replace hG : bk w35.heap.size (itC ⟨1, 1, 0, 0, .empty, 0, 0, 0⟩) 33 ∈ LY5 := by rw [hLY5]; exact List.mem_append.2 (.inr hG)
  clear hL2 hv2 hq hLY5
  refine ⟨_, rfl, fun a125 HH => ?_⟩
  have H125 := HH _ (P2 127 1 rfl rfl)
  clear HH H124
  refine h_op H125 rfl (wn rfl) (R_as H125 rfl rfl) rfl (P2 18 1 rfl rfl) fun a126 H126 => ?_
  clear H125
  refine h_end ?_
  repeat (go_not_at_region 15; go_step)
  refine wp_region_lit ?_
  refine h_op H126 rfl (wn rfl) (R_mv H126 rfl rfl) rfl (P3 129 18 1 rfl rfl rfl) fun a127 H127 => ?_
  clear H126
  refine h_op H127 rfl (wn rfl) (R_bd2 H127 rfl rfl rfl (bd_itb (k := 2))) rfl (P4 130 129 18 1 rfl rfl rfl rfl) fun a128 H128 => ?_
  clear H127
  refine h_call H128 rfl (wn rfl) (R_call2 H128 rfl rfl rfl (fun w => by simp [go_sem])) rfl ?_
  have hq := send_any (x := ⟨0, 0, 0, 2, .empty, 1, 0, 0⟩) hL (hv _ hL.tail.tail.tail) (by decide)
  rw [sendD] at hq
  refine hq.mono ?_
  rintro e w129 ⟨rfl, hL2⟩
  replace hL := hL2
  clear hL2 hq
  refine ⟨_, rfl, fun a129 HH => ?_⟩
  have H129 := HH _ (P3 131 18 1 rfl rfl rfl)
  clear HH H128
  refine h_op H129 rfl (wn rfl) (R_mv H129 rfl rfl) rfl (P3 128 18 1 rfl rfl rfl) fun a130 H130 => ?_
  clear H129
  refine h_op H130 rfl (wn rfl) (R_ext H130 rfl rfl rfl) rfl (P4 132 128 18 1 rfl rfl rfl rfl) fun a131 H131 => ?_
  clear H130
  refine h_op H131 rfl (wn rfl) (R_ext H131 rfl rfl rfl) rfl (P4 133 132 18 1 rfl rfl rfl rfl) fun a132 H132 => ?_
  clear H131
  refine h_op H132 rfl (wn rfl) (R_as H132 rfl rfl) rfl (P4 19 133 18 1 rfl rfl rfl rfl) fun a133 H133 => ?_
  clear H132
  refine h_op H133 rfl (wn rfl) (R_as H133 rfl rfl) rfl (P3 19 18 1 rfl rfl rfl) fun a134 H134 => ?_
  clear H133
  refine h_end ?_
  repeat (go_not_at_region 16; go_step)
  refine wp_region_lit ?_
  refine h_op H134 rfl (wn rfl) (R_mv H134 rfl rfl) rfl (P3 134 19 18 rfl rfl rfl) fun a135 H135 => ?_
  clear H134
  refine h_call H135 rfl (wn rfl) (R_call1 H135 rfl rfl (fun w => by simp [go_sem])) rfl ?_
  have hq := tick_any hL hv (by decide) (by decide) ok4 (by decide) (by decide)
  rw [pk4] at hq
  refine hq.mono ?_
  rintro e w136 ⟨vp, X1, rfl, hpr, hL2⟩
  obtain ⟨q1, c1, rfl, hpk⟩ := hpr.pk hL2
  obtain ⟨g1, rfl, hc0, hc1, hc2⟩ := hpk 0 (by decide)
  replace hL := hL2.dropl
  clear hL2 hq hpk
  refine ⟨_, rfl, fun a136 HH => ?_⟩
  have H136 := HH _ (P3 135 19 18 rfl rfl rfl)
  clear HH H135
  refine h_op H136 rfl (wn rfl) (R_as H136 rfl rfl) rfl (P3 21 19 18 rfl rfl rfl) fun a137 H137 => ?_
  clear H136
  refine h_end ?_
  have hbw : ∀ {w1 w2 : World}, Below w1.heap.size w1 w2 → ∀ {a : Addr} {u : Value}, w1.cell? a = some u → w2.cell? a = some u := fun hb => fun h => (World.cell?_of_block (hb.block _ (cell_some_lt h))).trans h
  repeat (go_not_at_region 17; go_step)
  refine wp_region_lit ?_
  refine h_call H137 rfl (wn rfl) (R_call0 H137 rfl (fun w => by simp [go_sem])) rfl ?_
  refine awake_ok.mono ?_
  rintro e w138 ⟨rfl, hb⟩
  have hc1b := hbw hb hc1
  replace hL := hL.call hb
  clear hb
  refine ⟨_, rfl, fun a138 HH => ?_⟩
  have H138 := HH _ (P4 136 21 19 18 rfl rfl rfl rfl)
  clear HH H137
  refine h_op H138 rfl (wn rfl) (R_mv H138 rfl rfl) rfl (P4 137 21 19 18 rfl rfl rfl rfl) fun a139 H139 => ?_
  clear H138
  refine h_op H139 rfl (H139.wt rfl rfl rfl) (R_mv H139 rfl rfl) rfl (P4 138 137 21 19 rfl rfl rfl rfl) fun a140 H140 => ?_
  clear H139
  refine h_op H140 rfl (wn rfl) (R_pick H140 rfl rfl rfl) rfl (P3 139 21 19 rfl rfl rfl) fun a141 H141 => ?_
  clear H140
  refine h_op H141 rfl (wn rfl) (R_mv H141 rfl rfl) rfl (P3 140 21 19 rfl rfl rfl) fun a142 H142 => ?_
  clear H141
  refine h_op H142 rfl (H142.wt rfl rfl rfl) (R_mv H142 rfl rfl) rfl (P3 141 140 21 rfl rfl rfl) fun a143 H143 => ?_
  clear H142
  refine h_op H143 rfl (H143.wt rfl rfl rfl) (R_bin H143 rfl rfl rfl (B_to (y := true) (B_eq Tryz.underlying3 _ _) (by decide))) rfl (P3 142 140 21 rfl rfl rfl) fun a144 H144 => ?_
  clear H143
  refine h_op H144 rfl (wn rfl) (R_pick H144 rfl rfl rfl) rfl (P2 143 21 rfl rfl) fun a145 H145 => ?_
  clear H144
  refine h_op H145 rfl (wn rfl) (R_mv H145 rfl rfl) rfl (P2 144 21 rfl rfl) fun a146 H146 => ?_
  clear H145
  refine h_op H146 rfl (H146.wt rfl rfl rfl) (R_mv H146 rfl rfl) rfl (P3 145 144 21 rfl rfl rfl) fun a147 H147 => ?_
  clear H146
  refine h_op H147 rfl (H147.wt rfl rfl rfl) (R_lenS H147 rfl rfl Tryz.underlying41) rfl (P3 146 144 21 rfl rfl rfl) fun a148 H148 => ?_
  clear H147
  refine h_op H148 rfl (H148.wt rfl rfl rfl) (R_bin H148 rfl rfl rfl (B_to (y := true) (B_eq Tryz.underlying3 _ _) (by decide))) rfl (P3 147 144 21 rfl rfl rfl) fun a149 H149 => ?_
  clear H148
  refine h_op H149 rfl (wn rfl) (R_pick H149 rfl rfl rfl) rfl (P2 148 21 rfl rfl) fun a150 H150 => ?_
  clear H149
  refine h_op H150 rfl (wn rfl) (R_mv H150 rfl rfl) rfl (P2 149 21 rfl rfl) fun a151 H151 => ?_
  clear H150
  refine h_op H151 rfl (H151.wt rfl rfl rfl) (R_mv H151 rfl rfl) rfl (P2 150 149 rfl rfl) fun a152 H152 => ?_
  clear H151
  refine h_op H152 rfl (H152.wt rfl rfl rfl) (R_ixa H152 rfl rfl rfl (ix_pkj (j := 0) (by decide))) rfl (P2 151 149 rfl rfl) fun a153 H153 => ?_
  clear H152
  refine h_op H153 rfl (H153.wt rfl rfl rfl) (R_fa H153 rfl rfl fk_1) rfl (P2 152 149 rfl rfl) fun a154 H154 => ?_
  clear H153
  refine h_op H154 rfl (H154.wt rfl rfl rfl) (R_ld H154 rfl rfl (ld_int hc1b)) rfl (P2 153 149 rfl rfl) fun a155 H155 => ?_
  clear H154
  refine h_op H155 rfl (H155.wt rfl rfl rfl) (R_bin H155 rfl rfl rfl (B_to (y := true) (B_eq Tryz.underlying3 _ _) (by decide))) rfl (P2 154 149 rfl rfl) fun a156 H156 => ?_
  clear H155
  refine h_op H156 rfl (wn rfl) (R_pick H156 rfl rfl rfl) rfl (P1 155 rfl) fun a157 H157 => ?_
  clear H156
  refine h_op H157 rfl (wn rfl) (R_mv H157 rfl rfl) rfl (P1 156 rfl) fun a158 H158 => ?_
  clear H157
  refine h_op H158 rfl (wn rfl) (R_pick H158 rfl rfl rfl) rfl (P1 157 rfl) fun a159 H159 => ?_
  clear H158
  refine h_op H159 rfl (wn rfl) (R_mv H159 rfl rfl) rfl (P1 158 rfl) fun a160 H160 => ?_
  clear H159
  refine h_op H160 rfl (wn rfl) (R_pick H160 rfl rfl rfl) rfl (P1 159 rfl) fun a161 H161 => ?_
  clear H160
  refine h_op H161 rfl (wn rfl) (R_mv H161 rfl rfl) rfl (P1 160 rfl) fun a162 H162 => ?_
  clear H161
  refine h_op H162 rfl (wn rfl) (R_pick H162 rfl rfl rfl) rfl (P1 161 rfl) fun a163 H163 => ?_
  clear H162
  refine h_op H163 rfl (wn rfl) (R_mv H163 rfl rfl) rfl (P1 162 rfl) fun a164 H164 => ?_
  clear H163
  refine h_op H164 rfl (wn rfl) (R_pick H164 rfl rfl rfl) rfl (P1 163 rfl) fun a165 H165 => ?_
  clear H164
  refine h_op H165 rfl (wn rfl) (R_mv H165 rfl rfl) rfl (P1 164 rfl) fun a166 H166 => ?_
  clear H165
  refine h_op H166 rfl (wn rfl) (R_pick H166 rfl rfl rfl) rfl (P1 165 rfl) fun a167 H167 => ?_
  clear H166
  refine h_op H167 rfl (wn rfl) (R_as H167 rfl rfl) rfl (P1 0 rfl) fun a168 H168 => ?_
  clear H167
  refine h_end ?_
  repeat (go_not_at_region 999; go_step)
  exact H168.ret1 rfl rfl ⟨rfl, hL.1⟩
end
end Go.Proofs.YthkeiclhllikjaaGreat
