/-
  shard.Same.
-/
import Derived.Test.YtnjfjdfjheiocaaGreatShT
set_option linter.unusedSimpArgs false
set_option linter.unusedVariables false
namespace Go.Proofs.YtnjfjdfjheiocaaGreat
open Go.RowKit
theorem flat_get {α : Type} {enc : α → List Value} {K : Nat} (hk : ∀ x, (enc x).length = K) : ∀ (M : List α) (j k : Nat) (hj : j < M.length), k < K → (M.flatMap enc)[j * K + k]? = (enc M[j])[k]?
  | [], j, k, hj, _ => by simp at hj
  | x :: r, 0, k, _, h => by
    rw [List.flatMap_cons, Nat.zero_mul, Nat.zero_add, List.getElem?_append_left (by rw [hk]; exact h)]
    rfl
  | x :: r, j + 1, k, hj, h => by
    have e : (j + 1) * K + k - K = j * K + k := by rw [Nat.add_mul]; omega
    rw [List.flatMap_cons, List.getElem?_append_right (by rw [hk, Nat.add_mul]; omega), hk, e, flat_get hk r j k (by simpa using hj) h]
    rfl
/-- Such a row is read. -/
theorem prow_rd {α : Type} {e : TypeId} {K : Nat} {enc : α → List Value} (hk : ∀ x, (enc x).length = K) {M : List α} {v : Value} {X : List Thg} (h : PRow e K v M.length (M.flatMap enc) X) : ∃ q c, v = .slice q M.length c ∧ ∀ (w0 : World) (L : List Thg), RdW w0 (X ++ L) K (fun x => (enc x).toArray) q M := by
  rcases h.2 with ⟨rfl, h0, rfl⟩ | ⟨g, cap, cur, rfl, rfl, h1, h2, h3, h4⟩
  · exact ⟨none, 0, by rw [h0], fun w0 L w _ j hj => by omega⟩
  · refine ⟨_, _, rfl, fun w0 L w hL j hj => ⟨_, rfl, fun k u hu => ?_⟩⟩
    have hL' : LV w0 (bk g cur e :: L) w := hL
    have hk2 : k < K := by
      have := (Array.getElem?_eq_some_iff.1 hu).1
      simpa [hk] using this
    have h5 := flat_get hk M j k hj hk2
    have h6 : j * K + k < M.length * K := by
      have := Nat.mul_le_mul_right K (show j + 1 ≤ M.length from hj)
      rw [Nat.add_mul] at this
      omega
    rw [← h4, List.getElem?_take, if_pos h6, Array.getElem?_toList] at h5
    have e : ((⟨g, 0, none⟩ : Addr).add (j * K)).add k = ⟨g, j * K + k, none⟩ := by
      unfold Addr.add
      by_cases hi0 : j * K = 0 <;> by_cases hk0 : k = 0 <;> simp [hi0, hk0]
    rw [e, hL'.cell, h5]
    simpa using hu
def loL (lo : Nat → Int) : List Int := [lo 0, lo 1, lo 2, lo 3]
def inE (z : Int) : List Value := [.int .i64 z]
/-- Are two states the same? -/
def sameS (S T : PSt) : Bool := ((decide (S.mark = T.mark) && decide (S.M = T.M)) && decide (loL S.lo = loL T.lo)) && decide (upE S.cd 4 = upE T.cd 4)
section
variable {w0 W w : World} {L X Y : List Thg} {A B : Adr} {S T : PSt}
theorem LV.two (h : LV w0 (X ++ stT A S (stT B T L)) w) : LV w0 (stT B T (X ++ stT A S L)) w :=
  h.perm (((List.perm_append_comm_assoc (stT A S []) (stT B T []) L).append_left X).trans (List.perm_append_comm_assoc X (stT B T []) (stT A S L)))
theorem LV.twoB (h : LV w0 (stT B T (X ++ stT A S L)) w) : LV w0 (X ++ stT A S (stT B T L)) w :=
  h.perm ((List.perm_append_comm_assoc (stT B T []) X (stT A S L)).trans ((List.perm_append_comm_assoc (stT B T []) (stT A S []) L).append_left X))
theorem LV.mid (h : LV w0 (Y ++ stT B T (X ++ stT A S L)) w) : LV w0 (X ++ (Y ++ stT B T (stT A S L))) w :=
  h.perm ((List.Perm.append_left Y (List.perm_append_comm_assoc (stT B T []) X (stT A S L))).trans (List.perm_append_comm_assoc Y X _))
theorem B_eqL {A B : Operand} (x y : Int) : ((do eqGuard .eql 2 A B (.int .i64 x) (.int .i64 y); binOp .eql 2 (.int .i64 x) (.int .i64 y)) : Sem Value).run Tryz.prog w = .ok (.bool (decide (x = y))) w := by
  rw [B_eq Tryz.underlying2]
  by_cases h : x = y <;> simp [h]
set_option maxRecDepth 100000 in
theorem shsame_any (hL : LV w0 (stT A S (stT B T L)) W) (hnS : S.M.length < 100000) (hnT : T.M.length < 100000) (hcS : ∀ i, CdOk (S.cd i)) (hcT : ∀ i, CdOk (T.cd i)) : Calls Tryz.prog 26 #[.pointer (some ⟨A.g, 0, none⟩), .pointer (some ⟨B.g, 0, none⟩)] W fun e W' => e = .returned (.bool (sameS S T)) ∧ LV w0 (stT A S (stT B T L)) W' := by
  have huS := upE_len (fun i => (hcS i).len) 4
  have huT := upE_len (fun i => (hcT i).len) 4
  go_enter Tryz.func26, Tryz.ntmps26
  refine wp_fr (n := 43) (m := [(0, _), (1, _)]) ⟨rfl, rfl, by intro p hp; simp only [List.mem_cons, List.not_mem_nil, or_false] at hp; rcases hp with rfl | rfl <;> rfl⟩ fun a0 H0 => ?_
  repeat (go_not_at_region 0; go_step)
  refine wp_region_lit ?_
  refine h_op H0 rfl (wn rfl) (R_as H0 rfl rfl) rfl (P2 0 1 rfl rfl) fun a1 H1 => ?_
  clear H0
  refine h_end ?_
  repeat (go_not_at_region 1; go_step)
  refine wp_region_lit ?_
  refine h_op H1 rfl (wn rfl) (R_mv H1 rfl rfl) rfl (P3 5 0 1 rfl rfl rfl) fun a2 H2 => ?_
  clear H1
  refine h_call H2 rfl (wn rfl) (R_call1 H2 rfl rfl (fun w => by simp [go_sem])) rfl ?_
  refine (shnone_any hL.at_).mono ?_
  rintro e w3 ⟨rfl, hw⟩
  replace hL := hL.eqw hw
  clear hw
  refine ⟨_, rfl, fun a3 HH => ?_⟩
  have H3 := HH _ (P3 6 0 1 rfl rfl rfl)
  clear HH H2
  refine h_op H3 rfl (wn rfl) (R_mv H3 rfl rfl) rfl (P3 7 0 1 rfl rfl rfl) fun a4 H4 => ?_
  clear H3
  refine h_op H4 rfl (H4.wt rfl rfl rfl) (R_mv H4 rfl rfl) rfl (P4 8 7 0 1 rfl rfl rfl rfl) fun a5 H5 => ?_
  clear H4
  refine h_call H5 rfl (H5.wt rfl rfl rfl) (R_call1 H5 rfl rfl (fun w => by simp [go_sem])) rfl ?_
  refine (shnone_any (LV.two (X := []) hL).at_).mono ?_
  rintro e w6 ⟨rfl, hw⟩
  replace hL := hL.eqw hw
  clear hw
  refine ⟨_, rfl, fun a6 HH => ?_⟩
  have H6 := HH _ (P4 9 7 0 1 rfl rfl rfl rfl)
  clear HH H5
  refine h_op H6 rfl (wn rfl) (R_pick H6 rfl rfl rfl) rfl (P3 10 0 1 rfl rfl rfl) fun a7 H7 => ?_
  clear H6
  refine h_end ?_
  repeat (go_not_at_region 3; go_step)
  refine wp_cond_false (H7.ev (x := .tmp 10) rfl) ?_
  repeat (go_not_at_region 3; go_step)
  refine wp_region_lit ?_
  refine h_op H7 rfl (wn rfl) (R_mv H7 rfl rfl) rfl (P3 17 0 1 rfl rfl rfl) fun a8 H8 => ?_
  clear H7
  refine h_call H8 rfl (wn rfl) (R_call1 H8 rfl rfl (fun w => by simp [go_sem])) rfl ?_
  refine (shmark_any hL).mono ?_
  rintro e w9 ⟨rfl, hL2⟩
  clear hL
  have hL := hL2
  clear hL2
  refine ⟨_, rfl, fun a9 HH => ?_⟩
  have H9 := HH _ (P3 18 0 1 rfl rfl rfl)
  clear HH H8
  refine h_op H9 rfl (wn rfl) (R_mv H9 rfl rfl) rfl (P4 19 18 0 1 rfl rfl rfl rfl) fun a10 H10 => ?_
  clear H9
  refine h_call H10 rfl (wn rfl) (R_call1 H10 rfl rfl (fun w => by simp [go_sem])) rfl ?_
  refine (shmark_any (LV.two (X := []) hL)).mono ?_
  rintro e w11 ⟨rfl, hL2⟩
  clear hL
  have hL := LV.twoB (X := []) hL2
  clear hL2
  refine ⟨_, rfl, fun a11 HH => ?_⟩
  have H11 := HH _ (P4 20 18 0 1 rfl rfl rfl rfl)
  clear HH H10
  refine h_op H11 rfl (wn rfl) (R_bin H11 rfl rfl rfl (B_eqL _ _)) rfl (P3 21 0 1 rfl rfl rfl) fun a12 H12 => ?_
  clear H11
  refine h_op H12 rfl (wn rfl) (R_mv H12 rfl rfl) rfl (P3 22 0 1 rfl rfl rfl) fun a13 H13 => ?_
  clear H12
  replace H13 := H13.pick [(0, .pointer (some ⟨A.g, 0, none⟩)), (1, .pointer (some ⟨B.g, 0, none⟩)), (22, .bool (decide (S.mark = T.mark)))] (P3 0 1 22 rfl rfl rfl)
  generalize ht0 : (decide (S.mark = T.mark)) = t0 at H13
  refine wpList_cut [_, _, _, _, _, _, _] (R := fun a' w' => Fr a' 43 [(0, .pointer (some ⟨A.g, 0, none⟩)), (1, .pointer (some ⟨B.g, 0, none⟩)), (29, .bool (t0 && (decide (S.M = T.M))))] ∧ LV w0 (stT A S (stT B T L)) w') ?_ ?_
  · cases t0
    · refine h_skip H13 rfl (H13.wf rfl rfl rfl) rfl (P4 23 0 1 22 rfl rfl rfl rfl) fun a14 H14 => ?_
      clear H13
      refine h_skip H14 rfl (H14.wf rfl rfl rfl) rfl (P4 24 0 1 22 rfl rfl rfl rfl) fun a15 H15 => ?_
      clear H14
      refine h_skip H15 rfl (H15.wf rfl rfl rfl) rfl (P5 25 24 0 1 22 rfl rfl rfl rfl rfl) fun a16 H16 => ?_
      clear H15
      refine h_skip H16 rfl (H16.wf rfl rfl rfl) rfl (P5 26 24 0 1 22 rfl rfl rfl rfl rfl) fun a17 H17 => ?_
      clear H16
      refine h_skip H17 rfl (H17.wf rfl rfl rfl) rfl (P4 27 0 1 22 rfl rfl rfl rfl) fun a18 H18 => ?_
      clear H17
      refine h_op H18 rfl (wn rfl) (R_pick H18 rfl rfl rfl) rfl (P3 28 0 1 rfl rfl rfl) fun a19 H19 => ?_
      clear H18
      refine h_op H19 rfl (wn rfl) (R_mv H19 rfl rfl) rfl (P3 29 0 1 rfl rfl rfl) fun a20 H20 => ?_
      clear H19
      exact h_end ⟨H20.pick _ (P3 0 1 29 rfl rfl rfl), hL⟩
    · refine h_op H13 rfl (H13.wt rfl rfl rfl) (R_mv H13 rfl rfl) rfl (P4 23 0 1 22 rfl rfl rfl rfl) fun a14 H14 => ?_
      clear H13
      refine h_call H14 rfl (H14.wt rfl rfl rfl) (R_call1 H14 rfl rfl (fun w => by simp [go_sem])) rfl ?_
      refine (shopen_any hL hnS).mono ?_
      rintro e w15 ⟨v1, X1, rfl, hr1, hL2⟩
      clear hL
      have hL := hL2
      clear hL2
      obtain ⟨q1, c1, rfl, hc1⟩ := prow_rd (enc := outE) outE_len hr1
      refine ⟨_, rfl, fun a15 HH => ?_⟩
      have H15 := HH _ (P4 24 0 1 22 rfl rfl rfl rfl)
      clear HH H14
      refine h_op H15 rfl (H15.wt rfl rfl rfl) (R_mv H15 rfl rfl) rfl (P5 25 24 0 1 22 rfl rfl rfl rfl rfl) fun a16 H16 => ?_
      clear H15
      refine h_call H16 rfl (H16.wt rfl rfl rfl) (R_call1 H16 rfl rfl (fun w => by simp [go_sem])) rfl ?_
      refine (shopen_any (LV.two hL) hnT).mono ?_
      rintro e w17 ⟨v2, X2, rfl, hr2, hL2⟩
      clear hL
      have hL := hL2
      clear hL2
      obtain ⟨q2, c2, rfl, hc2⟩ := prow_rd (enc := outE) outE_len hr2
      refine ⟨_, rfl, fun a17 HH => ?_⟩
      have H17 := HH _ (P5 26 24 0 1 22 rfl rfl rfl rfl rfl)
      clear HH H16
      refine h_call H17 rfl (H17.wt rfl rfl rfl) (R_call2 H17 rfl rfl rfl (fun w => by simp [go_sem])) rfl ?_
      refine (eqO_any hL (fun w h => hc1 w0 _ w h.mid) (hc2 w0 _) (by omega) (by omega)).mono ?_
      rintro e w18 ⟨rfl, hL2⟩
      clear hL
      have hL := (LV.twoB hL2.dropl).dropl
      clear hL2
      refine ⟨_, rfl, fun a18 HH => ?_⟩
      have H18 := HH _ (P4 27 0 1 22 rfl rfl rfl rfl)
      clear HH H17
      refine h_op H18 rfl (wn rfl) (R_pick H18 rfl rfl rfl) rfl (P3 28 0 1 rfl rfl rfl) fun a19 H19 => ?_
      clear H18
      refine h_op H19 rfl (wn rfl) (R_mv H19 rfl rfl) rfl (P3 29 0 1 rfl rfl rfl) fun a20 H20 => ?_
      clear H19
      exact h_end ⟨H20.pick _ (P3 0 1 29 rfl rfl rfl), hL⟩
  clear hL H13
  rintro a21 wx ⟨H21, hL⟩
  generalize ht1 : (t0 && (decide (S.M = T.M))) = t1 at H21
  refine wpList_cut [_, _, _, _, _, _, _] (R := fun a' w' => Fr a' 43 [(0, .pointer (some ⟨A.g, 0, none⟩)), (1, .pointer (some ⟨B.g, 0, none⟩)), (36, .bool (t1 && (decide (loL S.lo = loL T.lo))))] ∧ LV w0 (stT A S (stT B T L)) w') ?_ ?_
  · cases t1
    · refine h_skip H21 rfl (H21.wf rfl rfl rfl) rfl (P4 30 0 1 29 rfl rfl rfl rfl) fun a22 H22 => ?_
      clear H21
      refine h_skip H22 rfl (H22.wf rfl rfl rfl) rfl (P4 31 0 1 29 rfl rfl rfl rfl) fun a23 H23 => ?_
      clear H22
      refine h_skip H23 rfl (H23.wf rfl rfl rfl) rfl (P5 32 31 0 1 29 rfl rfl rfl rfl rfl) fun a24 H24 => ?_
      clear H23
      refine h_skip H24 rfl (H24.wf rfl rfl rfl) rfl (P5 33 31 0 1 29 rfl rfl rfl rfl rfl) fun a25 H25 => ?_
      clear H24
      refine h_skip H25 rfl (H25.wf rfl rfl rfl) rfl (P4 34 0 1 29 rfl rfl rfl rfl) fun a26 H26 => ?_
      clear H25
      refine h_op H26 rfl (wn rfl) (R_pick H26 rfl rfl rfl) rfl (P3 35 0 1 rfl rfl rfl) fun a27 H27 => ?_
      clear H26
      refine h_op H27 rfl (wn rfl) (R_mv H27 rfl rfl) rfl (P3 36 0 1 rfl rfl rfl) fun a28 H28 => ?_
      clear H27
      exact h_end ⟨H28.pick _ (P3 0 1 36 rfl rfl rfl), hL⟩
    · refine h_op H21 rfl (H21.wt rfl rfl rfl) (R_mv H21 rfl rfl) rfl (P4 30 0 1 29 rfl rfl rfl rfl) fun a22 H22 => ?_
      clear H21
      refine h_call H22 rfl (H22.wt rfl rfl rfl) (R_call1 H22 rfl rfl (fun w => by simp [go_sem])) rfl ?_
      refine (shlows_any hL).mono ?_
      rintro e w23 ⟨v1, X1, rfl, hr1, hL2⟩
      clear hL
      have hL := hL2
      clear hL2
      obtain ⟨q1, c1, rfl, hc1⟩ := prow_rd (enc := inE) (fun _ => rfl) (show PRow 3 1 v1 (loL S.lo).length ((loL S.lo).flatMap inE) X1 from hr1)
      refine ⟨_, rfl, fun a23 HH => ?_⟩
      have H23 := HH _ (P4 31 0 1 29 rfl rfl rfl rfl)
      clear HH H22
      refine h_op H23 rfl (H23.wt rfl rfl rfl) (R_mv H23 rfl rfl) rfl (P5 32 31 0 1 29 rfl rfl rfl rfl rfl) fun a24 H24 => ?_
      clear H23
      refine h_call H24 rfl (H24.wt rfl rfl rfl) (R_call1 H24 rfl rfl (fun w => by simp [go_sem])) rfl ?_
      refine (shlows_any (LV.two hL)).mono ?_
      rintro e w25 ⟨v2, X2, rfl, hr2, hL2⟩
      clear hL
      have hL := hL2
      clear hL2
      obtain ⟨q2, c2, rfl, hc2⟩ := prow_rd (enc := inE) (fun _ => rfl) (show PRow 3 1 v2 (loL T.lo).length ((loL T.lo).flatMap inE) X2 from hr2)
      refine ⟨_, rfl, fun a25 HH => ?_⟩
      have H25 := HH _ (P5 33 31 0 1 29 rfl rfl rfl rfl rfl)
      clear HH H24
      refine h_call H25 rfl (H25.wt rfl rfl rfl) (R_call2 H25 rfl rfl rfl (fun w => by simp [go_sem])) rfl ?_
      refine (eqI_any hL (fun w h => hc1 w0 _ w h.mid) (hc2 w0 _) (by show 4 < 1000000; decide) (by show 4 < 1000000; decide)).mono ?_
      rintro e w26 ⟨rfl, hL2⟩
      clear hL
      have hL := (LV.twoB hL2.dropl).dropl
      clear hL2
      refine ⟨_, rfl, fun a26 HH => ?_⟩
      have H26 := HH _ (P4 34 0 1 29 rfl rfl rfl rfl)
      clear HH H25
      refine h_op H26 rfl (wn rfl) (R_pick H26 rfl rfl rfl) rfl (P3 35 0 1 rfl rfl rfl) fun a27 H27 => ?_
      clear H26
      refine h_op H27 rfl (wn rfl) (R_mv H27 rfl rfl) rfl (P3 36 0 1 rfl rfl rfl) fun a28 H28 => ?_
      clear H27
      exact h_end ⟨H28.pick _ (P3 0 1 36 rfl rfl rfl), hL⟩
  clear hL H21
  rintro a29 wx ⟨H29, hL⟩
  generalize ht2 : (t1 && (decide (loL S.lo = loL T.lo))) = t2 at H29
  refine wpList_cut [_, _, _, _, _, _] (R := fun a' w' => Fr a' 43 [(0, .pointer (some ⟨A.g, 0, none⟩)), (1, .pointer (some ⟨B.g, 0, none⟩)), (42, .bool (t2 && (decide (upE S.cd 4 = upE T.cd 4))))] ∧ LV w0 (stT A S (stT B T L)) w') ?_ ?_
  · cases t2
    · refine h_skip H29 rfl (H29.wf rfl rfl rfl) rfl (P4 37 0 1 36 rfl rfl rfl rfl) fun a30 H30 => ?_
      clear H29
      refine h_skip H30 rfl (H30.wf rfl rfl rfl) rfl (P4 38 0 1 36 rfl rfl rfl rfl) fun a31 H31 => ?_
      clear H30
      refine h_skip H31 rfl (H31.wf rfl rfl rfl) rfl (P5 39 38 0 1 36 rfl rfl rfl rfl rfl) fun a32 H32 => ?_
      clear H31
      refine h_skip H32 rfl (H32.wf rfl rfl rfl) rfl (P5 40 38 0 1 36 rfl rfl rfl rfl rfl) fun a33 H33 => ?_
      clear H32
      refine h_skip H33 rfl (H33.wf rfl rfl rfl) rfl (P4 41 0 1 36 rfl rfl rfl rfl) fun a34 H34 => ?_
      clear H33
      refine h_op H34 rfl (wn rfl) (R_pick H34 rfl rfl rfl) rfl (P3 42 0 1 rfl rfl rfl) fun a35 H35 => ?_
      clear H34
      exact h_end ⟨H35.pick _ (P3 0 1 42 rfl rfl rfl), hL⟩
    · refine h_op H29 rfl (H29.wt rfl rfl rfl) (R_mv H29 rfl rfl) rfl (P4 37 0 1 36 rfl rfl rfl rfl) fun a30 H30 => ?_
      clear H29
      refine h_call H30 rfl (H30.wt rfl rfl rfl) (R_call1 H30 rfl rfl (fun w => by simp [go_sem])) rfl ?_
      refine (shans_any hL hcS).mono ?_
      rintro e w31 ⟨v1, X1, rfl, hr1, hL2⟩
      clear hL
      have hL := hL2
      clear hL2
      obtain ⟨q1, c1, rfl, hc1⟩ := prow_rd (enc := enC) (fun _ => rfl) hr1
      refine ⟨_, rfl, fun a31 HH => ?_⟩
      have H31 := HH _ (P4 38 0 1 36 rfl rfl rfl rfl)
      clear HH H30
      refine h_op H31 rfl (H31.wt rfl rfl rfl) (R_mv H31 rfl rfl) rfl (P5 39 38 0 1 36 rfl rfl rfl rfl rfl) fun a32 H32 => ?_
      clear H31
      refine h_call H32 rfl (H32.wt rfl rfl rfl) (R_call1 H32 rfl rfl (fun w => by simp [go_sem])) rfl ?_
      refine (shans_any (LV.two hL) hcT).mono ?_
      rintro e w33 ⟨v2, X2, rfl, hr2, hL2⟩
      clear hL
      have hL := hL2
      clear hL2
      obtain ⟨q2, c2, rfl, hc2⟩ := prow_rd (enc := enC) (fun _ => rfl) hr2
      refine ⟨_, rfl, fun a33 HH => ?_⟩
      have H33 := HH _ (P5 40 38 0 1 36 rfl rfl rfl rfl rfl)
      clear HH H32
      refine h_call H33 rfl (H33.wt rfl rfl rfl) (R_call2 H33 rfl rfl rfl (fun w => by simp [go_sem])) rfl ?_
      refine (eqE_any hL (fun w h => hc1 w0 _ w h.mid) (hc2 w0 _) (by omega) (by omega)).mono ?_
      rintro e w34 ⟨rfl, hL2⟩
      clear hL
      have hL := (LV.twoB hL2.dropl).dropl
      clear hL2
      refine ⟨_, rfl, fun a34 HH => ?_⟩
      have H34 := HH _ (P4 41 0 1 36 rfl rfl rfl rfl)
      clear HH H33
      refine h_op H34 rfl (wn rfl) (R_pick H34 rfl rfl rfl) rfl (P3 42 0 1 rfl rfl rfl) fun a35 H35 => ?_
      clear H34
      exact h_end ⟨H35.pick _ (P3 0 1 42 rfl rfl rfl), hL⟩
  clear hL H29
  rintro a36 wx ⟨H36, hL⟩
  generalize ht3 : (t2 && (decide (upE S.cd 4 = upE T.cd 4))) = t3 at H36
  refine h_op H36 rfl (wn rfl) (R_as H36 rfl rfl) rfl (P1 4 rfl) fun a37 H37 => ?_
  clear H36
  refine h_end ?_
  repeat (go_not_at_region 999; go_step)
  exact H37.ret1 rfl rfl ⟨by rw [← ht3, ← ht2, ← ht1, ← ht0]; rfl, hL⟩
end
end Go.Proofs.YtnjfjdfjheiocaaGreat
