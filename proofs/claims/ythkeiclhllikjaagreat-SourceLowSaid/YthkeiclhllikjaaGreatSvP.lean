/-
  Two sources that are alike tell alike.
-/
import Derived.Test.YthkeiclhllikjaaGreatSvM
set_option linter.unusedSimpArgs false
set_option linter.unusedVariables false
namespace Go.Proofs.YthkeiclhllikjaaGreat
open Go.RowKit
section
variable {w0 W w : World} {L X X1 X2 : List Thg} {S : PSrc} {v v1 v2 va vb : Value} {g n : Nat} {l : List (Int × Int × ByteArray)} {pa boa baa pb bob bab : Nat}
theorem PRow.shape {e : TypeId} {size : Nat} {xs : List Value} (h : PRow e size v n xs X) : ∃ q c, v = .slice q n c := by
  rcases h.2 with ⟨rfl, rfl, _⟩ | ⟨g, cap, cur, rfl, _⟩
  · exact ⟨_, _, rfl⟩
  · exact ⟨_, _, rfl⟩
theorem PRow.cellsP {q : Option Addr} {c : Nat} (h : PRow 45 3 (.slice q l.length c) l.length (pkF l) X) : ∀ w, LV w0 (X ++ L) w → ∀ j (hj : j < l.length), ∃ g, q = some ⟨g, 0, none⟩ ∧ w.cell? ⟨g, j * 3, none⟩ = some (.int .i64 l[j].1) ∧ w.cell? ⟨g, j * 3 + 1, none⟩ = some (.int .i64 l[j].2.1) ∧ w.cell? ⟨g, j * 3 + 2, none⟩ = some (.string l[j].2.2) := by
  intro w hL j hj
  obtain ⟨q2, c2, he, hc⟩ := h.pk hL
  cases he
  exact hc j hj
theorem ld_pk {k : Nat} {a b : Int} {s : ByteArray} (h0 : w.cell? ⟨g, k, none⟩ = some (.int .i64 a)) (h1 : w.cell? ⟨g, k + 1, none⟩ = some (.int .i64 b)) (h2 : w.cell? ⟨g, k + 2, none⟩ = some (.string s)) : (Instr.loadAt 45 (.pointer (some ⟨g, k, none⟩))).run Tryz.prog w = .ok (.agg #[.int .i64 a, .int .i64 b, .string s]) w := by
  simp [go_sem, h0, h1, h2]
theorem B_pkne {Y Z : Operand} {a b : Int} {s : ByteArray} : ((do eqGuard .neq 45 Y Z (.agg #[.int .i64 a, .int .i64 b, .string s]) (.agg #[.int .i64 a, .int .i64 b, .string s]); binOp .neq 45 (.agg #[.int .i64 a, .int .i64 b, .string s]) (.agg #[.int .i64 a, .int .i64 b, .string s])) : Sem Value).run Tryz.prog w = .ok (.bool false) w := by
  simp [go_sem, bne]
theorem B_bne {Y Z : Operand} {a : Bool} : ((do eqGuard .neq 4 Y Z (.bool a) (.bool a); binOp .neq 4 (.bool a) (.bool a)) : Sem Value).run Tryz.prog w = .ok (.bool false) w := by cases a <;> simp [go_sem]
set_option maxRecDepth 100000 in
set_option maxHeartbeats 1000000 in
theorem packets_any (h1 : PRow 45 3 v1 l.length (pkF l) X1) (h2 : PRow 45 3 v2 l.length (pkF l) X2) (hL : LV w0 (X1 ++ (X2 ++ L)) W) (hl : l.length ≤ 1000000) : Calls Tryz.prog 26 #[v1, v2] W fun e W' => e = .returned (.bool true) ∧ LV w0 (X1 ++ (X2 ++ L)) W' := by
  obtain ⟨q1, c1, rfl⟩ := h1.shape
  obtain ⟨q2, c2, rfl⟩ := h2.shape
  have hc1 := fun w (h : LV w0 (X1 ++ (X2 ++ L)) w) => h1.cellsP w h
  have hc2 := fun w (h : LV w0 (X1 ++ (X2 ++ L)) w) => h2.cellsP w h.dropl
  go_enter Tryz.func26, Tryz.ntmps26
  refine wp_fr (n := 26) (m := [(0, _), (1, _)]) ⟨rfl, rfl, by intro p hp; simp only [List.mem_cons, List.not_mem_nil, or_false] at hp; rcases hp with rfl | rfl <;> rfl⟩ fun a0 H0 => ?_
  repeat (go_not_at_region 0; go_step)
  refine wp_region_lit ?_
  refine h_op H0 rfl (wn rfl) (R_as H0 rfl rfl) rfl (P2 0 1 rfl rfl) fun a1 H1 => ?_
  clear H0
  refine h_end ?_
  repeat (go_not_at_region 1; go_step)
  refine wp_region_lit ?_
  refine h_op H1 rfl (wn rfl) (R_mv H1 rfl rfl) rfl (P3 6 0 1 rfl rfl rfl) fun a2 H2 => ?_
  clear H1
  refine h_op H2 rfl (wn rfl) (R_lenS H2 rfl rfl Tryz.underlying41) rfl (P3 7 0 1 rfl rfl rfl) fun a3 H3 => ?_
  clear H2
  refine h_op H3 rfl (wn rfl) (R_mv H3 rfl rfl) rfl (P4 8 7 0 1 rfl rfl rfl rfl) fun a4 H4 => ?_
  clear H3
  refine h_op H4 rfl (wn rfl) (R_lenS H4 rfl rfl Tryz.underlying41) rfl (P4 9 7 0 1 rfl rfl rfl rfl) fun a5 H5 => ?_
  clear H4
  refine h_op H5 rfl (wn rfl) (R_bin H5 rfl rfl rfl (B_to (y := false) (B_ne Tryz.underlying3 _ _) (by simp))) rfl (P3 10 0 1 rfl rfl rfl) fun a6 H6 => ?_
  clear H5
  refine h_end ?_
  repeat (go_not_at_region 3; go_step)
  refine wp_cond_false (H6.ev (x := .tmp 10) rfl) ?_
  repeat (go_not_at_region 3; go_step)
  refine wp_region_lit ?_
  refine h_op H6 rfl (wn rfl) (R_as H6 rfl rfl) rfl (P3 5 0 1 rfl rfl rfl) fun a7 H7 => ?_
  clear H6
  refine h_end ?_
  repeat (go_not_at_region 4; go_step)
  obtain ⟨I, hI⟩ : ∃ I : Nat → Act → World → Prop, ∀ n a' w', I n a' w' ↔ ∃ j : Nat, n = l.length - j ∧ j ≤ l.length ∧ Fr a' 26 [(0, .slice q1 l.length c1), (1, .slice q2 l.length c2), (5, .int .i64 (j : Nat))] ∧ LV w0 (X1 ++ (X2 ++ L)) w' := ⟨_, fun _ _ _ => Iff.rfl⟩
  have HI := Lib.hid hI
  clear hI
  refine wp_loop_ghost I l.length ((HI.out _ _ _).2 ⟨0, rfl, Nat.zero_le _, H7.pick _ (P3 0 1 5 rfl rfl rfl), hL⟩) ?_
  clear hL H7
  intro n a1 wl hi
  obtain ⟨j, rfl, hj, H0, hL⟩ := (HI.out _ _ _).1 hi
  clear hi
  by_cases hjl : j < l.length
  · repeat (go_not_at_region 4; go_step)
    refine wp_region_lit ?_
    refine h_op H0 rfl (wn rfl) (R_mv H0 rfl rfl) rfl (P4 11 0 1 5 rfl rfl rfl rfl) fun a1 H1 => ?_
    clear H0
    refine h_op H1 rfl (wn rfl) (R_mv H1 rfl rfl) rfl (P5 12 11 0 1 5 rfl rfl rfl rfl rfl) fun a2 H2 => ?_
    clear H1
    refine h_op H2 rfl (wn rfl) (R_lenS H2 rfl rfl Tryz.underlying41) rfl (P5 13 11 0 1 5 rfl rfl rfl rfl rfl) fun a3 H3 => ?_
    clear H2
    refine h_op H3 rfl (wn rfl) (R_bin H3 rfl rfl rfl (B_to (y := true) (B_lt Tryz.underlying3 _ _) (decide_eq_true (by omega)))) rfl (P4 14 0 1 5 rfl rfl rfl rfl) fun a4 H4 => ?_
    clear H3
    refine h_end ?_
    repeat (go_not_at_region 6; go_step)
    refine wp_cond_true (H4.ev (x := .tmp 14) rfl) ?_
    obtain ⟨g1, rfl, _⟩ := hc1 _ hL j hjl
    obtain ⟨g2, rfl, _⟩ := hc2 _ hL j hjl
    have hx1 : ∀ w, LV w0 (X1 ++ (X2 ++ L)) w → w.cell? ⟨g1, j * 3, none⟩ = some (.int .i64 l[j].1) ∧ w.cell? ⟨g1, j * 3 + 1, none⟩ = some (.int .i64 l[j].2.1) ∧ w.cell? ⟨g1, j * 3 + 2, none⟩ = some (.string l[j].2.2) := fun w h => by obtain ⟨g, e, hh⟩ := hc1 w h j hjl; cases e; exact hh
    have hx2 : ∀ w, LV w0 (X1 ++ (X2 ++ L)) w → w.cell? ⟨g2, j * 3, none⟩ = some (.int .i64 l[j].1) ∧ w.cell? ⟨g2, j * 3 + 1, none⟩ = some (.int .i64 l[j].2.1) ∧ w.cell? ⟨g2, j * 3 + 2, none⟩ = some (.string l[j].2.2) := fun w h => by obtain ⟨g, e, hh⟩ := hc2 w h j hjl; cases e; exact hh
    repeat (go_not_at_region 6; go_step)
    refine wp_region_held_drew (S := fun w' => LV w0 (X1 ++ (X2 ++ L)) w') (by kernel_rfl) hL.drew (fun hL' => ?_)
    replace hL := hL'
    clear hL'
    refine a_op 0 H4 rfl rfl (by kernel_rfl) (by kernel_rfl) (by kernel_rfl) (fun _ _ _ h => h) (wn rfl) (fun w hL => R_mv H4 rfl rfl) (hL) rfl (P4 17 0 1 5 rfl rfl rfl rfl) fun a5 H5 => ?_
    clear H4
    refine a_op 1 H5 rfl rfl (by kernel_rfl) (by kernel_rfl) (by kernel_rfl) (fun _ _ _ h => h) (wn rfl) (fun w hL => R_mv H5 rfl rfl) (hL) rfl (P5 18 17 0 1 5 rfl rfl rfl rfl rfl) fun a6 H6 => ?_
    clear H5
    refine a_op 4 H6 rfl rfl (by kernel_rfl) (by kernel_rfl) (by kernel_rfl) (fun _ _ _ h => h) (wn rfl) (fun w hL => R_mv H6 rfl rfl) (hL) rfl (P6 21 18 17 0 1 5 rfl rfl rfl rfl rfl rfl) fun a7 H7 => ?_
    clear H6
    refine a_op 5 H7 rfl rfl (by kernel_rfl) (by kernel_rfl) (by kernel_rfl) (fun _ _ _ h => h) (wn rfl) (fun w hL => R_mv H7 rfl rfl) (hL) rfl (P7 22 21 18 17 0 1 5 rfl rfl rfl rfl rfl rfl rfl) fun a8 H8 => ?_
    clear H7
    refine a_op 2 H8 rfl rfl (by kernel_rfl) (by kernel_rfl) (by kernel_rfl) (fun _ _ _ h => h) (wn rfl) (fun w hL => R_ixa H8 rfl rfl rfl (ix_pkj hjl)) (hL) rfl (P6 19 22 21 0 1 5 rfl rfl rfl rfl rfl rfl) fun a9 H9 => ?_
    clear H8
    refine a_op 6 H9 rfl rfl (by kernel_rfl) (by kernel_rfl) (by kernel_rfl) (fun _ _ _ h => h) (wn rfl) (fun w hL => R_ixa H9 rfl rfl rfl (ix_pkj hjl)) (hL) rfl (P5 23 19 0 1 5 rfl rfl rfl rfl rfl) fun a10 H10 => ?_
    clear H9
    refine a_op 3 H10 rfl rfl (by kernel_rfl) (by kernel_rfl) (by kernel_rfl) (fun _ _ _ h => h) (wn rfl) (fun w hL => R_ld H10 rfl rfl (ld_pk (hx1 _ hL).1 (hx1 _ hL).2.1 (hx1 _ hL).2.2)) (hL) rfl (P5 20 23 0 1 5 rfl rfl rfl rfl rfl) fun a11 H11 => ?_
    clear H10
    refine a_op 7 H11 rfl rfl (by kernel_rfl) (by kernel_rfl) (by kernel_rfl) (fun _ _ _ h => h) (wn rfl) (fun w hL => R_ld H11 rfl rfl (ld_pk (hx2 _ hL).1 (hx2 _ hL).2.1 (hx2 _ hL).2.2)) (hL) rfl (P5 24 20 0 1 5 rfl rfl rfl rfl rfl) fun a12 H12 => ?_
    clear H11
    refine a_op 8 H12 rfl rfl (by kernel_rfl) (by kernel_rfl) (by kernel_rfl) (fun _ _ _ h => h) (wn rfl) (fun w hL => R_bin H12 rfl rfl rfl B_pkne) (hL) rfl (P4 25 0 1 5 rfl rfl rfl rfl) fun a13 H13 => ?_
    clear H12
    refine wpAnyH_done (by kernel_rfl) ?_ _
    repeat (go_not_at_region 5; go_step)
    refine wp_cond_false (H13.ev (x := .tmp 25) rfl) ?_
    repeat (go_not_at_region 5; go_step)
    refine wp_region_lit ?_
    refine h_op H13 rfl (wn rfl) (R_mv H13 rfl rfl) rfl (P4 15 0 1 5 rfl rfl rfl rfl) fun a14 H14 => ?_
    clear H13
    refine h_op H14 rfl (wn rfl) (R_bin H14 rfl rfl rfl (B_add Tryz.underlying3 _ _ (by omega) (by omega))) rfl (P4 16 0 1 5 rfl rfl rfl rfl) fun a15 H15 => ?_
    clear H14
    refine h_op H15 rfl (wn rfl) (R_as H15 rfl rfl) rfl (P3 5 0 1 rfl rfl rfl) fun a16 H16 => ?_
    clear H15
    refine h_end ?_
    repeat (go_not_at_region 999; go_step)
    refine ⟨l.length - (j + 1), by omega, (HI.out _ _ _).2 ⟨j + 1, rfl, hjl, H16.pick _ (P3 0 1 5 rfl rfl rfl), hL⟩⟩
  · repeat (go_not_at_region 4; go_step)
    refine wp_region_lit ?_
    refine h_op H0 rfl (wn rfl) (R_mv H0 rfl rfl) rfl (P4 11 0 1 5 rfl rfl rfl rfl) fun a1 H1 => ?_
    clear H0
    refine h_op H1 rfl (wn rfl) (R_mv H1 rfl rfl) rfl (P5 12 11 0 1 5 rfl rfl rfl rfl rfl) fun a2 H2 => ?_
    clear H1
    refine h_op H2 rfl (wn rfl) (R_lenS H2 rfl rfl Tryz.underlying41) rfl (P5 13 11 0 1 5 rfl rfl rfl rfl rfl) fun a3 H3 => ?_
    clear H2
    refine h_op H3 rfl (wn rfl) (R_bin H3 rfl rfl rfl (B_to (y := false) (B_lt Tryz.underlying3 _ _) (decide_eq_false (by omega)))) rfl (P4 14 0 1 5 rfl rfl rfl rfl) fun a4 H4 => ?_
    clear H3
    refine h_end ?_
    repeat (go_not_at_region 8; go_step)
    refine wp_cond_false (H4.ev (x := .tmp 14) rfl) ?_
    repeat (go_not_at_region 8; go_step)
    refine wp_region_lit ?_
    refine h_op H4 rfl (wn rfl) (R_as H4 rfl rfl) rfl (P1 4 rfl) fun a5 H5 => ?_
    clear H4
    refine h_end ?_
    repeat (go_not_at_region 999; go_step)
    exact H5.ret1 rfl rfl ⟨rfl, hL⟩
theorem sameT_self (t : PTab) : sameT t t = true := by simp [sameT]
/-- Two sources' things. -/
theorem LV.ab {a b c d e f : Thg} (h : LV w0 (a :: b :: c :: d :: e :: f :: L) w) : LV w0 (d :: e :: f :: a :: b :: c :: L) w := h.perm ((List.perm_append_comm (l₁ := [a, b, c]) (l₂ := [d, e, f])).append_right L)
theorem LV.mid6 {a b c d e f : Thg} (h : LV w0 (X ++ (a :: b :: c :: d :: e :: f :: L)) w) : LV w0 (d :: e :: f :: (X ++ (a :: b :: c :: L))) w := h.perm (by
  have e1 : (X ++ (a :: b :: c :: d :: e :: f :: L)).Perm (X ++ (d :: e :: f :: a :: b :: c :: L)) := ((List.perm_append_comm (l₁ := [a, b, c]) (l₂ := [d, e, f])).append_right L).append_left X
  exact e1.trans (List.perm_append_comm_assoc X [d, e, f] _))
theorem LV.mid7 {Y : List Thg} {d e f : Thg} (h : LV w0 (Y ++ (d :: e :: f :: (X ++ L))) w) : LV w0 (Y ++ (X ++ (d :: e :: f :: L))) w := h.perm ((List.perm_append_comm_assoc [d, e, f] X L).append_left Y)
theorem LV.mid8 {Y : List Thg} {a b c d e f : Thg} (h : LV w0 (Y ++ (X ++ (d :: e :: f :: a :: b :: c :: L))) w) : LV w0 (a :: b :: c :: d :: e :: f :: L) w := h.dropl.dropl.ab
set_option maxRecDepth 100000 in
set_option maxHeartbeats 4000000 in
theorem alike_any (hL : LV w0 (bk pa (srC S va boa baa) 60 :: mp boa (opE S.L) :: mp baa (anE S.L) :: bk pb (srC S vb bob bab) 60 :: mp bob (opE S.L) :: mp bab (anE S.L) :: L) W) (hva : ∀ w, LV w0 L w → Rd w va S.t.own) (hvb : ∀ w, LV w0 L w → Rd w vb S.t.own)
    (hn : S.L.length < 100000) (l1 : S.t.own.length ≤ 1000000000000) (hok : ∀ q ∈ S.L, q.1.Ok) (s0 : 0 ≤ S.src) (s1 : S.src < 1000) :
    Calls Tryz.prog 29 #[.pointer (some ⟨pa, 0, none⟩), .pointer (some ⟨pb, 0, none⟩)] W fun e W' => e = .returned (.bool true) ∧ Below w0.heap.size w0 W' := by
  have hlp : (pktsM S).length ≤ 100000 := Nat.le_trans (List.length_filterMap_le _ _) (by rw [← opE_len]; exact Nat.le_trans ents_size (by omega))
  go_enter Tryz.func29, Tryz.ntmps29
  refine wp_fr (n := 72) (m := [(0, _), (1, _)]) ⟨rfl, rfl, by intro p hp; simp only [List.mem_cons, List.not_mem_nil, or_false] at hp; rcases hp with rfl | rfl <;> rfl⟩ fun a0 H0 => ?_
  repeat (go_not_at_region 0; go_step)
  refine wp_region_lit ?_
  refine h_op H0 rfl (wn rfl) (R_as H0 rfl rfl) rfl (P2 0 1 rfl rfl) fun a1 H1 => ?_
  clear H0
  refine h_end ?_
  repeat (go_not_at_region 1; go_step)
  refine wp_region_lit ?_
  refine h_op H1 rfl (wn rfl) (R_mv H1 rfl rfl) rfl (P3 10 0 1 rfl rfl rfl) fun a2 H2 => ?_
  clear H1
  refine h_call H2 rfl (wn rfl) (R_call1 H2 rfl rfl (fun w => by simp [go_sem])) rfl ?_
  refine (low_any hL.at_).mono ?_
  rintro e wx ⟨rfl, rfl⟩
  refine ⟨_, rfl, fun a3 HH => ?_⟩
  have H3 := HH _ (P3 11 0 1 rfl rfl rfl)
  clear HH H2
  refine h_op H3 rfl (wn rfl) (R_mv H3 rfl rfl) rfl (P4 12 11 0 1 rfl rfl rfl rfl) fun a4 H4 => ?_
  clear H3
  refine h_call H4 rfl (wn rfl) (R_call1 H4 rfl rfl (fun w => by simp [go_sem])) rfl ?_
  refine (low_any hL.ab.at_).mono ?_
  rintro e wx ⟨rfl, rfl⟩
  refine ⟨_, rfl, fun a5 HH => ?_⟩
  have H5 := HH _ (P4 13 11 0 1 rfl rfl rfl rfl)
  clear HH H4
  refine h_op H5 rfl (wn rfl) (R_bin H5 rfl rfl rfl (B_to (y := false) (B_ne Tryz.underlying3 _ _) (by simp))) rfl (P3 14 0 1 rfl rfl rfl) fun a6 H6 => ?_
  clear H5
  refine h_op H6 rfl (wn rfl) (R_mv H6 rfl rfl) rfl (P3 15 0 1 rfl rfl rfl) fun a7 H7 => ?_
  clear H6
  refine h_op H7 rfl (H7.wt rfl rfl rfl) (R_mv H7 rfl rfl) rfl (P4 16 15 0 1 rfl rfl rfl rfl) fun a8 H8 => ?_
  clear H7
  refine h_call H8 rfl (H8.wt rfl rfl rfl) (R_call1 H8 rfl rfl (fun w => by simp [go_sem])) rfl ?_
  refine (last_any hL.at_).mono ?_
  rintro e wx ⟨rfl, rfl⟩
  refine ⟨_, rfl, fun a9 HH => ?_⟩
  have H9 := HH _ (P4 17 15 0 1 rfl rfl rfl rfl)
  clear HH H8
  refine h_op H9 rfl (H9.wt rfl rfl rfl) (R_mv H9 rfl rfl) rfl (P5 18 17 15 0 1 rfl rfl rfl rfl rfl) fun a10 H10 => ?_
  clear H9
  refine h_call H10 rfl (H10.wt rfl rfl rfl) (R_call1 H10 rfl rfl (fun w => by simp [go_sem])) rfl ?_
  refine (last_any hL.ab.at_).mono ?_
  rintro e wx ⟨rfl, rfl⟩
  refine ⟨_, rfl, fun a11 HH => ?_⟩
  have H11 := HH _ (P5 19 17 15 0 1 rfl rfl rfl rfl rfl)
  clear HH H10
  refine h_op H11 rfl (H11.wt rfl rfl rfl) (R_bin H11 rfl rfl rfl (B_to (y := false) (B_ne Tryz.underlying3 _ _) (by simp))) rfl (P4 20 15 0 1 rfl rfl rfl rfl) fun a12 H12 => ?_
  clear H11
  refine h_op H12 rfl (wn rfl) (R_pick H12 rfl rfl rfl) rfl (P3 21 0 1 rfl rfl rfl) fun a13 H13 => ?_
  clear H12
  refine h_op H13 rfl (wn rfl) (R_mv H13 rfl rfl) rfl (P3 22 0 1 rfl rfl rfl) fun a14 H14 => ?_
  clear H13
  refine h_op H14 rfl (H14.wt rfl rfl rfl) (R_mv H14 rfl rfl) rfl (P4 23 22 0 1 rfl rfl rfl rfl) fun a15 H15 => ?_
  clear H14
  refine h_call H15 rfl (H15.wt rfl rfl rfl) (R_call1 H15 rfl rfl (fun w => by simp [go_sem])) rfl ?_
  refine (left_any hL.at_ (hL.tail.mem_map (by simp))).mono ?_
  rintro e wx ⟨rfl, rfl⟩
  refine ⟨_, rfl, fun a16 HH => ?_⟩
  have H16 := HH _ (P4 24 22 0 1 rfl rfl rfl rfl)
  clear HH H15
  refine h_op H16 rfl (H16.wt rfl rfl rfl) (R_mv H16 rfl rfl) rfl (P5 25 24 22 0 1 rfl rfl rfl rfl rfl) fun a17 H17 => ?_
  clear H16
  refine h_call H17 rfl (H17.wt rfl rfl rfl) (R_call1 H17 rfl rfl (fun w => by simp [go_sem])) rfl ?_
  refine (left_any hL.ab.at_ (hL.ab.tail.mem_map (by simp))).mono ?_
  rintro e wx ⟨rfl, rfl⟩
  refine ⟨_, rfl, fun a18 HH => ?_⟩
  have H18 := HH _ (P5 26 24 22 0 1 rfl rfl rfl rfl rfl)
  clear HH H17
  refine h_op H18 rfl (H18.wt rfl rfl rfl) (R_bin H18 rfl rfl rfl (B_to (y := false) (B_ne Tryz.underlying3 _ _) (by simp))) rfl (P4 27 22 0 1 rfl rfl rfl rfl) fun a19 H19 => ?_
  clear H18
  refine h_op H19 rfl (wn rfl) (R_pick H19 rfl rfl rfl) rfl (P3 28 0 1 rfl rfl rfl) fun a20 H20 => ?_
  clear H19
  refine h_op H20 rfl (wn rfl) (R_mv H20 rfl rfl) rfl (P3 29 0 1 rfl rfl rfl) fun a21 H21 => ?_
  clear H20
  refine h_op H21 rfl (H21.wt rfl rfl rfl) (R_mv H21 rfl rfl) rfl (P4 30 29 0 1 rfl rfl rfl rfl) fun a22 H22 => ?_
  clear H21
  refine h_call H22 rfl (H22.wt rfl rfl rfl) (R_call1 H22 rfl rfl (fun w => by simp [go_sem])) rfl ?_
  refine (stable_any hL.at_ (hva _ hL.tail.tail.tail.tail.tail.tail) l1).mono ?_
  rintro e w23 ⟨vt, Rt, rfl, hrt, hL3⟩
  have hL4 := hL.join hL3
  clear hL3
  refine ⟨_, rfl, fun a23 HH => ?_⟩
  have H23 := HH _ (P4 31 29 0 1 rfl rfl rfl rfl)
  clear HH H22
  refine h_op H23 rfl (H23.wt rfl rfl rfl) (R_mv H23 rfl rfl) rfl (P5 32 31 29 0 1 rfl rfl rfl rfl rfl) fun a24 H24 => ?_
  clear H23
  refine h_call H24 rfl (H24.wt rfl rfl rfl) (R_call1 H24 rfl rfl (fun w => by simp [go_sem])) rfl ?_
  refine (stable_any hL4.dropl.ab.at_ (hvb _ hL4.dropl.tail.tail.tail.tail.tail.tail) l1).mono ?_
  rintro e w25 ⟨vu, Ru, rfl, hru, hL3⟩
  have hL5 := hL4.join hL3
  clear hL3 hL4
  refine ⟨_, rfl, fun a25 HH => ?_⟩
  have H25 := HH _ (P5 33 31 29 0 1 rfl rfl rfl rfl rfl)
  clear HH H24
  refine h_call H25 rfl (H25.wt rfl rfl rfl) (R_call2 H25 rfl rfl rfl (fun w => by simp [go_sem])) rfl ?_
  refine (tsame_any (t := S.t) (u := S.t) (rd_row hrt _ hL5.dropl) l1 (rd_row hru _ hL5) l1).mono ?_
  rintro e w26 ⟨rfl, hb⟩
  replace hL := (hL5.call hb).dropl.dropl
  clear hb hL5
  rw [sameT_self]
  refine ⟨_, rfl, fun a26 HH => ?_⟩
  have H26 := HH _ (P4 34 29 0 1 rfl rfl rfl rfl)
  clear HH H25
  refine h_op H26 rfl (H26.wt rfl rfl rfl) (R_not H26 rfl rfl) rfl (P4 35 29 0 1 rfl rfl rfl rfl) fun a27 H27 => ?_
  clear H26
  refine h_op H27 rfl (wn rfl) (R_pick H27 rfl rfl rfl) rfl (P3 36 0 1 rfl rfl rfl) fun a28 H28 => ?_
  clear H27
  refine h_op H28 rfl (wn rfl) (R_mv H28 rfl rfl) rfl (P3 37 0 1 rfl rfl rfl) fun a29 H29 => ?_
  clear H28
  refine h_op H29 rfl (H29.wt rfl rfl rfl) (R_mv H29 rfl rfl) rfl (P4 38 37 0 1 rfl rfl rfl rfl) fun a30 H30 => ?_
  clear H29
  refine h_call H30 rfl (H30.wt rfl rfl rfl) (R_call1 H30 rfl rfl (fun w => by simp [go_sem])) rfl ?_
  refine (tick_any hL (fun w h => hva w h.tail.tail.tail) hn l1 hok s0 s1).mono ?_
  rintro e w31 ⟨vp, Xp, rfl, hpp, hL4⟩
  clear hL
  refine ⟨_, rfl, fun a31 HH => ?_⟩
  have H31 := HH _ (P4 39 37 0 1 rfl rfl rfl rfl)
  clear HH H30
  refine h_op H31 rfl (H31.wt rfl rfl rfl) (R_mv H31 rfl rfl) rfl (P5 40 39 37 0 1 rfl rfl rfl rfl rfl) fun a32 H32 => ?_
  clear H31
  refine h_call H32 rfl (H32.wt rfl rfl rfl) (R_call1 H32 rfl rfl (fun w => by simp [go_sem])) rfl ?_
  have hL5 : LV w0 (bk pb (srC S vb bob bab) 60 :: mp bob (opE S.L) :: mp bab (anE S.L) :: (Xp ++ (bk pa (srC S va boa baa) 60 :: mp boa (opE S.L) :: mp baa (anE S.L) :: L))) _ := hL4.mid6
  refine (tick_any hL5 (fun w h => hvb w h.dropl.tail.tail.tail) hn l1 hok s0 s1).mono ?_
  rintro e w33 ⟨vq, Xq, rfl, hpq, hL6⟩
  clear hL4 hL5
  refine ⟨_, rfl, fun a33 HH => ?_⟩
  have H33 := HH _ (P5 41 39 37 0 1 rfl rfl rfl rfl rfl)
  clear HH H32
  refine h_call H33 rfl (H33.wt rfl rfl rfl) (R_call2 H33 rfl rfl rfl (fun w => by simp [go_sem])) rfl ?_
  have hL6b := hL6.mid7.perm (List.perm_append_comm_assoc Xq Xp _)
  refine (packets_any (l := pktsM S) (X1 := Xp) (X2 := Xq) (v1 := vp) (v2 := vq) hpp hpq hL6b (Nat.le_trans hlp (by decide))).mono ?_
  rintro e w34 ⟨rfl, hL7⟩
  have hL := hL7.mid8
  clear hL6 hL6b hL7
  refine ⟨_, rfl, fun a34 HH => ?_⟩
  have H34 := HH _ (P4 42 37 0 1 rfl rfl rfl rfl)
  clear HH H33
  refine h_op H34 rfl (H34.wt rfl rfl rfl) (R_not H34 rfl rfl) rfl (P4 43 37 0 1 rfl rfl rfl rfl) fun a35 H35 => ?_
  clear H34
  refine h_op H35 rfl (wn rfl) (R_pick H35 rfl rfl rfl) rfl (P3 44 0 1 rfl rfl rfl) fun a36 H36 => ?_
  clear H35
  refine h_end ?_
  repeat (go_not_at_region 3; go_step)
  refine wp_cond_false (H36.ev (x := .tmp 44) rfl) ?_
  repeat (go_not_at_region 3; go_step)
  refine wp_region_lit ?_
  refine h_op H36 rfl (wn rfl) (R_as H36 rfl rfl) rfl (P3 5 0 1 rfl rfl rfl) fun a37 H37 => ?_
  clear H36
  refine h_end ?_
  repeat (go_not_at_region 4; go_step)
  obtain ⟨I, hI⟩ : ∃ I : Nat → Act → World → Prop, ∀ n a' w', I n a' w' ↔ ∃ j : Nat, n = S.L.length + 2 - j ∧ j ≤ S.L.length + 2 ∧ Fr a' 72 [(0, .pointer (some ⟨pa, 0, none⟩)), (1, .pointer (some ⟨pb, 0, none⟩)), (5, .int .i64 (j : Nat))] ∧ LV w0 (bk pa (srC S va boa baa) 60 :: mp boa (opE S.L) :: mp baa (anE S.L) :: bk pb (srC S vb bob bab) 60 :: mp bob (opE S.L) :: mp bab (anE S.L) :: L) w' := ⟨_, fun _ _ _ => Iff.rfl⟩
  have HI := Lib.hid hI
  clear hI
  refine wp_loop_ghost I (S.L.length + 2) ((HI.out _ _ _).2 ⟨0, rfl, Nat.zero_le _, H37.pick _ (P3 0 1 5 rfl rfl rfl), hL⟩) ?_
  clear hL H37
  intro n a1 wl hi
  obtain ⟨j, rfl, hj, H0, hL⟩ := (HI.out _ _ _).1 hi
  clear hi
  by_cases hjl : j < S.L.length + 2
  · repeat (go_not_at_region 4; go_step)
    refine wp_region_lit ?_
    refine h_op H0 rfl (wn rfl) (R_mv H0 rfl rfl) rfl (P4 45 0 1 5 rfl rfl rfl rfl) fun a1 H1 => ?_
    clear H0
    refine h_op H1 rfl (wn rfl) (R_mv H1 rfl rfl) rfl (P5 46 45 0 1 5 rfl rfl rfl rfl rfl) fun a2 H2 => ?_
    clear H1
    refine h_call H2 rfl (wn rfl) (R_call1 H2 rfl rfl (fun w => by simp [go_sem])) rfl ?_
    refine (last_any hL.at_).mono ?_
    rintro e wx ⟨rfl, rfl⟩
    refine ⟨_, rfl, fun a3 HH => ?_⟩
    have H3 := HH _ (P5 47 45 0 1 5 rfl rfl rfl rfl rfl)
    clear HH H2
    refine h_op H3 rfl (wn rfl) (R_bin H3 rfl rfl rfl (B_add Tryz.underlying3 _ _ (by omega) (by omega))) rfl (P5 48 45 0 1 5 rfl rfl rfl rfl rfl) fun a4 H4 => ?_
    clear H3
    refine h_op H4 rfl (wn rfl) (R_bin H4 rfl rfl rfl (B_to (y := true) (B_le Tryz.underlying3 _ _) (decide_eq_true (by omega)))) rfl (P4 49 0 1 5 rfl rfl rfl rfl) fun a5 H5 => ?_
    clear H4
    refine h_end ?_
    repeat (go_not_at_region 6; go_step)
    refine wp_cond_true (H5.ev (x := .tmp 49) rfl) ?_
    repeat (go_not_at_region 6; go_step)
    refine wp_region_lit ?_
    refine h_op H5 rfl (wn rfl) (R_mv H5 rfl rfl) rfl (P4 53 0 1 5 rfl rfl rfl rfl) fun a6 H6 => ?_
    clear H5
    refine h_op H6 rfl (wn rfl) (R_mv H6 rfl rfl) rfl (P5 54 53 0 1 5 rfl rfl rfl rfl rfl) fun a7 H7 => ?_
    clear H6
    refine h_call H7 rfl (wn rfl) (R_call2 H7 rfl rfl rfl (fun w => by simp [go_sem])) rfl ?_
    refine (answer_any (k := (j : Nat)) hL.at_ (hL.tail.tail.mem_map (by simp)) (by omega) (by omega)).mono ?_
    rintro e wx ⟨rfl, rfl⟩
    refine ⟨_, rfl, fun a8 HH => ?_⟩
    have H8 := HH _ (P4 55 0 1 5 rfl rfl rfl rfl)
    clear HH H7
    refine h_op H8 rfl (wn rfl) (R_mv H8 rfl rfl) rfl (P4 52 0 1 5 rfl rfl rfl rfl) fun a9 H9 => ?_
    clear H8
    refine h_op H9 rfl (wn rfl) (R_ext H9 rfl rfl rfl) rfl (P5 56 52 0 1 5 rfl rfl rfl rfl rfl) fun a10 H10 => ?_
    clear H9
    refine h_op H10 rfl (wn rfl) (R_ext H10 rfl rfl rfl) rfl (P5 57 56 0 1 5 rfl rfl rfl rfl rfl) fun a11 H11 => ?_
    clear H10
    refine h_op H11 rfl (wn rfl) (R_as H11 rfl rfl) rfl (P5 6 57 0 1 5 rfl rfl rfl rfl rfl) fun a12 H12 => ?_
    clear H11
    refine h_op H12 rfl (wn rfl) (R_as H12 rfl rfl) rfl (P5 7 6 0 1 5 rfl rfl rfl rfl rfl) fun a13 H13 => ?_
    clear H12
    refine h_end ?_
    repeat (go_not_at_region 7; go_step)
    refine wp_region_lit ?_
    refine h_op H13 rfl (wn rfl) (R_mv H13 rfl rfl) rfl (P6 59 7 6 0 1 5 rfl rfl rfl rfl rfl rfl) fun a14 H14 => ?_
    clear H13
    refine h_op H14 rfl (wn rfl) (R_mv H14 rfl rfl) rfl (P7 60 59 7 6 0 1 5 rfl rfl rfl rfl rfl rfl rfl) fun a15 H15 => ?_
    clear H14
    refine h_call H15 rfl (wn rfl) (R_call2 H15 rfl rfl rfl (fun w => by simp [go_sem])) rfl ?_
    refine (answer_any (k := (j : Nat)) hL.ab.at_ (hL.ab.tail.tail.mem_map (by simp)) (by omega) (by omega)).mono ?_
    rintro e wx ⟨rfl, rfl⟩
    refine ⟨_, rfl, fun a16 HH => ?_⟩
    have H16 := HH _ (P6 61 7 6 0 1 5 rfl rfl rfl rfl rfl rfl)
    clear HH H15
    refine h_op H16 rfl (wn rfl) (R_mv H16 rfl rfl) rfl (P6 58 7 6 0 1 5 rfl rfl rfl rfl rfl rfl) fun a17 H17 => ?_
    clear H16
    refine h_op H17 rfl (wn rfl) (R_ext H17 rfl rfl rfl) rfl (P7 62 58 7 6 0 1 5 rfl rfl rfl rfl rfl rfl rfl) fun a18 H18 => ?_
    clear H17
    refine h_op H18 rfl (wn rfl) (R_ext H18 rfl rfl rfl) rfl (P7 63 62 7 6 0 1 5 rfl rfl rfl rfl rfl rfl rfl) fun a19 H19 => ?_
    clear H18
    refine h_op H19 rfl (wn rfl) (R_as H19 rfl rfl) rfl (P7 8 63 7 6 0 1 5 rfl rfl rfl rfl rfl rfl rfl) fun a20 H20 => ?_
    clear H19
    refine h_op H20 rfl (wn rfl) (R_as H20 rfl rfl) rfl (P7 9 8 7 6 0 1 5 rfl rfl rfl rfl rfl rfl rfl) fun a21 H21 => ?_
    clear H20
    refine h_end ?_
    repeat (go_not_at_region 8; go_step)
    refine wp_region_lit ?_
    refine h_op H21 rfl (wn rfl) (R_mv H21 rfl rfl) rfl (P7 64 9 8 7 0 1 5 rfl rfl rfl rfl rfl rfl rfl) fun a22 H22 => ?_
    clear H21
    refine h_op H22 rfl (wn rfl) (R_mv H22 rfl rfl) rfl (P7 65 64 9 7 0 1 5 rfl rfl rfl rfl rfl rfl rfl) fun a23 H23 => ?_
    clear H22
    refine h_op H23 rfl (wn rfl) (R_bin H23 rfl rfl rfl (B_to (y := false) (B_ne Tryz.underlying3 _ _) (by simp))) rfl (P6 66 9 7 0 1 5 rfl rfl rfl rfl rfl rfl) fun a24 H24 => ?_
    clear H23
    refine h_op H24 rfl (wn rfl) (R_mv H24 rfl rfl) rfl (P6 67 9 7 0 1 5 rfl rfl rfl rfl rfl rfl) fun a25 H25 => ?_
    clear H24
    refine h_op H25 rfl (H25.wt rfl rfl rfl) (R_mv H25 rfl rfl) rfl (P6 68 67 9 0 1 5 rfl rfl rfl rfl rfl rfl) fun a26 H26 => ?_
    clear H25
    refine h_op H26 rfl (H26.wt rfl rfl rfl) (R_mv H26 rfl rfl) rfl (P6 69 68 67 0 1 5 rfl rfl rfl rfl rfl rfl) fun a27 H27 => ?_
    clear H26
    refine h_op H27 rfl (H27.wt rfl rfl rfl) (R_bin H27 rfl rfl rfl B_bne) rfl (P5 70 67 0 1 5 rfl rfl rfl rfl rfl) fun a28 H28 => ?_
    clear H27
    refine h_op H28 rfl (wn rfl) (R_pick H28 rfl rfl rfl) rfl (P4 71 0 1 5 rfl rfl rfl rfl) fun a29 H29 => ?_
    clear H28
    refine h_end ?_
    repeat (go_not_at_region 5; go_step)
    refine wp_cond_false (H29.ev (x := .tmp 71) rfl) ?_
    repeat (go_not_at_region 5; go_step)
    refine wp_region_lit ?_
    refine h_op H29 rfl (wn rfl) (R_mv H29 rfl rfl) rfl (P4 50 0 1 5 rfl rfl rfl rfl) fun a30 H30 => ?_
    clear H29
    refine h_op H30 rfl (wn rfl) (R_bin H30 rfl rfl rfl (B_add Tryz.underlying3 _ _ (by omega) (by omega))) rfl (P4 51 0 1 5 rfl rfl rfl rfl) fun a31 H31 => ?_
    clear H30
    refine h_op H31 rfl (wn rfl) (R_as H31 rfl rfl) rfl (P3 5 0 1 rfl rfl rfl) fun a32 H32 => ?_
    clear H31
    refine h_end ?_
    repeat (go_not_at_region 999; go_step)
    refine ⟨S.L.length + 2 - (j + 1), by omega, (HI.out _ _ _).2 ⟨j + 1, rfl, hjl, H32.pick _ (P3 0 1 5 rfl rfl rfl), hL⟩⟩
  · repeat (go_not_at_region 4; go_step)
    refine wp_region_lit ?_
    refine h_op H0 rfl (wn rfl) (R_mv H0 rfl rfl) rfl (P4 45 0 1 5 rfl rfl rfl rfl) fun a1 H1 => ?_
    clear H0
    refine h_op H1 rfl (wn rfl) (R_mv H1 rfl rfl) rfl (P5 46 45 0 1 5 rfl rfl rfl rfl rfl) fun a2 H2 => ?_
    clear H1
    refine h_call H2 rfl (wn rfl) (R_call1 H2 rfl rfl (fun w => by simp [go_sem])) rfl ?_
    refine (last_any hL.at_).mono ?_
    rintro e wx ⟨rfl, rfl⟩
    refine ⟨_, rfl, fun a3 HH => ?_⟩
    have H3 := HH _ (P5 47 45 0 1 5 rfl rfl rfl rfl rfl)
    clear HH H2
    refine h_op H3 rfl (wn rfl) (R_bin H3 rfl rfl rfl (B_add Tryz.underlying3 _ _ (by omega) (by omega))) rfl (P5 48 45 0 1 5 rfl rfl rfl rfl rfl) fun a4 H4 => ?_
    clear H3
    refine h_op H4 rfl (wn rfl) (R_bin H4 rfl rfl rfl (B_to (y := false) (B_le Tryz.underlying3 _ _) (decide_eq_false (by omega)))) rfl (P4 49 0 1 5 rfl rfl rfl rfl) fun a5 H5 => ?_
    clear H4
    refine h_end ?_
    repeat (go_not_at_region 10; go_step)
    refine wp_cond_false (H5.ev (x := .tmp 49) rfl) ?_
    repeat (go_not_at_region 10; go_step)
    refine wp_region_lit ?_
    refine h_op H5 rfl (wn rfl) (R_as H5 rfl rfl) rfl (P1 4 rfl) fun a6 H6 => ?_
    clear H5
    refine h_end ?_
    repeat (go_not_at_region 999; go_step)
    exact H6.ret1 rfl rfl ⟨rfl, hL.1⟩
end
end Go.Proofs.YthkeiclhllikjaaGreat
