/-
  meterref04.numbers: a list that is read, by the document.
-/
import Derived.Test.YtmmhchpilcjflaaMsgWd
import Derived.Test.YtmmhchpilcjflaaMsgWn
set_option linter.unusedSimpArgs false
set_option linter.unusedVariables false
namespace Go.Proofs.Ytmmhchpilcjflaa
open Go.RowKit
/-- So many numbers, one behind the other. -/
def loopE (s : ByteArray) : Nat → Nat → Int → List Int × Nat × Int
  | 0, n, b => ([], n, b)
  | k + 1, n, b => (((mostE s n b 2147483647).1 : Int) :: (loopE s k (mostE s n b 2147483647).2.1 (mostE s n b 2147483647).2.2).1, (loopE s k (mostE s n b 2147483647).2.1 (mostE s n b 2147483647).2.2).2)
def listE (s : ByteArray) (n : Nat) (b : Int) (m : Nat) : List Int × Nat × Int := loopE s (mostE s n b m).1 (mostE s n b m).2.1 (mostE s n b m).2.2
theorem loopE_le {s : ByteArray} : ∀ {k n : Nat} {b : Int}, n ≤ s.size → (loopE s k n b).2.1 ≤ s.size
  | 0, _, _, h => h
  | k + 1, n, b, h => loopE_le (k := k) (mostE_le h)
theorem listE_le {s : ByteArray} {n m : Nat} {b : Int} (h : n ≤ s.size) : (listE s n b m).2.1 ≤ s.size := loopE_le (mostE_le h)
theorem mostE_top {s : ByteArray} {n m : Nat} {b : Int} : (mostE s n b m).1 ≤ m := by
  unfold mostE
  split
  · exact Nat.zero_le _
  · split
    · split
      · assumption
      · exact Nat.zero_le _
    · exact Nat.zero_le _
theorem bs_int {w : World} (x : Int) : (Instr.buildSlice 25 1 #[(0, .int .i64 x)]).run Try.prog w = .ok (.slice (some ⟨w.heap.size, 0, none⟩) 1 1) (w.alloc (.cells #[.int .i64 x] 3)) := by
  simp [go_sem]
section
variable {w0 W : World} {L : List Blk} {g n m : Nat} {s : ByteArray} {b : Int}
set_option maxHeartbeats 4000000 in
set_option maxRecDepth 100000 in
theorem rNumbers_any (hm : m ≤ 1024) (hs : s.size < 140737488351233) (hn : n ≤ s.size) (hL : Live w0 ((g, rcells s n b, 85) :: L) W) : Calls Try.prog 51 #[.pointer (some ⟨g, 0, none⟩), .int .i64 (m : Nat)] W fun e W' => ∃ v B, e = .returned v ∧ RowIs 3 v (ints (listE s n b m).1) B ∧ Live w0 (B ++ (g, rcells s (listE s n b m).2.1 (listE s n b m).2.2, 85) :: L) W' := by
  obtain ⟨i0, hi, hz0, hz1, hz2⟩ := info_parts infoInt
  have hM := inMost_any (m := m) (by omega) hs hn hL
  have hle := mostE_le (m := m) (b := b) hn
  have htop := mostE_top (s := s) (n := n) (b := b) (m := m)
  unfold listE
  generalize mostE s n b m = q at hM hle htop
  obtain ⟨k, n1, b1⟩ := q
  simp only at hM hle htop
  obtain ⟨r, hr⟩ : ∃ r, r = loopE s k n1 b1 := ⟨_, rfl⟩
  simp only
  rw [← hr]
  go_enter Try.func51, Try.ntmps51
  refine wp_fr (n := 22) (m := [(0, _), (1, _)]) ⟨rfl, rfl, by intro p hp; simp only [List.mem_cons, List.not_mem_nil, or_false] at hp; rcases hp with rfl | rfl <;> rfl⟩ fun a0 H0 => ?_
  repeat (go_not_at_region 0; go_step)
  refine wp_region_lit ?_
  refine h_op H0 rfl (wn rfl) (R_as H0 rfl rfl) rfl (P2 0 1 rfl rfl) fun a1 H1 => ?_
  clear H0
  refine h_end ?_
  repeat (go_not_at_region 1; go_step)
  refine wp_region_lit ?_
  refine h_op H1 rfl (wn rfl) (R_mv H1 rfl rfl) rfl (P3 8 0 1 rfl rfl rfl) fun a2 H2 => ?_
  clear H1
  refine h_op H2 rfl (wn rfl) (R_mv H2 rfl rfl) rfl (P3 9 8 0 rfl rfl rfl) fun a3 H3 => ?_
  clear H2
  refine h_call H3 rfl (wn rfl) (R_call2 H3 rfl rfl rfl (fun w => by simp [go_sem])) rfl ?_
  refine hM.mono ?_
  rintro e wx ⟨rfl, hL2⟩
  replace hL := hL2
  clear hL2 hM
  refine ⟨_, rfl, fun a4 HH => ?_⟩
  have H4 := HH _ (P2 10 0 rfl rfl)
  clear HH H3
  refine h_op H4 rfl (wn rfl) (R_as H4 rfl rfl) rfl (P2 5 0 rfl rfl) fun a5 H5 => ?_
  clear H4
  refine h_end ?_
  repeat (go_not_at_region 2; go_step)
  refine wp_region_lit ?_
  refine h_op H5 rfl (wn rfl) (R_as H5 rfl rfl) rfl (P3 6 5 0 rfl rfl rfl) fun a6 H6 => ?_
  clear H5
  refine h_end ?_
  repeat (go_not_at_region 3; go_step)
  refine wp_region_lit ?_
  refine h_op H6 rfl (wn rfl) (R_as H6 rfl rfl) rfl (P4 7 6 5 0 rfl rfl rfl rfl) fun a7 H7 => ?_
  clear H6
  refine h_end ?_
  repeat (go_not_at_region 4; go_step)
  obtain ⟨I, hI⟩ : ∃ I : Nat → Act → World → Prop, ∀ i a' w', I i a' w' ↔ ∃ (j : Nat) (xs : List Int) (n2 : Nat) (b2 : Int) (v : Value) (B : List Blk), i = k - j ∧ j ≤ k ∧ xs.length = j ∧ n2 ≤ s.size ∧ r = (xs ++ (loopE s (k - j) n2 b2).1, (loopE s (k - j) n2 b2).2) ∧ RowIs 3 v (ints xs) B ∧ Fr a' 22 [(0, .pointer (some ⟨g, 0, none⟩)), (5, .int .i64 (k : Nat)), (6, v), (7, .int .i64 (j : Nat))] ∧ Live w0 (B ++ (g, rcells s n2 b2, 85) :: L) w' := ⟨_, fun _ _ _ => Iff.rfl⟩
  have HI := Lib.hid hI
  clear hI
  refine wp_loop_ghost I k ((HI.out _ _ _).2 ⟨0, [], n1, b1, .slice none 0 0, [], rfl, Nat.zero_le _, rfl, hle, hr, RowIs.nil _, H7.pick _ (P4 0 5 6 7 rfl rfl rfl rfl), hL⟩) ?_
  clear hL hr hle
  intro i a1 w1 hi2
  obtain ⟨j, xs, n2, b2, v, B, rfl, hj, hxl, hn2, hr, hrow, H0, hL⟩ := (HI.out _ _ _).1 hi2
  clear hi2
  by_cases hjk : j < k
  · repeat (go_not_at_region 4; go_step)
    refine wp_region_lit ?_
    refine h_op H0 rfl (wn rfl) (R_mv H0 rfl rfl) rfl (P5 11 0 5 6 7 rfl rfl rfl rfl rfl) fun a1 H1 => ?_
    clear H0
    refine h_op H1 rfl (wn rfl) (R_mv H1 rfl rfl) rfl (P6 12 11 0 5 6 7 rfl rfl rfl rfl rfl rfl) fun a2 H2 => ?_
    clear H1
    refine h_op H2 rfl (wn rfl) (R_bin H2 rfl rfl rfl (B_to (y := true) (B_lt Try.underlying3 _ _) (decide_eq_true (by omega)))) rfl (P5 13 0 5 6 7 rfl rfl rfl rfl rfl) fun a3 H3 => ?_
    clear H2
    refine h_end ?_
    repeat (go_not_at_region 6; go_step)
    refine wp_cond_true (H3.ev (x := .tmp 13) rfl) ?_
    repeat (go_not_at_region 6; go_step)
    have hM := inMost_any (m := 2147483647) (by decide) hs hn2 (hL.perm List.perm_middle)
    have hle := mostE_le (m := 2147483647) (b := b2) hn2
    rw [show k - j = (k - (j + 1)) + 1 by omega, loopE] at hr
    generalize mostE s n2 b2 2147483647 = q at hM hle hr
    obtain ⟨x, n3, b3⟩ := q
    simp only at hM hle hr
    clear hL
    refine wp_region_lit ?_
    refine h_op H3 rfl (wn rfl) (R_mv H3 rfl rfl) rfl (P4 16 0 5 7 rfl rfl rfl rfl) fun a4 H4 => ?_
    clear H3
    refine h_op H4 rfl (wn rfl) (R_mv H4 rfl rfl) rfl (P5 17 16 0 5 7 rfl rfl rfl rfl rfl) fun a5 H5 => ?_
    clear H4
    refine h_call H5 rfl (wn rfl) (R_call2 H5 rfl rfl rfl (fun w => by simp [go_sem])) rfl ?_
    refine hM.mono ?_
    rintro e wx ⟨rfl, hL2⟩
    have hL := (hL2.perm List.perm_middle.symm).put_new #[.int .i64 (x : Nat)] 3
    clear hL2 hM
    refine ⟨_, rfl, fun a6 HH => ?_⟩
    have H6 := HH _ (P5 18 16 0 5 7 rfl rfl rfl rfl rfl)
    clear HH H5
    refine h_op H6 rfl (wn rfl) (R_bs1 H6 rfl rfl (bs_int _)) rfl (P5 19 16 0 5 7 rfl rfl rfl rfl rfl) fun a7 H7 => ?_
    clear H6
    refine wpList_append_row rfl (.tmp 16) (.tmp 19) 25 rfl 3 i0 (.int .i64 0) 8 Try.underlying25 hi hz0 hz1 hz2 rfl v (ints xs) (H7.ev rfl) hrow hL ⟨wx.heap.size, 0, none⟩ 1 1 [.int .i64 (x : Nat)] (H7.ev rfl) rfl (cell_one_new _ _ _) (fun u hu => by simp at hu; subst hu; rfl) (by rw [ints_length]; unfold maxLen; omega) (by rw [ints_length]; omega) ?_
    intro v' w' B' hrow' hL' _
    have hL3 := (hL'.perm List.perm_middle).tail
    have H8 := H7.put (d := 20) (v := v') rfl (m' := [(20, _), (0, _), (5, _), (7, _)]) (P4 20 0 5 7 rfl rfl rfl rfl)
    clear H7
    refine h_op H8 rfl (wn rfl) (R_as H8 rfl rfl) rfl (P4 6 0 5 7 rfl rfl rfl rfl) fun a9 H9 => ?_
    clear H8
    refine h_end ?_
    repeat (go_not_at_region 5; go_step)
    refine wp_region_lit ?_
    refine h_op H9 rfl (wn rfl) (R_mv H9 rfl rfl) rfl (P5 14 6 0 5 7 rfl rfl rfl rfl rfl) fun a10 H10 => ?_
    clear H9
    refine h_op H10 rfl (wn rfl) (R_bin H10 rfl rfl rfl (Bi_addB j 1 (by omega))) rfl (P5 15 6 0 5 7 rfl rfl rfl rfl rfl) fun a11 H11 => ?_
    clear H10
    refine h_op H11 rfl (wn rfl) (R_as H11 rfl rfl) rfl (P4 7 6 0 5 rfl rfl rfl rfl) fun a12 H12 => ?_
    clear H11
    refine h_end ?_
    repeat (go_not_at_region 999; go_step)
    refine ⟨k - (j + 1), by omega, (HI.out _ _ _).2 ⟨j + 1, xs ++ [(x : Int)], n3, b3, v', B', rfl, hjk, by rw [List.length_append, hxl]; rfl, hle, by rw [hr, List.append_assoc]; rfl, by rw [show ints (xs ++ [(x : Int)]) = ints xs ++ [.int .i64 (x : Nat)] by simp [ints]]; exact hrow', H12.pick _ (P4 0 5 6 7 rfl rfl rfl rfl), hL3⟩⟩
  · obtain rfl : j = k := by omega
    repeat (go_not_at_region 4; go_step)
    refine wp_region_lit ?_
    refine h_op H0 rfl (wn rfl) (R_mv H0 rfl rfl) rfl (P5 11 0 5 6 7 rfl rfl rfl rfl rfl) fun a1 H1 => ?_
    clear H0
    refine h_op H1 rfl (wn rfl) (R_mv H1 rfl rfl) rfl (P6 12 11 0 5 6 7 rfl rfl rfl rfl rfl rfl) fun a2 H2 => ?_
    clear H1
    refine h_op H2 rfl (wn rfl) (R_bin H2 rfl rfl rfl (B_to (y := false) (B_lt Try.underlying3 _ _) (decide_eq_false (by omega)))) rfl (P5 13 0 5 6 7 rfl rfl rfl rfl rfl) fun a3 H3 => ?_
    clear H2
    refine h_end ?_
    repeat (go_not_at_region 7; go_step)
    refine wp_cond_false (H3.ev (x := .tmp 13) rfl) ?_
    repeat (go_not_at_region 7; go_step)
    rw [Nat.sub_self, loopE, List.append_nil] at hr
    refine wp_region_lit ?_
    refine h_op H3 rfl (wn rfl) (R_mv H3 rfl rfl) rfl (P1 21 rfl) fun a4 H4 => ?_
    clear H3
    refine h_op H4 rfl (wn rfl) (R_as H4 rfl rfl) rfl (P1 4 rfl) fun a5 H5 => ?_
    clear H4
    refine h_end ?_
    repeat (go_not_at_region 999; go_step)
    refine H5.ret1 rfl rfl ⟨v, B, rfl, ?_, ?_⟩
    · rw [hr]; exact hrow
    · rw [hr]; exact hL
end
end Go.Proofs.Ytmmhchpilcjflaa

/-
  meterref04.readItem, readTable: what is read, by the document.
-/
namespace Go.Proofs.Ytmmhchpilcjflaa
open Go.RowKit
/-- An item's fields, one behind the other; the place behind; the fault. -/
def itemE (s : ByteArray) (n : Nat) (b : Int) : PMsg × Nat × Int :=
  let a0 := mostE s n b 2147483647
  let a1 := mostE s a0.2.1 a0.2.2 2147483647
  let a2 := mostE s a1.2.1 a1.2.2 2147483647
  let a3 := byteE s a2.2.1 a2.2.2
  let a4 := textE s a3.2.1 a3.2.2 255
  let a5 := mostE s a4.2.1 a4.2.2 2147483647
  let a6 := numE s a5.2.1 a5.2.2
  let a7 := numE s a6.2.1 a6.2.2
  ({ PMsg.zero with isrc := (a0.1 : Nat), iseq := (a1.1 : Nat), ilow := (a2.1 : Nat), ikind := a3.1, ikey := a4.1, ipart := (a5.1 : Nat), iat := zag a6.1, iN := zag a7.1 }, a7.2.1, a7.2.2)
theorem textE_le {s : ByteArray} {n m : Nat} {b : Int} (hn : n ≤ s.size) : (textE s n b m).2.1 ≤ s.size := by
  have h := mostE_le (m := m) (b := b) hn
  unfold textE
  split
  · exact h
  · split
    · show (mostE s n b m).2.1 + (mostE s n b m).1 ≤ s.size
      omega
    · exact hn
theorem itemE_le {s : ByteArray} {n : Nat} {b : Int} (hn : n ≤ s.size) : (itemE s n b).2.1 ≤ s.size := numE_le (numE_le (mostE_le (textE_le (byteE_le (mostE_le (mostE_le (mostE_le hn)))))))
section
variable {w0 w W : World} {L : List Blk} {g g2 i n : Nat} {s : ByteArray} {b : Int} {A : Array Value} {T : TypeId}
theorem st_u8c {x old : Int} (h : Live w0 ((g, A, T) :: L) w) (hc : A[i]? = some (.int .u8 old)) : (Instr.storeAt 5 (.pointer (some ⟨g, i, none⟩)) (.int .u8 x)).run Try.prog w = .ok () (w.setCell ⟨g, i, none⟩ (.int .u8 x)) := by
  have hc2 := (h.cell i).trans hc
  have hz := h.thaw i
  simp [go_sem, hc2, hz]
theorem st_items {x0 x1 x2 x3 x5 x6 x7 : Int} {x4 : ByteArray} (hg : w.heap[g]? = some (.cells #[.int .i64 0, .int .i64 0, .int .i64 0, .int .u8 0, .string .empty, .int .i64 0, .int .i64 0, .int .i64 0] 24 (0, 0))) :
    (Instr.storeAt 24 (.pointer (some ⟨g, 0, none⟩)) (.agg #[.int .i64 x0, .int .i64 x1, .int .i64 x2, .int .u8 x3, .string x4, .int .i64 x5, .int .i64 x6, .int .i64 x7])).run Try.prog w = .ok () (w.setRow g #[.int .i64 x0, .int .i64 x1, .int .i64 x2, .int .u8 x3, .string x4, .int .i64 x5, .int .i64 x6, .int .i64 x7]) := by
  simp only [Instr.storeAt, Instr.sureAddr, Sem.run_bind, Sem.run_pure, Result.andThen_ok, run_storeVar_row w g 24 24 _ #[.int .i64 x0, .int .i64 x1, .int .i64 x2, .int .u8 x3, .string x4, .int .i64 x5, .int .i64 x6, .int .i64 x7] hg info24 rfl (by simp only [List.all_toArray, List.all_cons, List.all_nil, Bool.and_true]; rfl)]
theorem Live.back3 {p q r : Blk} (h : Live w0 (r :: p :: q :: L) w) : Live w0 (p :: q :: r :: L) w := h.third.third
set_option maxHeartbeats 8000000 in
set_option maxRecDepth 100000 in
theorem rdItem_any (hs : s.size < 140737488351233) (hn : n ≤ s.size) (hL : Live w0 ((g, rcells s n b, 85) :: L) W) : Calls Try.prog 48 #[.pointer (some ⟨g, 0, none⟩)] W fun e W' => e = .returned (.agg (icells (itemE s n b).1)) ∧ Live w0 ((g, rcells s (itemE s n b).2.1 (itemE s n b).2.2, 85) :: L) W' := by
  obtain ⟨y, hy⟩ : ∃ y, y = itemE s n b := ⟨_, rfl⟩
  rw [← hy]
  unfold itemE at hy
  simp only at hy
  go_enter Try.func48, Try.ntmps48
  refine wp_fr (n := 29) (m := [(0, _)]) ⟨rfl, rfl, by intro p hp; simp only [List.mem_cons, List.not_mem_nil, or_false] at hp; rcases hp with rfl <;> rfl⟩ fun a0 H0 => ?_
  repeat (go_not_at_region 0; go_step)
  refine wp_region_lit ?_
  refine h_opL ((W.heap.size, #[.int .i64 0, .int .i64 0, .int .i64 0, .int .u8 0, .string .empty, .int .i64 0, .int .i64 0, .int .i64 0], 24) :: (g, rcells s n b, 85) :: L) H0 rfl (wn rfl) (R_alloc rfl al_item) (hL.alloc _ _) rfl (P2 2 0 rfl rfl) fun a1 w1 H1 hL' => ?_
  replace hL := hL'
  clear H0 hL'
  refine h_end ?_
  repeat (go_not_at_region 1; go_step)
  refine wp_region_lit ?_
  refine h_opL ((w1.heap.size, #[.int .i64 0, .int .i64 0, .int .i64 0, .int .u8 0, .string .empty, .int .i64 0, .int .i64 0, .int .i64 0], 24) :: (W.heap.size, #[.int .i64 0, .int .i64 0, .int .i64 0, .int .u8 0, .string .empty, .int .i64 0, .int .i64 0, .int .i64 0], 24) :: (g, rcells s n b, 85) :: L) H1 rfl (wn rfl) (R_alloc rfl al_item) (hL.alloc _ _) rfl (P3 3 2 0 rfl rfl rfl) fun a2 w2 H2 hL' => ?_
  replace hL := hL'
  clear H1 hL'
  refine h_end ?_
  repeat (go_not_at_region 2; go_step)
  have hM := inMost_any (m := 2147483647) (by decide) hs hn hL.third
  have hle0 := mostE_le (m := 2147483647) (b := b) hn
  generalize mostE s n b 2147483647 = q0 at hM hle0 hy
  obtain ⟨x0, n0, b0⟩ := q0
  simp only at hM hle0 hy
  refine wp_region_lit ?_
  refine h_op H2 rfl (wn rfl) (R_mv H2 rfl rfl) rfl (P4 4 3 2 0 rfl rfl rfl rfl) fun a3 H3 => ?_
  clear H2
  refine h_call H3 rfl (wn rfl) (R_call2 H3 rfl rfl rfl (fun w => by simp [go_sem])) rfl ?_
  refine hM.mono ?_
  rintro e w4 ⟨rfl, hL2⟩
  replace hL := hL2.back3
  clear hL2 hM
  refine ⟨_, rfl, fun a4 HH => ?_⟩
  have H4 := HH _ (P4 5 3 2 0 rfl rfl rfl rfl)
  clear HH H3
  refine h_op H4 rfl (wn rfl) (R_fa H4 rfl rfl (fi_0 _ _)) rfl (P5 6 5 3 2 0 rfl rfl rfl rfl rfl) fun a5 H5 => ?_
  clear H4
  refine h_stL ((w1.heap.size, #[.int .i64 (x0 : Nat), .int .i64 0, .int .i64 0, .int .u8 0, .string .empty, .int .i64 0, .int .i64 0, .int .i64 0], 24) :: (W.heap.size, #[.int .i64 0, .int .i64 0, .int .i64 0, .int .u8 0, .string .empty, .int .i64 0, .int .i64 0, .int .i64 0], 24) :: (g, rcells s n0 b0, 85) :: L) H5 rfl (wn rfl) (R_st H5 rfl rfl rfl (st_int hL rfl)) (hL.put 0 _) fun a6 w6 H6 hL' => ?_
  replace hL := hL'
  clear H5 hL'
  refine h_end ?_
  repeat (go_not_at_region 3; go_step)
  have hM := inMost_any (m := 2147483647) (by decide) hs hle0 hL.third
  have hle1 := mostE_le (m := 2147483647) (b := b0) hle0
  generalize mostE s n0 b0 2147483647 = q1 at hM hle1 hy
  obtain ⟨x1, n1, b1⟩ := q1
  simp only at hM hle1 hy
  refine wp_region_lit ?_
  refine h_op H6 rfl (wn rfl) (R_mv H6 rfl rfl) rfl (P4 7 3 2 0 rfl rfl rfl rfl) fun a7 H7 => ?_
  clear H6
  refine h_call H7 rfl (wn rfl) (R_call2 H7 rfl rfl rfl (fun w => by simp [go_sem])) rfl ?_
  refine hM.mono ?_
  rintro e w8 ⟨rfl, hL2⟩
  replace hL := hL2.back3
  clear hL2 hM
  refine ⟨_, rfl, fun a8 HH => ?_⟩
  have H8 := HH _ (P4 8 3 2 0 rfl rfl rfl rfl)
  clear HH H7
  refine h_op H8 rfl (wn rfl) (R_fa H8 rfl rfl (fi_1 _ _)) rfl (P5 9 8 3 2 0 rfl rfl rfl rfl rfl) fun a9 H9 => ?_
  clear H8
  refine h_stL ((w1.heap.size, #[.int .i64 (x0 : Nat), .int .i64 (x1 : Nat), .int .i64 0, .int .u8 0, .string .empty, .int .i64 0, .int .i64 0, .int .i64 0], 24) :: (W.heap.size, #[.int .i64 0, .int .i64 0, .int .i64 0, .int .u8 0, .string .empty, .int .i64 0, .int .i64 0, .int .i64 0], 24) :: (g, rcells s n1 b1, 85) :: L) H9 rfl (wn rfl) (R_st H9 rfl rfl rfl (st_int hL rfl)) (hL.put 1 _) fun a10 w10 H10 hL' => ?_
  replace hL := hL'
  clear H9 hL'
  refine h_end ?_
  repeat (go_not_at_region 4; go_step)
  have hM := inMost_any (m := 2147483647) (by decide) hs hle1 hL.third
  have hle2 := mostE_le (m := 2147483647) (b := b1) hle1
  generalize mostE s n1 b1 2147483647 = q2 at hM hle2 hy
  obtain ⟨x2, n2, b2⟩ := q2
  simp only at hM hle2 hy
  refine wp_region_lit ?_
  refine h_op H10 rfl (wn rfl) (R_mv H10 rfl rfl) rfl (P4 10 3 2 0 rfl rfl rfl rfl) fun a11 H11 => ?_
  clear H10
  refine h_call H11 rfl (wn rfl) (R_call2 H11 rfl rfl rfl (fun w => by simp [go_sem])) rfl ?_
  refine hM.mono ?_
  rintro e w12 ⟨rfl, hL2⟩
  replace hL := hL2.back3
  clear hL2 hM
  refine ⟨_, rfl, fun a12 HH => ?_⟩
  have H12 := HH _ (P4 11 3 2 0 rfl rfl rfl rfl)
  clear HH H11
  refine h_op H12 rfl (wn rfl) (R_fa H12 rfl rfl (fi_2 _ _)) rfl (P5 12 11 3 2 0 rfl rfl rfl rfl rfl) fun a13 H13 => ?_
  clear H12
  refine h_stL ((w1.heap.size, #[.int .i64 (x0 : Nat), .int .i64 (x1 : Nat), .int .i64 (x2 : Nat), .int .u8 0, .string .empty, .int .i64 0, .int .i64 0, .int .i64 0], 24) :: (W.heap.size, #[.int .i64 0, .int .i64 0, .int .i64 0, .int .u8 0, .string .empty, .int .i64 0, .int .i64 0, .int .i64 0], 24) :: (g, rcells s n2 b2, 85) :: L) H13 rfl (wn rfl) (R_st H13 rfl rfl rfl (st_int hL rfl)) (hL.put 2 _) fun a14 w14 H14 hL' => ?_
  replace hL := hL'
  clear H13 hL'
  refine h_end ?_
  repeat (go_not_at_region 5; go_step)
  have hM := inByte_any hs hle2 hL.third
  have hle3 := byteE_le (b := b2) hle2
  generalize byteE s n2 b2 = q3 at hM hle3 hy
  obtain ⟨x3, n3, b3⟩ := q3
  simp only at hM hle3 hy
  refine wp_region_lit ?_
  refine h_op H14 rfl (wn rfl) (R_mv H14 rfl rfl) rfl (P4 13 3 2 0 rfl rfl rfl rfl) fun a15 H15 => ?_
  clear H14
  refine h_call H15 rfl (wn rfl) (R_call1 H15 rfl rfl (fun w => by simp [go_sem])) rfl ?_
  refine hM.mono ?_
  rintro e w16 ⟨rfl, hL2⟩
  replace hL := hL2.back3
  clear hL2 hM
  refine ⟨_, rfl, fun a16 HH => ?_⟩
  have H16 := HH _ (P4 14 3 2 0 rfl rfl rfl rfl)
  clear HH H15
  refine h_op H16 rfl (wn rfl) (R_fa H16 rfl rfl (fi_3 _ _)) rfl (P5 15 14 3 2 0 rfl rfl rfl rfl rfl) fun a17 H17 => ?_
  clear H16
  refine h_stL ((w1.heap.size, #[.int .i64 (x0 : Nat), .int .i64 (x1 : Nat), .int .i64 (x2 : Nat), .int .u8 (x3 : Nat), .string .empty, .int .i64 0, .int .i64 0, .int .i64 0], 24) :: (W.heap.size, #[.int .i64 0, .int .i64 0, .int .i64 0, .int .u8 0, .string .empty, .int .i64 0, .int .i64 0, .int .i64 0], 24) :: (g, rcells s n3 b3, 85) :: L) H17 rfl (wn rfl) (R_st H17 rfl rfl rfl (st_u8c hL rfl)) (hL.put 3 _) fun a18 w18 H18 hL' => ?_
  replace hL := hL'
  clear H17 hL'
  refine h_end ?_
  repeat (go_not_at_region 6; go_step)
  have hM := inText_any (m := 255) (by decide) hs hle3 hL.third
  have hle4 := textE_le (m := 255) (b := b3) hle3
  generalize textE s n3 b3 255 = q4 at hM hle4 hy
  obtain ⟨x4, n4, b4⟩ := q4
  simp only at hM hle4 hy
  refine wp_region_lit ?_
  refine h_op H18 rfl (wn rfl) (R_mv H18 rfl rfl) rfl (P4 16 3 2 0 rfl rfl rfl rfl) fun a19 H19 => ?_
  clear H18
  refine h_call H19 rfl (wn rfl) (R_call2 H19 rfl rfl rfl (fun w => by simp [go_sem])) rfl ?_
  refine hM.mono ?_
  rintro e w20 ⟨rfl, hL2⟩
  replace hL := hL2.back3
  clear hL2 hM
  refine ⟨_, rfl, fun a20 HH => ?_⟩
  have H20 := HH _ (P4 17 3 2 0 rfl rfl rfl rfl)
  clear HH H19
  refine h_op H20 rfl (wn rfl) (R_fa H20 rfl rfl (fi_4 _ _)) rfl (P5 18 17 3 2 0 rfl rfl rfl rfl rfl) fun a21 H21 => ?_
  clear H20
  refine h_stL ((w1.heap.size, #[.int .i64 (x0 : Nat), .int .i64 (x1 : Nat), .int .i64 (x2 : Nat), .int .u8 (x3 : Nat), .string x4, .int .i64 0, .int .i64 0, .int .i64 0], 24) :: (W.heap.size, #[.int .i64 0, .int .i64 0, .int .i64 0, .int .u8 0, .string .empty, .int .i64 0, .int .i64 0, .int .i64 0], 24) :: (g, rcells s n4 b4, 85) :: L) H21 rfl (wn rfl) (R_st H21 rfl rfl rfl (st_strc hL rfl)) (hL.put 4 _) fun a22 w22 H22 hL' => ?_
  replace hL := hL'
  clear H21 hL'
  refine h_end ?_
  repeat (go_not_at_region 7; go_step)
  have hM := inMost_any (m := 2147483647) (by decide) hs hle4 hL.third
  have hle5 := mostE_le (m := 2147483647) (b := b4) hle4
  generalize mostE s n4 b4 2147483647 = q5 at hM hle5 hy
  obtain ⟨x5, n5, b5⟩ := q5
  simp only at hM hle5 hy
  refine wp_region_lit ?_
  refine h_op H22 rfl (wn rfl) (R_mv H22 rfl rfl) rfl (P4 19 3 2 0 rfl rfl rfl rfl) fun a23 H23 => ?_
  clear H22
  refine h_call H23 rfl (wn rfl) (R_call2 H23 rfl rfl rfl (fun w => by simp [go_sem])) rfl ?_
  refine hM.mono ?_
  rintro e w24 ⟨rfl, hL2⟩
  replace hL := hL2.back3
  clear hL2 hM
  refine ⟨_, rfl, fun a24 HH => ?_⟩
  have H24 := HH _ (P4 20 3 2 0 rfl rfl rfl rfl)
  clear HH H23
  refine h_op H24 rfl (wn rfl) (R_fa H24 rfl rfl (fi_5 _ _)) rfl (P5 21 20 3 2 0 rfl rfl rfl rfl rfl) fun a25 H25 => ?_
  clear H24
  refine h_stL ((w1.heap.size, #[.int .i64 (x0 : Nat), .int .i64 (x1 : Nat), .int .i64 (x2 : Nat), .int .u8 (x3 : Nat), .string x4, .int .i64 (x5 : Nat), .int .i64 0, .int .i64 0], 24) :: (W.heap.size, #[.int .i64 0, .int .i64 0, .int .i64 0, .int .u8 0, .string .empty, .int .i64 0, .int .i64 0, .int .i64 0], 24) :: (g, rcells s n5 b5, 85) :: L) H25 rfl (wn rfl) (R_st H25 rfl rfl rfl (st_int hL rfl)) (hL.put 5 _) fun a26 w26 H26 hL' => ?_
  replace hL := hL'
  clear H25 hL'
  refine h_end ?_
  repeat (go_not_at_region 8; go_step)
  have hM := rI64_any hs hle5 hL.third
  have hle6 := numE_le (b := b5) hle5
  generalize numE s n5 b5 = q6 at hM hle6 hy
  obtain ⟨x6, n6, b6⟩ := q6
  simp only at hM hle6 hy
  refine wp_region_lit ?_
  refine h_op H26 rfl (wn rfl) (R_mv H26 rfl rfl) rfl (P4 22 3 2 0 rfl rfl rfl rfl) fun a27 H27 => ?_
  clear H26
  refine h_call H27 rfl (wn rfl) (R_call1 H27 rfl rfl (fun w => by simp [go_sem])) rfl ?_
  refine hM.mono ?_
  rintro e w28 ⟨rfl, hL2⟩
  replace hL := hL2.back3
  clear hL2 hM
  refine ⟨_, rfl, fun a28 HH => ?_⟩
  have H28 := HH _ (P4 23 3 2 0 rfl rfl rfl rfl)
  clear HH H27
  refine h_op H28 rfl (wn rfl) (R_fa H28 rfl rfl (fi_6 _ _)) rfl (P5 24 23 3 2 0 rfl rfl rfl rfl rfl) fun a29 H29 => ?_
  clear H28
  refine h_stL ((w1.heap.size, #[.int .i64 (x0 : Nat), .int .i64 (x1 : Nat), .int .i64 (x2 : Nat), .int .u8 (x3 : Nat), .string x4, .int .i64 (x5 : Nat), .int .i64 (zag x6), .int .i64 0], 24) :: (W.heap.size, #[.int .i64 0, .int .i64 0, .int .i64 0, .int .u8 0, .string .empty, .int .i64 0, .int .i64 0, .int .i64 0], 24) :: (g, rcells s n6 b6, 85) :: L) H29 rfl (wn rfl) (R_st H29 rfl rfl rfl (st_i64c hL rfl)) (hL.put 6 _) fun a30 w30 H30 hL' => ?_
  replace hL := hL'
  clear H29 hL'
  refine h_end ?_
  repeat (go_not_at_region 9; go_step)
  have hM := rI64_any hs hle6 hL.third
  have hle7 := numE_le (b := b6) hle6
  generalize numE s n6 b6 = q7 at hM hle7 hy
  obtain ⟨x7, n7, b7⟩ := q7
  simp only at hM hle7 hy
  refine wp_region_lit ?_
  refine h_op H30 rfl (wn rfl) (R_mv H30 rfl rfl) rfl (P4 25 3 2 0 rfl rfl rfl rfl) fun a31 H31 => ?_
  clear H30
  refine h_call H31 rfl (wn rfl) (R_call1 H31 rfl rfl (fun w => by simp [go_sem])) rfl ?_
  refine hM.mono ?_
  rintro e w32 ⟨rfl, hL2⟩
  replace hL := hL2.back3
  clear hL2 hM
  refine ⟨_, rfl, fun a32 HH => ?_⟩
  have H32 := HH _ (P4 26 3 2 0 rfl rfl rfl rfl)
  clear HH H31
  refine h_op H32 rfl (wn rfl) (R_fa H32 rfl rfl (fi_7 _ _)) rfl (P5 27 26 3 2 0 rfl rfl rfl rfl rfl) fun a33 H33 => ?_
  clear H32
  refine h_stL ((w1.heap.size, #[.int .i64 (x0 : Nat), .int .i64 (x1 : Nat), .int .i64 (x2 : Nat), .int .u8 (x3 : Nat), .string x4, .int .i64 (x5 : Nat), .int .i64 (zag x6), .int .i64 (zag x7)], 24) :: (W.heap.size, #[.int .i64 0, .int .i64 0, .int .i64 0, .int .u8 0, .string .empty, .int .i64 0, .int .i64 0, .int .i64 0], 24) :: (g, rcells s n7 b7, 85) :: L) H33 rfl (wn rfl) (R_st H33 rfl rfl rfl (st_i64c hL rfl)) (hL.put 7 _) fun a34 w34 H34 hL' => ?_
  replace hL := hL'
  clear H33 hL'
  refine h_end ?_
  repeat (go_not_at_region 10; go_step)
  refine wp_region_lit ?_
  refine h_op H34 rfl (wn rfl) (R_ld H34 rfl rfl (ld_short (hL.cell 0) (hL.cell 1) (hL.cell 2) (hL.cell 3) (hL.cell 4) (hL.cell 5) (hL.cell 6) (hL.cell 7))) rfl (P2 28 2 rfl rfl) fun a35 H35 => ?_
  clear H34
  refine h_stL ((W.heap.size, #[.int .i64 (x0 : Nat), .int .i64 (x1 : Nat), .int .i64 (x2 : Nat), .int .u8 (x3 : Nat), .string x4, .int .i64 (x5 : Nat), .int .i64 (zag x6), .int .i64 (zag x7)], 24) :: (w1.heap.size, #[.int .i64 (x0 : Nat), .int .i64 (x1 : Nat), .int .i64 (x2 : Nat), .int .u8 (x3 : Nat), .string x4, .int .i64 (x5 : Nat), .int .i64 (zag x6), .int .i64 (zag x7)], 24) :: (g, rcells s n7 b7, 85) :: L) H35 rfl (wn rfl) (R_st H35 rfl rfl rfl (st_items (hL.mem_at (by simp)))) (hL.swap.row _) fun a36 w36 H36 hL' => ?_
  replace hL := hL'
  clear H35 hL'
  refine h_end ?_
  repeat (go_not_at_region 999; go_step)
  refine bodyPost_ret (v := .agg #[.int .i64 (x0 : Nat), .int .i64 (x1 : Nat), .int .i64 (x2 : Nat), .int .u8 (x3 : Nat), .string x4, .int .i64 (x5 : Nat), .int .i64 (zag x6), .int .i64 (zag x7)]) (results_cell_row rfl _ _ _ 24 _ (0, 0) _ (H36.getD rfl) hL.at_ Try.underlying24 rfl info24) H36.1 ?_
  rw [hy]
  exact ⟨rfl, hL.tail.tail⟩
end
end Go.Proofs.Ytmmhchpilcjflaa

/-
  meterref04.readTable: a table that is read, by the document.
-/
namespace Go.Proofs.Ytmmhchpilcjflaa
open Go.RowKit
/-- A table's fields; the place behind; the fault. -/
def tabE (s : ByteArray) (n : Nat) (b : Int) : (Int × Int × List Int) × Nat × Int :=
  let a0 := mostE s n b 2147483647
  let a1 := mostE s a0.2.1 a0.2.2 2147483647
  let a2 := listE s a1.2.1 a1.2.2 64
  (((a0.1 : Nat), (a1.1 : Nat), a2.1), a2.2.1, a2.2.2)
theorem tabE_le {s : ByteArray} {n : Nat} {b : Int} (hn : n ≤ s.size) : (tabE s n b).2.1 ≤ s.size := listE_le (mostE_le (mostE_le hn))
theorem info27 : (Try.prog.info? 27).map (·.size) = some 3 := by kernel_rfl
section
variable {w0 w W : World} {L : List Blk} {g g2 i n : Nat} {s : ByteArray} {b : Int}
theorem fb_0 (g : Nat) (w : World) : (Instr.fieldAt 27 (.pointer (some ⟨g, 0, none⟩)) 0).run Try.prog w = .ok (.pointer (some ⟨g, 0, none⟩)) w := by simp [go_sem]
theorem fb_1 (g : Nat) (w : World) : (Instr.fieldAt 27 (.pointer (some ⟨g, 0, none⟩)) 1).run Try.prog w = .ok (.pointer (some ⟨g, 1, none⟩)) w := by simp [go_sem]
theorem fb_2 (g : Nat) (w : World) : (Instr.fieldAt 27 (.pointer (some ⟨g, 0, none⟩)) 2).run Try.prog w = .ok (.pointer (some ⟨g, 2, none⟩)) w := by simp [go_sem]
theorem al_tab {w : World} : (Instr.alloc 27 true (.tuple #[])).run Try.prog w = .ok (.pointer (some ⟨w.heap.size, 0, none⟩)) (w.alloc (.cells #[.int .i64 0, .int .i64 0, .slice none 0 0] 27)) := by
  simp [go_sem]
theorem ld_tab0 {w : World} {g : Nat} {x0 x1 : Int} {p : Option Addr} {l c : Nat} (h0 : w.cell? ⟨g, 0, none⟩ = some (.int .i64 x0)) (h1 : w.cell? ⟨g, 1, none⟩ = some (.int .i64 x1)) (h2 : w.cell? ⟨g, 2, none⟩ = some (.slice p l c)) :
    (Instr.loadAt 27 (.pointer (some ⟨g, 0, none⟩))).run Try.prog w = .ok (.agg #[.int .i64 x0, .int .i64 x1, .slice p l c]) w := by
  simp [go_sem, h0, h1, h2]
theorem st_tabs {x0 x1 : Int} {p : Option Addr} {l c : Nat} (hg : w.heap[g]? = some (.cells #[.int .i64 0, .int .i64 0, .slice none 0 0] 27 (0, 0))) :
    (Instr.storeAt 27 (.pointer (some ⟨g, 0, none⟩)) (.agg #[.int .i64 x0, .int .i64 x1, .slice p l c])).run Try.prog w = .ok () (w.setRow g #[.int .i64 x0, .int .i64 x1, .slice p l c]) := by
  simp only [Instr.storeAt, Instr.sureAddr, Sem.run_bind, Sem.run_pure, Result.andThen_ok, run_storeVar_row w g 27 27 _ #[.int .i64 x0, .int .i64 x1, .slice p l c] hg info27 rfl (by simp only [List.all_toArray, List.all_cons, List.all_nil, Bool.and_true]; rfl)]
theorem Live.p3 (r p q : Blk) (X : List Blk) : ([r, p, q] ++ X).Perm (p :: q :: r :: X) := (List.Perm.swap p r (q :: X)).trans ((List.Perm.swap q r X).cons p)
set_option maxHeartbeats 8000000 in
set_option maxRecDepth 100000 in
theorem rdTable_any (hs : s.size < 140737488351233) (hn : n ≤ s.size) (hL : Live w0 ((g, rcells s n b, 85) :: L) W) : Calls Try.prog 49 #[.pointer (some ⟨g, 0, none⟩)] W fun e W' => ∃ v B, e = .returned (.agg #[.int .i64 (tabE s n b).1.1, .int .i64 (tabE s n b).1.2.1, v]) ∧ RowIs 3 v (ints (tabE s n b).1.2.2) B ∧ Live w0 (B ++ (g, rcells s (tabE s n b).2.1 (tabE s n b).2.2, 85) :: L) W' := by
  obtain ⟨y, hy⟩ : ∃ y, y = tabE s n b := ⟨_, rfl⟩
  rw [← hy]
  unfold tabE at hy
  simp only at hy
  go_enter Try.func49, Try.ntmps49
  refine wp_fr (n := 14) (m := [(0, _)]) ⟨rfl, rfl, by intro p hp; simp only [List.mem_cons, List.not_mem_nil, or_false] at hp; rcases hp with rfl <;> rfl⟩ fun a0 H0 => ?_
  repeat (go_not_at_region 0; go_step)
  refine wp_region_lit ?_
  refine h_opL ((W.heap.size, #[.int .i64 0, .int .i64 0, .slice none 0 0], 27) :: (g, rcells s n b, 85) :: L) H0 rfl (wn rfl) (R_alloc rfl al_tab) (hL.alloc _ _) rfl (P2 2 0 rfl rfl) fun a1 w1 H1 hL' => ?_
  replace hL := hL'
  clear H0 hL'
  refine h_end ?_
  repeat (go_not_at_region 1; go_step)
  refine wp_region_lit ?_
  refine h_opL ((w1.heap.size, #[.int .i64 0, .int .i64 0, .slice none 0 0], 27) :: (W.heap.size, #[.int .i64 0, .int .i64 0, .slice none 0 0], 27) :: (g, rcells s n b, 85) :: L) H1 rfl (wn rfl) (R_alloc rfl al_tab) (hL.alloc _ _) rfl (P3 3 2 0 rfl rfl rfl) fun a2 w2 H2 hL' => ?_
  replace hL := hL'
  clear H1 hL'
  refine h_end ?_
  repeat (go_not_at_region 2; go_step)
  have hM := inMost_any (m := 2147483647) (by decide) hs hn hL.third
  have hle0 := mostE_le (m := 2147483647) (b := b) hn
  generalize mostE s n b 2147483647 = q0 at hM hle0 hy
  obtain ⟨x0, n0, b0⟩ := q0
  simp only at hM hle0 hy
  refine wp_region_lit ?_
  refine h_op H2 rfl (wn rfl) (R_mv H2 rfl rfl) rfl (P4 4 3 2 0 rfl rfl rfl rfl) fun a3 H3 => ?_
  clear H2
  refine h_call H3 rfl (wn rfl) (R_call2 H3 rfl rfl rfl (fun w => by simp [go_sem])) rfl ?_
  refine hM.mono ?_
  rintro e w4 ⟨rfl, hL2⟩
  replace hL := hL2.back3
  clear hL2 hM
  refine ⟨_, rfl, fun a4 HH => ?_⟩
  have H4 := HH _ (P4 5 3 2 0 rfl rfl rfl rfl)
  clear HH H3
  refine h_op H4 rfl (wn rfl) (R_fa H4 rfl rfl (fb_0 _ _)) rfl (P5 6 5 3 2 0 rfl rfl rfl rfl rfl) fun a5 H5 => ?_
  clear H4
  refine h_stL ((w1.heap.size, #[.int .i64 (x0 : Nat), .int .i64 0, .slice none 0 0], 27) :: (W.heap.size, #[.int .i64 0, .int .i64 0, .slice none 0 0], 27) :: (g, rcells s n0 b0, 85) :: L) H5 rfl (wn rfl) (R_st H5 rfl rfl rfl (st_int hL rfl)) (hL.put 0 _) fun a6 w6 H6 hL' => ?_
  replace hL := hL'
  clear H5 hL'
  refine h_end ?_
  repeat (go_not_at_region 3; go_step)
  have hM := inMost_any (m := 2147483647) (by decide) hs hle0 hL.third
  have hle1 := mostE_le (m := 2147483647) (b := b0) hle0
  generalize mostE s n0 b0 2147483647 = q1 at hM hle1 hy
  obtain ⟨x1, n1, b1⟩ := q1
  simp only at hM hle1 hy
  refine wp_region_lit ?_
  refine h_op H6 rfl (wn rfl) (R_mv H6 rfl rfl) rfl (P4 7 3 2 0 rfl rfl rfl rfl) fun a7 H7 => ?_
  clear H6
  refine h_call H7 rfl (wn rfl) (R_call2 H7 rfl rfl rfl (fun w => by simp [go_sem])) rfl ?_
  refine hM.mono ?_
  rintro e w8 ⟨rfl, hL2⟩
  replace hL := hL2.back3
  clear hL2 hM
  refine ⟨_, rfl, fun a8 HH => ?_⟩
  have H8 := HH _ (P4 8 3 2 0 rfl rfl rfl rfl)
  clear HH H7
  refine h_op H8 rfl (wn rfl) (R_fa H8 rfl rfl (fb_1 _ _)) rfl (P5 9 8 3 2 0 rfl rfl rfl rfl rfl) fun a9 H9 => ?_
  clear H8
  refine h_stL ((w1.heap.size, #[.int .i64 (x0 : Nat), .int .i64 (x1 : Nat), .slice none 0 0], 27) :: (W.heap.size, #[.int .i64 0, .int .i64 0, .slice none 0 0], 27) :: (g, rcells s n1 b1, 85) :: L) H9 rfl (wn rfl) (R_st H9 rfl rfl rfl (st_int hL rfl)) (hL.put 1 _) fun a10 w10 H10 hL' => ?_
  replace hL := hL'
  clear H9 hL'
  refine h_end ?_
  repeat (go_not_at_region 4; go_step)
  have hM := rNumbers_any (m := 64) (by decide) hs hle1 hL.third
  generalize listE s n1 b1 64 = q2 at hM hy
  obtain ⟨xs, n2, b2⟩ := q2
  simp only at hM hy
  refine wp_region_lit ?_
  refine h_op H10 rfl (wn rfl) (R_mv H10 rfl rfl) rfl (P4 10 3 2 0 rfl rfl rfl rfl) fun a11 H11 => ?_
  clear H10
  refine h_call H11 rfl (wn rfl) (R_call2 H11 rfl rfl rfl (fun w => by simp [go_sem])) rfl ?_
  refine hM.mono ?_
  rintro e w12 ⟨v, B, rfl, hrow, hL2⟩
  obtain ⟨vp, vl, vc, rfl⟩ : ∃ p l c, v = .slice p l c := by
    rcases hrow with ⟨rfl, _⟩ | ⟨g', cap, cur, rfl, _⟩ <;> exact ⟨_, _, _, rfl⟩
  replace hL := hL2.perm (L' := (w1.heap.size, #[.int .i64 (x0 : Nat), .int .i64 (x1 : Nat), .slice none 0 0], 27) :: (W.heap.size, #[.int .i64 0, .int .i64 0, .slice none 0 0], 27) :: (B ++ (g, rcells s n2 b2, 85) :: L)) (by
    have h1 := List.perm_append_comm_assoc B [(g, rcells s n2 b2, 85), (w1.heap.size, #[.int .i64 (x0 : Nat), .int .i64 (x1 : Nat), .slice none 0 0], 27), (W.heap.size, #[.int .i64 0, .int .i64 0, .slice none 0 0], 27)] L
    refine h1.trans ?_
    refine (Live.p3 _ _ _ _).trans ?_
    exact ((List.perm_middle.symm).cons _).cons _)
  clear hL2 hM
  refine ⟨_, rfl, fun a12 HH => ?_⟩
  have H12 := HH _ (P4 11 3 2 0 rfl rfl rfl rfl)
  clear HH H11
  refine h_op H12 rfl (wn rfl) (R_fa H12 rfl rfl (fb_2 _ _)) rfl (P5 12 11 3 2 0 rfl rfl rfl rfl rfl) fun a13 H13 => ?_
  clear H12
  refine h_stL ((w1.heap.size, #[.int .i64 (x0 : Nat), .int .i64 (x1 : Nat), .slice vp vl vc], 27) :: (W.heap.size, #[.int .i64 0, .int .i64 0, .slice none 0 0], 27) :: (B ++ (g, rcells s n2 b2, 85) :: L)) H13 rfl (wn rfl) (R_st H13 rfl rfl rfl (st_sl hL rfl)) (hL.put 2 _) fun a14 w14 H14 hL' => ?_
  replace hL := hL'
  clear H13 hL'
  refine h_end ?_
  repeat (go_not_at_region 5; go_step)
  refine wp_region_lit ?_
  refine h_op H14 rfl (wn rfl) (R_ld H14 rfl rfl (ld_tab0 (hL.cell 0) (hL.cell 1) (hL.cell 2))) rfl (P2 13 2 rfl rfl) fun a15 H15 => ?_
  clear H14
  refine h_stL ((W.heap.size, #[.int .i64 (x0 : Nat), .int .i64 (x1 : Nat), .slice vp vl vc], 27) :: (w1.heap.size, #[.int .i64 (x0 : Nat), .int .i64 (x1 : Nat), .slice vp vl vc], 27) :: (B ++ (g, rcells s n2 b2, 85) :: L)) H15 rfl (wn rfl) (R_st H15 rfl rfl rfl (st_tabs (hL.mem_at (by simp)))) (hL.swap.row _) fun a16 w16 H16 hL' => ?_
  replace hL := hL'
  clear H15 hL'
  refine h_end ?_
  repeat (go_not_at_region 999; go_step)
  refine bodyPost_ret (v := .agg #[.int .i64 (x0 : Nat), .int .i64 (x1 : Nat), .slice vp vl vc]) (results_cell_row rfl _ _ _ 27 _ (0, 0) _ (H16.getD rfl) hL.at_ Try.underlying27 rfl info27) H16.1 ?_
  rw [hy]
  exact ⟨_, B, rfl, hrow, hL.tail.tail⟩
end
end Go.Proofs.Ytmmhchpilcjflaa
