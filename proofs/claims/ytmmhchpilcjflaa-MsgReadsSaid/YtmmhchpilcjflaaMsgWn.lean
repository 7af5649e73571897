/-
  meterref02.Num: a number's bytes.
-/
import Derived.Test.YtmmhchpilcjflaaMsgSf
import Derived.Test.YtmmhchpilcjflaaMsgFk
import Derived.Deep.Cut
set_option linter.unusedSimpArgs false
set_option linter.unusedVariables false
namespace Go.Proofs.Ytmmhchpilcjflaa
open Go.RowKit
section
variable {w : World}
theorem B64_lt {X Y : Operand} (x : Nat) : ((do eqGuard .lss 22 X Y (.int .u64 (x : Nat)) (.int .u64 128); binOp .lss 22 (.int .u64 (x : Nat)) (.int .u64 128)) : Sem Value).run Try.prog w = .ok (.bool (decide (x < 128))) w := by
  have e : decide ((x : Int) < 128) = decide (x < 128) := by
    rw [Bool.eq_iff_iff, decide_eq_true_iff, decide_eq_true_iff]
    omega
  simp [go_sem, e]
theorem B64_rem {X Y : Operand} (x : Nat) : ((do eqGuard .rem 22 X Y (.int .u64 (x : Nat)) (.int .u64 128); binOp .rem 22 (.int .u64 (x : Nat)) (.int .u64 128)) : Sem Value).run Try.prog w = .ok (.int .u64 (x % 128 : Nat)) w := by
  have e : (x : Int).tmod 128 = ((x % 128 : Nat) : Int) := Int.tmod_eq_emod_of_nonneg (by omega)
  simp [go_sem, e]
theorem B64_quo {X Y : Operand} (x : Nat) (h : x < 18446744073709551616) : ((do eqGuard .quo 22 X Y (.int .u64 (x : Nat)) (.int .u64 128); binOp .quo 22 (.int .u64 (x : Nat)) (.int .u64 128)) : Sem Value).run Try.prog w = .ok (.int .u64 (x / 128 : Nat)) w := by
  have e : (x : Int).tdiv 128 = ((x / 128 : Nat) : Int) := Int.tdiv_eq_ediv_of_nonneg (by omega)
  have e2 : IntKind.u64.wrap ((x : Int) / 128) = (x : Int) / 128 := u64_id (by omega) (by omega)
  simp [go_sem, e, e2]
theorem cv64_8 (x : Nat) (h : x < 256) : (convert 22 5 (.int .u64 (x : Nat))).run Try.prog w = .ok (.int .u8 (x : Nat)) w := by
  have e : IntKind.u8.wrap (x : Int) = x := by
    unfold IntKind.wrap
    simp [IntKind.signed, IntKind.bits]
    omega
  simp [go_sem, e]
theorem B8_add128 {X Y : Operand} (x : Nat) (h : x < 128) : ((do eqGuard .add 5 X Y (.int .u8 (x : Nat)) (.int .u8 128); binOp .add 5 (.int .u8 (x : Nat)) (.int .u8 128)) : Sem Value).run Try.prog w = .ok (.int .u8 (x + 128 : Nat)) w := by
  have e : IntKind.u8.wrap ((x : Int) + 128) = (x : Int) + 128 := by
    unfold IntKind.wrap
    simp [IntKind.signed, IntKind.bits]
    omega
  simp [go_sem, e]
end
theorem packL_app (a b : List Nat) : packL a ++ packL b = packL (a ++ b) := by
  unfold packL
  apply ByteArray.ext
  simp [ByteArray.data_append]
set_option maxHeartbeats 4000000 in
set_option maxRecDepth 100000 in
theorem rNum_any : ∀ (k n : Nat), n ≤ k → n < 18446744073709551616 → ∀ W : World, Calls Try.prog 41 #[.int .u64 (n : Nat)] W fun e W' => e = .returned (.string (packL (vbytes n))) ∧ Below W.heap.size W W' := by
  intro k
  induction k using Nat.strongRecOn with
  | _ k ih =>
  intro n hnk hn W
  have hL := Live.init W
  go_enter Try.func41, Try.ntmps41
  refine wp_fr (n := 19) (m := [(0, _)]) ⟨rfl, rfl, by intro p hp; simp only [List.mem_cons, List.not_mem_nil, or_false] at hp; rcases hp with rfl <;> rfl⟩ fun a0 H0 => ?_
  repeat (go_not_at_region 0; go_step)
  refine wp_region_lit ?_
  refine h_op H0 rfl (wn rfl) (R_as H0 rfl rfl) rfl (P1 0 rfl) fun a1 H1 => ?_
  clear H0
  refine h_end ?_
  by_cases h1 : n < 128
  · repeat (go_not_at_region 1; go_step)
    refine wp_region_lit ?_
    refine h_op H1 rfl (wn rfl) (R_mv H1 rfl rfl) rfl (P2 3 0 rfl rfl) fun a2 H2 => ?_
    clear H1
    refine h_op H2 rfl (wn rfl) (R_bin H2 rfl rfl rfl (B_to (y := true) (B64_lt _) (decide_eq_true h1))) rfl (P2 4 0 rfl rfl) fun a3 H3 => ?_
    clear H2
    refine h_end ?_
    repeat (go_not_at_region 2; go_step)
    refine wp_cond_true (H3.ev (x := .tmp 4) rfl) ?_
    have hv : vbytes n = [n] := by rw [vbytes, if_pos h1]
    repeat (go_not_at_region 2; go_step)
    refine wp_region_lit ?_
    refine h_op H3 rfl (wn rfl) (R_mv H3 rfl rfl) rfl (P1 5 rfl) fun a4 H4 => ?_
    clear H3
    refine h_op H4 rfl (wn rfl) (R_cv H4 rfl rfl (cv64_8 _ (by omega))) rfl (P1 6 rfl) fun a5 H5 => ?_
    clear H4
    refine h_op H5 rfl (wn rfl) (R_bs1 H5 rfl rfl (bs_u8 _)) rfl (P1 7 rfl) fun a6 H6 => ?_
    clear H5
    replace hL := hL.alloc #[.int .u8 (n : Nat)] 5
    refine h_op H6 rfl (wn rfl) (R_cv H6 rfl rfl (cv_u8 (by omega) hL)) rfl (P1 8 rfl) fun a7 H7 => ?_
    clear H6
    refine h_op H7 rfl (wn rfl) (R_as H7 rfl rfl) rfl (P1 2 rfl) fun a8 H8 => ?_
    clear H7
    refine h_end ?_
    repeat (go_not_at_region 999; go_step)
    rw [hv]
    exact H8.ret1 rfl rfl ⟨rfl, hL.1⟩
  · repeat (go_not_at_region 1; go_step)
    refine wp_region_lit ?_
    refine h_op H1 rfl (wn rfl) (R_mv H1 rfl rfl) rfl (P2 3 0 rfl rfl) fun a2 H2 => ?_
    clear H1
    refine h_op H2 rfl (wn rfl) (R_bin H2 rfl rfl rfl (B_to (y := false) (B64_lt _) (decide_eq_false h1))) rfl (P2 4 0 rfl rfl) fun a3 H3 => ?_
    clear H2
    refine h_end ?_
    repeat (go_not_at_region 3; go_step)
    refine wp_cond_false (H3.ev (x := .tmp 4) rfl) ?_
    repeat (go_not_at_region 3; go_step)
    have hv : vbytes n = (n % 128 + 128) :: vbytes (n / 128) := by rw [vbytes, if_neg h1]
    have hlen := vbytes_le (x := n / 128) (by omega)
    obtain ⟨x, hx⟩ : ∃ x, x = n % 128 + 128 := ⟨_, rfl⟩
    have hx2 : x < 256 := by omega
    have hcat : packL [x] ++ packL (vbytes (n / 128)) = packL (vbytes n) := by rw [packL_app, hv, hx]; rfl
    have hsz : (packL [x]).size + (packL (vbytes (n / 128))).size ≤ 100000 := by rw [packL_size, packL_size]; show 1 + _ ≤ _; omega
    refine wp_region_held_drew (S := fun w' => Live W [] w') (by kernel_rfl) hL.drew (fun hL' => ?_)
    replace hL := hL'
    clear hL'
    refine a_op (m' := [(9, _), (0, _)]) 0 H3 rfl rfl (by kernel_rfl) (by kernel_rfl) (by kernel_rfl) (fun _ _ _ h => h) (wn rfl) (fun w hL => R_mv H3 rfl rfl) hL rfl (P2 9 0 rfl rfl) fun a4 H4 => ?_
    clear H3
    refine a_op (m' := [(10, _), (0, _)]) 1 H4 rfl rfl (by kernel_rfl) (by kernel_rfl) (by kernel_rfl) (fun _ _ _ h => h) (wn rfl) (fun w hL => R_bin H4 rfl rfl rfl (B64_rem _)) hL rfl (P2 10 0 rfl rfl) fun a5 H5 => ?_
    clear H4
    refine a_op (m' := [(11, _), (0, _)]) 2 H5 rfl rfl (by kernel_rfl) (by kernel_rfl) (by kernel_rfl) (fun _ _ _ h => h) (wn rfl) (fun w hL => R_cv H5 rfl rfl (cv64_8 _ (by omega))) hL rfl (P2 11 0 rfl rfl) fun a6 H6 => ?_
    clear H5
    refine a_op (m' := [(12, _), (0, _)]) 3 H6 rfl rfl (by kernel_rfl) (by kernel_rfl) (by kernel_rfl) (fun _ _ _ h => h) (wn rfl) (fun w hL => R_bin H6 rfl rfl rfl (B8_add128 _ (by omega))) hL rfl (P2 12 0 rfl rfl) fun a7 H7 => ?_
    clear H6
    refine a_op (m' := [(15, _), (12, _)]) 6 H7 rfl rfl (by kernel_rfl) (by kernel_rfl) (by kernel_rfl) (fun _ _ _ h => h) (wn rfl) (fun w hL => R_mv H7 rfl rfl) hL rfl (P2 15 12 rfl rfl) fun a8 H8 => ?_
    clear H7
    refine a_op (m' := [(16, _), (12, _)]) 7 H8 rfl rfl (by kernel_rfl) (by kernel_rfl) (by kernel_rfl) (fun _ _ _ h => h) (wn rfl) (fun w hL => R_bin H8 rfl rfl rfl (B64_quo _ hn)) hL rfl (P2 16 12 rfl rfl) fun a9 H9 => ?_
    clear H8
    replace H9 := H9.pick [(12, .int .u8 (n % 128 + 128 : Nat)), (16, .int .u64 (n / 128 : Nat))] (P2 12 16 rfl rfl)
    rw [← hx] at H9
    refine a_all2 4 8 (by kernel_rfl) ?_ ?_
    · refine o_op (m' := [(13, _), (16, _)]) 4 H9 rfl rfl (wn rfl) (R_bs1 H9 rfl rfl (bs_u8 _)) rfl (P2 13 16 rfl rfl) fun a10 H10 => ?_
      clear H9
      replace hL := hL.alloc #[.int .u8 (x : Nat)] 5
      refine ⟨hL.tail, ?_⟩
      refine a_all2 5 8 (by kernel_rfl) ?_ ?_
      · refine o_op (m' := [(14, _), (16, _)]) 5 H10 rfl rfl (wn rfl) (R_cv H10 rfl rfl (cv_u8 hx2 hL)) rfl (P2 14 16 rfl rfl) fun a11 H11 => ?_
        clear H10
        refine ⟨hL.tail, ?_⟩
        refine a_all1 8 (by kernel_rfl) ?_
        refine o_call 8 H11 rfl rfl (wn rfl) (R_call1 H11 rfl rfl (fun w => by simp [go_sem])) rfl ?_
        refine (ih (n / 128) (by omega) (n / 128) (Nat.le_refl _) (by omega) _).mono ?_
        rintro e wx ⟨rfl, hb⟩
        replace hL := hL.call hb
        clear hb
        refine ⟨_, rfl, fun a12 HH => ⟨hL.tail, ?_⟩⟩
        have H12 := HH [(17, _), (14, _)] (P2 17 14 rfl rfl)
        clear HH H11
        refine a_op (m' := [(18, _)]) 9 H12 rfl rfl (by kernel_rfl) (by kernel_rfl) (by kernel_rfl) (fun _ _ _ h => h) (wn rfl) (fun w hL => R_bin H12 rfl rfl rfl (B_cat _ _ hsz)) hL.tail rfl (P1 18 rfl) fun a13 H13 => ?_
        clear H12
        refine a_op (m' := [(2, _)]) 10 H13 rfl rfl (by kernel_rfl) (by kernel_rfl) (by kernel_rfl) (fun _ _ _ h => h) (wn rfl) (fun w hL => R_as H13 rfl rfl) hL.tail rfl (P1 2 rfl) fun a14 H14 => ?_
        clear H13
        refine wpAnyH_done (by kernel_rfl) ?_ _
        repeat (go_not_at_region 999; go_step)
        exact H14.ret1 rfl rfl ⟨congrArg (fun s => Ending.returned (.string s)) hcat, hL.1⟩
      · refine o_call 8 H10 rfl rfl (wn rfl) (R_call1 H10 rfl rfl (fun w => by simp [go_sem])) rfl ?_
        refine (ih (n / 128) (by omega) (n / 128) (Nat.le_refl _) (by omega) _).mono ?_
        rintro e wx ⟨rfl, hb⟩
        replace hL := hL.call hb
        clear hb
        refine ⟨_, rfl, fun a11 HH => ⟨hL.tail, ?_⟩⟩
        have H11 := HH [(17, _), (13, _)] (P2 17 13 rfl rfl)
        clear HH H10
        refine a_all1 5 (by kernel_rfl) ?_
        refine o_op (m' := [(14, _), (17, _)]) 5 H11 rfl rfl (wn rfl) (R_cv H11 rfl rfl (cv_u8 hx2 hL)) rfl (P2 14 17 rfl rfl) fun a12 H12 => ?_
        clear H11
        refine ⟨hL.tail, ?_⟩
        refine a_op (m' := [(18, _)]) 9 H12 rfl rfl (by kernel_rfl) (by kernel_rfl) (by kernel_rfl) (fun _ _ _ h => h) (wn rfl) (fun w hL => R_bin H12 rfl rfl rfl (B_cat _ _ hsz)) hL.tail rfl (P1 18 rfl) fun a13 H13 => ?_
        clear H12
        refine a_op (m' := [(2, _)]) 10 H13 rfl rfl (by kernel_rfl) (by kernel_rfl) (by kernel_rfl) (fun _ _ _ h => h) (wn rfl) (fun w hL => R_as H13 rfl rfl) hL.tail rfl (P1 2 rfl) fun a14 H14 => ?_
        clear H13
        refine wpAnyH_done (by kernel_rfl) ?_ _
        repeat (go_not_at_region 999; go_step)
        exact H14.ret1 rfl rfl ⟨congrArg (fun s => Ending.returned (.string s)) hcat, hL.1⟩
    · refine o_call 8 H9 rfl rfl (wn rfl) (R_call1 H9 rfl rfl (fun w => by simp [go_sem])) rfl ?_
      refine (ih (n / 128) (by omega) (n / 128) (Nat.le_refl _) (by omega) _).mono ?_
      rintro e wx ⟨rfl, hb⟩
      replace hL := hL.call hb
      clear hb
      refine ⟨_, rfl, fun a10 HH => ⟨hL, ?_⟩⟩
      have H10 := HH [(17, _), (12, _)] (P2 17 12 rfl rfl)
      clear HH H9
      refine a_all1 4 (by kernel_rfl) ?_
      refine o_op (m' := [(13, _), (17, _)]) 4 H10 rfl rfl (wn rfl) (R_bs1 H10 rfl rfl (bs_u8 _)) rfl (P2 13 17 rfl rfl) fun a11 H11 => ?_
      clear H10
      replace hL := hL.alloc #[.int .u8 (x : Nat)] 5
      refine ⟨hL.tail, ?_⟩
      refine a_all1 5 (by kernel_rfl) ?_
      refine o_op (m' := [(14, _), (17, _)]) 5 H11 rfl rfl (wn rfl) (R_cv H11 rfl rfl (cv_u8 hx2 hL)) rfl (P2 14 17 rfl rfl) fun a12 H12 => ?_
      clear H11
      refine ⟨hL.tail, ?_⟩
      refine a_op (m' := [(18, _)]) 9 H12 rfl rfl (by kernel_rfl) (by kernel_rfl) (by kernel_rfl) (fun _ _ _ h => h) (wn rfl) (fun w hL => R_bin H12 rfl rfl rfl (B_cat _ _ hsz)) hL.tail rfl (P1 18 rfl) fun a13 H13 => ?_
      clear H12
      refine a_op (m' := [(2, _)]) 10 H13 rfl rfl (by kernel_rfl) (by kernel_rfl) (by kernel_rfl) (fun _ _ _ h => h) (wn rfl) (fun w hL => R_as H13 rfl rfl) hL.tail rfl (P1 2 rfl) fun a14 H14 => ?_
      clear H13
      refine wpAnyH_done (by kernel_rfl) ?_ _
      repeat (go_not_at_region 999; go_step)
      exact H14.ret1 rfl rfl ⟨congrArg (fun s => Ending.returned (.string s)) hcat, hL.1⟩
end Go.Proofs.Ytmmhchpilcjflaa

/-
  meterref02.Text, Zig, meterref04.num, list: their bytes.
-/
namespace Go.Proofs.Ytmmhchpilcjflaa
open Go.RowKit
section
variable {w : World}
theorem cvi_u64 (x : Nat) (h : x < 9223372036854775808) : (convert 3 22 (.int .i64 (x : Nat))).run Try.prog w = .ok (.int .u64 (x : Nat)) w := by
  have e : IntKind.u64.wrap (x : Int) = x := u64_id (by omega) (by omega)
  simp [go_sem, e]
theorem cvl_u64 (x : Nat) (h : x < 9223372036854775808) : (convert 2 22 (.int .i64 (x : Nat))).run Try.prog w = .ok (.int .u64 (x : Nat)) w := by
  have e : IntKind.u64.wrap (x : Int) = x := u64_id (by omega) (by omega)
  simp [go_sem, e]
theorem B64_dbl {X Y : Operand} (x : Nat) (h : x < 9223372036854775808) : ((do eqGuard .mul 22 X Y (.int .u64 2) (.int .u64 (x : Nat)); binOp .mul 22 (.int .u64 2) (.int .u64 (x : Nat))) : Sem Value).run Try.prog w = .ok (.int .u64 (2 * x : Nat)) w := by
  have e : IntKind.u64.wrap (2 * (x : Int)) = 2 * (x : Int) := u64_id (by omega) (by omega)
  simp [go_sem, e]
theorem B64_inc {X Y : Operand} (x : Nat) (h : x < 18446744073709551615) : ((do eqGuard .add 22 X Y (.int .u64 (x : Nat)) (.int .u64 1); binOp .add 22 (.int .u64 (x : Nat)) (.int .u64 1)) : Sem Value).run Try.prog w = .ok (.int .u64 (x + 1 : Nat)) w := by
  have e : IntKind.u64.wrap ((x : Int) + 1) = (x : Int) + 1 := u64_id (by omega) (by omega)
  simp [go_sem, e]
theorem Bl_geq {X Y : Operand} (x y : Int) : ((do eqGuard .geq 2 X Y (.int .i64 x) (.int .i64 y); binOp .geq 2 (.int .i64 x) (.int .i64 y)) : Sem Value).run Try.prog w = .ok (.bool (decide (x ≥ y))) w := B_ge Try.underlying2 x y
theorem ng_i64 (x : Int) (h0 : -9223372036854775808 < x) (h1 : x < 9223372036854775808) : (Op.unary .neg (.int .i64 x)).run Try.prog w = .ok (.int .i64 (-x)) w := by
  have e : IntKind.i64.wrap (-x) = -x := i64_id (by omega) (by omega)
  simp [go_sem, e]
theorem B_catL {X Y : Operand} (a b : List Nat) (h : a.length + b.length ≤ 100000) : ((do eqGuard .add 9 X Y (.string (packL a)) (.string (packL b)); binOp .add 9 (.string (packL a)) (.string (packL b))) : Sem Value).run Try.prog w = .ok (.string (packL (a ++ b))) w := by
  rw [← packL_app]
  exact B_cat _ _ (by rw [packL_size, packL_size]; exact h)
end
theorem packL_of (s : ByteArray) : packL (bytesOf s) = s := bytes_inj (packL_bytes bytesOf_lt)
theorem listB_len : ∀ {l : List Int}, l.all inB = true → (listB l).length ≤ 10 * l.length
  | [], _ => by simp [listB]
  | x :: l, h => by
    simp only [List.all_cons, Bool.and_eq_true] at h
    have h1 := listB_len h.2
    have hx : inB x = true := h.1
    unfold inB at hx
    simp only [Bool.and_eq_true, decide_eq_true_eq] at hx
    have h2 := vbytes_le (x := x.toNat) (by omega)
    show (vbytes x.toNat ++ listB l).length ≤ _
    rw [List.length_append, List.length_cons]
    omega
theorem listB_more {l : List Int} {j : Nat} (hj : j < l.length) : listB (l.take (j + 1)) = listB (l.take j) ++ vbytes (l.getD j 0).toNat := by
  unfold listB
  rw [List.take_add_one, List.flatMap_append, List.getElem?_eq_getElem hj, List.getD_eq_getElem?_getD, List.getElem?_eq_getElem hj]
  simp
section
variable {w0 W : World} {L : List Blk} {l : List Int} {v : Value}
set_option maxRecDepth 100000 in
theorem rnum_any {n : Nat} (hn : n < 9223372036854775808) : Calls Try.prog 37 #[.int .i64 (n : Nat)] W fun e W' => e = .returned (.string (packL (vbytes n))) ∧ Below W.heap.size W W' := by
  have hL := Live.init W
  go_enter Try.func37, Try.ntmps37
  refine wp_fr (n := 6) (m := [(0, _)]) ⟨rfl, rfl, by intro p hp; simp only [List.mem_cons, List.not_mem_nil, or_false] at hp; rcases hp with rfl <;> rfl⟩ fun a0 H0 => ?_
  repeat (go_not_at_region 0; go_step)
  refine wp_region_lit ?_
  refine h_op H0 rfl (wn rfl) (R_as H0 rfl rfl) rfl (P1 0 rfl) fun a1 H1 => ?_
  clear H0
  refine h_end ?_
  repeat (go_not_at_region 1; go_step)
  refine wp_region_lit ?_
  refine h_op H1 rfl (wn rfl) (R_mv H1 rfl rfl) rfl (P1 3 rfl) fun a2 H2 => ?_
  clear H1
  refine h_op H2 rfl (wn rfl) (R_cv H2 rfl rfl (cvi_u64 _ hn)) rfl (P1 4 rfl) fun a3 H3 => ?_
  clear H2
  refine h_call H3 rfl (wn rfl) (R_call1 H3 rfl rfl (fun w => by simp [go_sem])) rfl ?_
  refine (rNum_any (n) (n) (Nat.le_refl _) (by omega) _).mono ?_
  rintro e wx ⟨rfl, hb⟩
  replace hL := hL.call hb
  clear hb
  refine ⟨_, rfl, fun a4 HH => ?_⟩
  have H4 := HH _ (P1 5 rfl)
  clear HH H3
  refine h_op H4 rfl (wn rfl) (R_as H4 rfl rfl) rfl (P1 2 rfl) fun a5 H5 => ?_
  clear H4
  refine h_end ?_
  repeat (go_not_at_region 999; go_step)
  exact H5.ret1 rfl rfl ⟨rfl, hL.1⟩
theorem rnum_in {x : Int} (hx : inB x = true) : Calls Try.prog 37 #[.int .i64 x] W fun e W' => e = .returned (.string (packL (vbytes x.toNat))) ∧ Below W.heap.size W W' := by
  unfold inB at hx
  simp only [Bool.and_eq_true, decide_eq_true_eq] at hx
  have h := rnum_any (W := W) (n := x.toNat) (by omega)
  rw [show ((x.toNat : Nat) : Int) = x by omega] at h
  exact h
set_option maxRecDepth 100000 in
theorem rText_any {s : ByteArray} (hs : s.size ≤ 50000) : Calls Try.prog 40 #[.string s] W fun e W' => e = .returned (.string (packL (vbytes s.size ++ bytesOf s))) ∧ Below W.heap.size W W' := by
  have hL := Live.init W
  have hcat : packL (vbytes s.size) ++ s = packL (vbytes s.size ++ bytesOf s) := by rw [← packL_app, packL_of]
  have hlen := vbytes_le (x := s.size) (by omega)
  go_enter Try.func40, Try.ntmps40
  refine wp_fr (n := 9) (m := [(0, _)]) ⟨rfl, rfl, by intro p hp; simp only [List.mem_cons, List.not_mem_nil, or_false] at hp; rcases hp with rfl <;> rfl⟩ fun a0 H0 => ?_
  repeat (go_not_at_region 0; go_step)
  refine wp_region_lit ?_
  refine h_op H0 rfl (wn rfl) (R_as H0 rfl rfl) rfl (P1 0 rfl) fun a1 H1 => ?_
  clear H0
  refine h_end ?_
  repeat (go_not_at_region 1; go_step)
  refine wp_region_lit ?_
  refine h_op H1 rfl (wn rfl) (R_mv H1 rfl rfl) rfl (P2 3 0 rfl rfl) fun a2 H2 => ?_
  clear H1
  refine h_op H2 rfl (wn rfl) (R_len H2 rfl rfl Try.underlying9) rfl (P2 4 0 rfl rfl) fun a3 H3 => ?_
  clear H2
  refine h_op H3 rfl (wn rfl) (R_cv H3 rfl rfl (cvi_u64 _ (by omega))) rfl (P2 5 0 rfl rfl) fun a4 H4 => ?_
  clear H3
  refine h_call H4 rfl (wn rfl) (R_call1 H4 rfl rfl (fun w => by simp [go_sem])) rfl ?_
  refine (rNum_any (s.size) (s.size) (Nat.le_refl _) (by omega) _).mono ?_
  rintro e wx ⟨rfl, hb⟩
  replace hL := hL.call hb
  clear hb
  refine ⟨_, rfl, fun a5 HH => ?_⟩
  have H5 := HH _ (P2 6 0 rfl rfl)
  clear HH H4
  refine h_op H5 rfl (wn rfl) (R_mv H5 rfl rfl) rfl (P2 7 6 rfl rfl) fun a6 H6 => ?_
  clear H5
  refine h_op H6 rfl (wn rfl) (R_bin H6 rfl rfl rfl (B_cat _ _ (by rw [packL_size]; omega))) rfl (P1 8 rfl) fun a7 H7 => ?_
  clear H6
  refine h_op H7 rfl (wn rfl) (R_as H7 rfl rfl) rfl (P1 2 rfl) fun a8 H8 => ?_
  clear H7
  refine h_end ?_
  repeat (go_not_at_region 999; go_step)
  exact H8.ret1 rfl rfl ⟨congrArg (fun s => Ending.returned (.string s)) hcat, hL.1⟩
set_option maxRecDepth 100000 in
theorem rZig_any {n : Int} (h0 : -9223372036854775808 ≤ n) (h1 : n < 9223372036854775808) : Calls Try.prog 42 #[.int .i64 n] W fun e W' => e = .returned (.int .u64 (zig n : Nat)) ∧ W' = W := by
  go_enter Try.func42, Try.ntmps42
  refine wp_fr (n := 14) (m := [(0, _)]) ⟨rfl, rfl, by intro p hp; simp only [List.mem_cons, List.not_mem_nil, or_false] at hp; rcases hp with rfl <;> rfl⟩ fun a0 H0 => ?_
  repeat (go_not_at_region 0; go_step)
  refine wp_region_lit ?_
  refine h_op H0 rfl (wn rfl) (R_as H0 rfl rfl) rfl (P1 0 rfl) fun a1 H1 => ?_
  clear H0
  refine h_end ?_
  by_cases hn : 0 ≤ n
  · obtain ⟨x, rfl⟩ : ∃ x : Nat, n = x := ⟨n.toNat, by omega⟩
    have hz : zig (x : Int) = 2 * x := by unfold zig; rw [if_pos hn]; omega
    repeat (go_not_at_region 1; go_step)
    refine wp_region_lit ?_
    refine h_op H1 rfl (wn rfl) (R_mv H1 rfl rfl) rfl (P2 3 0 rfl rfl) fun a2 H2 => ?_
    clear H1
    refine h_op H2 rfl (wn rfl) (R_bin H2 rfl rfl rfl (B_to (y := true) (Bl_geq _ _) (decide_eq_true (by omega)))) rfl (P2 4 0 rfl rfl) fun a3 H3 => ?_
    clear H2
    refine h_end ?_
    repeat (go_not_at_region 2; go_step)
    refine wp_cond_true (H3.ev (x := .tmp 4) rfl) ?_
    repeat (go_not_at_region 2; go_step)
    refine wp_region_lit ?_
    refine h_op H3 rfl (wn rfl) (R_mv H3 rfl rfl) rfl (P1 5 rfl) fun a4 H4 => ?_
    clear H3
    refine h_op H4 rfl (wn rfl) (R_cv H4 rfl rfl (cvl_u64 _ (by omega))) rfl (P1 6 rfl) fun a5 H5 => ?_
    clear H4
    refine h_op H5 rfl (wn rfl) (R_bin H5 rfl rfl rfl (B64_dbl _ (by omega))) rfl (P1 7 rfl) fun a6 H6 => ?_
    clear H5
    refine h_op H6 rfl (wn rfl) (R_as H6 rfl rfl) rfl (P1 2 rfl) fun a7 H7 => ?_
    clear H6
    refine h_end ?_
    repeat (go_not_at_region 999; go_step)
    rw [hz]
    exact H7.ret1 rfl rfl ⟨rfl, rfl⟩
  · obtain ⟨x, hx⟩ : ∃ x : Nat, n + 1 = -(x : Int) := ⟨(-(n + 1)).toNat, by omega⟩
    have hz : zig n = 2 * x + 1 := by unfold zig; rw [if_neg hn]; omega
    repeat (go_not_at_region 1; go_step)
    refine wp_region_lit ?_
    refine h_op H1 rfl (wn rfl) (R_mv H1 rfl rfl) rfl (P2 3 0 rfl rfl) fun a2 H2 => ?_
    clear H1
    refine h_op H2 rfl (wn rfl) (R_bin H2 rfl rfl rfl (B_to (y := false) (Bl_geq _ _) (decide_eq_false (by omega)))) rfl (P2 4 0 rfl rfl) fun a3 H3 => ?_
    clear H2
    refine h_end ?_
    repeat (go_not_at_region 3; go_step)
    refine wp_cond_false (H3.ev (x := .tmp 4) rfl) ?_
    repeat (go_not_at_region 3; go_step)
    refine wp_region_lit ?_
    refine h_op H3 rfl (wn rfl) (R_mv H3 rfl rfl) rfl (P1 8 rfl) fun a4 H4 => ?_
    clear H3
    refine h_op H4 rfl (wn rfl) (R_bin H4 rfl rfl rfl (B_add Try.underlying2 _ _ (by omega) (by omega))) rfl (P1 9 rfl) fun a5 H5 => ?_
    clear H4
    refine h_op H5 rfl (wn rfl) (R_un H5 rfl rfl (by rw [hx]; exact ng_i64 _ (by omega) (by omega))) rfl (P1 10 rfl) fun a6 H6 => ?_
    clear H5
    refine h_op H6 rfl (wn rfl) (R_cv H6 rfl rfl (by rw [Int.neg_neg]; exact cvl_u64 x (by omega))) rfl (P1 11 rfl) fun a7 H7 => ?_
    clear H6
    refine h_op H7 rfl (wn rfl) (R_bin H7 rfl rfl rfl (B64_dbl _ (by omega))) rfl (P1 12 rfl) fun a8 H8 => ?_
    clear H7
    refine h_op H8 rfl (wn rfl) (R_bin H8 rfl rfl rfl (B64_inc _ (by omega))) rfl (P1 13 rfl) fun a9 H9 => ?_
    clear H8
    refine h_op H9 rfl (wn rfl) (R_as H9 rfl rfl) rfl (P1 2 rfl) fun a10 H10 => ?_
    clear H9
    refine h_end ?_
    repeat (go_not_at_region 999; go_step)
    rw [hz]
    exact H10.ret1 rfl rfl ⟨rfl, rfl⟩
set_option maxRecDepth 100000 in
theorem rlist_any (hv : Rd W v l) (hb : l.all inB = true) (hl : l.length ≤ 1024) : Calls Try.prog 38 #[v] W fun e W' => e = .returned (.string (packL (vbytes l.length ++ listB l))) ∧ Below W.heap.size W W' := by
  have hL := Live.init W
  obtain ⟨A, c, rfl⟩ := hv.slc
  have K1 : ∀ {w}, Below W.heap.size W w → Rd w (.slice A l.length c) l := fun hb => hv.kept fun k hk => hb.block k hk
  have hlen := vbytes_le (x := l.length) (by omega)
  go_enter Try.func38, Try.ntmps38
  refine wp_fr (n := 22) (m := [(0, _)]) ⟨rfl, rfl, by intro p hp; simp only [List.mem_cons, List.not_mem_nil, or_false] at hp; rcases hp with rfl <;> rfl⟩ fun a0 H0 => ?_
  repeat (go_not_at_region 0; go_step)
  refine wp_region_lit ?_
  refine h_op H0 rfl (wn rfl) (R_as H0 rfl rfl) rfl (P1 0 rfl) fun a1 H1 => ?_
  clear H0
  refine h_end ?_
  repeat (go_not_at_region 1; go_step)
  refine wp_region_lit ?_
  refine h_op H1 rfl (wn rfl) (R_mv H1 rfl rfl) rfl (P2 5 0 rfl rfl) fun a2 H2 => ?_
  clear H1
  refine h_op H2 rfl (wn rfl) (R_lenS H2 rfl rfl Try.underlying25) rfl (P2 6 0 rfl rfl) fun a3 H3 => ?_
  clear H2
  refine h_call H3 rfl (wn rfl) (R_call1 H3 rfl rfl (fun w => by simp [go_sem])) rfl ?_
  refine (rnum_any (n := l.length) (by omega)).mono ?_
  rintro e wx ⟨rfl, hb⟩
  replace hL := hL.call hb
  clear hb
  refine ⟨_, rfl, fun a4 HH => ?_⟩
  have H4 := HH _ (P2 7 0 rfl rfl)
  clear HH H3
  refine h_op H4 rfl (wn rfl) (R_as H4 rfl rfl) rfl (P2 3 0 rfl rfl) fun a5 H5 => ?_
  clear H4
  refine h_end ?_
  repeat (go_not_at_region 2; go_step)
  refine wp_region_lit ?_
  refine h_op H5 rfl (wn rfl) (R_as H5 rfl rfl) rfl (P3 4 3 0 rfl rfl rfl) fun a6 H6 => ?_
  clear H5
  refine h_end ?_
  repeat (go_not_at_region 3; go_step)
  obtain ⟨I, hI⟩ : ∃ I : Nat → Act → World → Prop, ∀ n a' w', I n a' w' ↔ ∃ j : Nat, n = l.length - j ∧ j ≤ l.length ∧ Fr a' 22 [(0, .slice A l.length c), (3, .string (packL (vbytes l.length ++ listB (l.take j)))), (4, .int .i64 (j : Nat))] ∧ Live W [] w' := ⟨_, fun _ _ _ => Iff.rfl⟩
  have HI := Lib.hid hI
  clear hI
  refine wp_loop_ghost I l.length ((HI.out _ _ _).2 ⟨0, rfl, Nat.zero_le _, ?_, hL⟩) ?_
  · have e : vbytes l.length = vbytes l.length ++ listB (l.take 0) := by simp [listB]
    rw [← e]
    exact H6.pick _ (P3 0 3 4 rfl rfl rfl)
  clear hL
  intro n a1 w1 hi
  obtain ⟨j, rfl, hj, H0, hL⟩ := (HI.out _ _ _).1 hi
  clear hi
  by_cases hjl : j < l.length
  · repeat (go_not_at_region 3; go_step)
    refine wp_region_lit ?_
    refine h_op H0 rfl (wn rfl) (R_mv H0 rfl rfl) rfl (P4 8 0 3 4 rfl rfl rfl rfl) fun a1 H1 => ?_
    clear H0
    refine h_op H1 rfl (wn rfl) (R_mv H1 rfl rfl) rfl (P5 9 8 0 3 4 rfl rfl rfl rfl rfl) fun a2 H2 => ?_
    clear H1
    refine h_op H2 rfl (wn rfl) (R_lenS H2 rfl rfl Try.underlying25) rfl (P5 10 8 0 3 4 rfl rfl rfl rfl rfl) fun a3 H3 => ?_
    clear H2
    refine h_op H3 rfl (wn rfl) (R_bin H3 rfl rfl rfl (B_to (y := true) (B_lt Try.underlying3 _ _) (decide_eq_true (by omega)))) rfl (P4 11 0 3 4 rfl rfl rfl rfl) fun a4 H4 => ?_
    clear H3
    refine h_end ?_
    repeat (go_not_at_region 5; go_step)
    refine wp_cond_true (H4.ev (x := .tmp 11) rfl) ?_
    obtain ⟨ad, rfl, hx⟩ := (K1 hL.1).elem hjl
    have hbj : inB (l.getD j 0) = true := by
      rw [List.getD_eq_getElem?_getD, List.getElem?_eq_getElem hjl]
      exact List.all_eq_true.1 hb _ (List.getElem_mem _)
    have ht : (l.take j).all inB = true := List.all_eq_true.2 fun x hx => List.all_eq_true.1 hb x (List.mem_of_mem_take hx)
    have hlB := listB_len ht
    have hlt : (l.take j).length ≤ 1024 := by rw [List.length_take]; omega
    have hvb : (vbytes (l.getD j 0).toNat).length ≤ 10 := vbytes_le (by unfold inB at hbj; simp only [Bool.and_eq_true, decide_eq_true_eq] at hbj; omega)
    repeat (go_not_at_region 5; go_step)
    refine wp_region_lit ?_
    refine h_op H4 rfl (wn rfl) (R_mv H4 rfl rfl) rfl (P4 14 0 3 4 rfl rfl rfl rfl) fun a5 H5 => ?_
    clear H4
    refine h_op H5 rfl (wn rfl) (R_mv H5 rfl rfl) rfl (P5 15 14 0 3 4 rfl rfl rfl rfl rfl) fun a6 H6 => ?_
    clear H5
    refine h_op H6 rfl (wn rfl) (R_mv H6 rfl rfl) rfl (P6 16 15 14 0 3 4 rfl rfl rfl rfl rfl rfl) fun a7 H7 => ?_
    clear H6
    refine h_op H7 rfl (wn rfl) (R_ixa H7 rfl rfl rfl (ix_at hjl)) rfl (P5 17 14 0 3 4 rfl rfl rfl rfl rfl) fun a8 H8 => ?_
    clear H7
    refine h_op H8 rfl (wn rfl) (R_ld H8 rfl rfl (ld_int hx)) rfl (P5 18 14 0 3 4 rfl rfl rfl rfl rfl) fun a9 H9 => ?_
    clear H8
    refine h_call H9 rfl (wn rfl) (R_call1 H9 rfl rfl (fun w => by simp [go_sem])) rfl ?_
    refine (rnum_in hbj).mono ?_
    rintro e wx ⟨rfl, hb⟩
    replace hL := hL.call hb
    clear hb
    refine ⟨_, rfl, fun a10 HH => ?_⟩
    have H10 := HH _ (P5 19 14 0 3 4 rfl rfl rfl rfl rfl)
    clear HH H9
    refine h_op H10 rfl (wn rfl) (R_bin H10 rfl rfl rfl (B_catL _ _ (by rw [List.length_append]; omega))) rfl (P4 20 0 3 4 rfl rfl rfl rfl) fun a11 H11 => ?_
    clear H10
    refine h_op H11 rfl (wn rfl) (R_as H11 rfl rfl) rfl (P3 3 0 4 rfl rfl rfl) fun a12 H12 => ?_
    clear H11
    refine h_end ?_
    repeat (go_not_at_region 4; go_step)
    refine wp_region_lit ?_
    refine h_op H12 rfl (wn rfl) (R_mv H12 rfl rfl) rfl (P4 12 3 0 4 rfl rfl rfl rfl) fun a13 H13 => ?_
    clear H12
    refine h_op H13 rfl (wn rfl) (R_bin H13 rfl rfl rfl (B_add Try.underlying3 _ _ (by omega) (by omega))) rfl (P4 13 3 0 4 rfl rfl rfl rfl) fun a14 H14 => ?_
    clear H13
    refine h_op H14 rfl (wn rfl) (R_as H14 rfl rfl) rfl (P3 4 3 0 rfl rfl rfl) fun a15 H15 => ?_
    clear H14
    refine h_end ?_
    repeat (go_not_at_region 999; go_step)
    refine ⟨l.length - (j + 1), by omega, (HI.out _ _ _).2 ⟨j + 1, rfl, hjl, ?_, hL⟩⟩
    rw [listB_more hjl, ← List.append_assoc]
    exact H15.pick _ (P3 0 3 4 rfl rfl rfl)
  · repeat (go_not_at_region 3; go_step)
    refine wp_region_lit ?_
    refine h_op H0 rfl (wn rfl) (R_mv H0 rfl rfl) rfl (P4 8 0 3 4 rfl rfl rfl rfl) fun a1 H1 => ?_
    clear H0
    refine h_op H1 rfl (wn rfl) (R_mv H1 rfl rfl) rfl (P5 9 8 0 3 4 rfl rfl rfl rfl rfl) fun a2 H2 => ?_
    clear H1
    refine h_op H2 rfl (wn rfl) (R_lenS H2 rfl rfl Try.underlying25) rfl (P5 10 8 0 3 4 rfl rfl rfl rfl rfl) fun a3 H3 => ?_
    clear H2
    refine h_op H3 rfl (wn rfl) (R_bin H3 rfl rfl rfl (B_to (y := false) (B_lt Try.underlying3 _ _) (decide_eq_false (by omega)))) rfl (P4 11 0 3 4 rfl rfl rfl rfl) fun a4 H4 => ?_
    clear H3
    refine h_end ?_
    repeat (go_not_at_region 6; go_step)
    refine wp_cond_false (H4.ev (x := .tmp 11) rfl) ?_
    obtain rfl : j = l.length := by omega
    rw [List.take_length] at H4
    repeat (go_not_at_region 6; go_step)
    refine wp_region_lit ?_
    refine h_op H4 rfl (wn rfl) (R_mv H4 rfl rfl) rfl (P1 21 rfl) fun a5 H5 => ?_
    clear H4
    refine h_op H5 rfl (wn rfl) (R_as H5 rfl rfl) rfl (P1 2 rfl) fun a6 H6 => ?_
    clear H5
    refine h_end ?_
    repeat (go_not_at_region 999; go_step)
    exact H6.ret1 rfl rfl ⟨rfl, hL.1⟩
end
end Go.Proofs.Ytmmhchpilcjflaa

/-
  meterref01.Crc, meterref03.four, Put: the document's sums and frames.
-/
namespace Go.Proofs.Ytmmhchpilcjflaa
open Go.RowKit
section
variable {P : Program} {a : Act} {w w' : World} {n : Nat} {m : List (Nat × Value)} {o : Oper} {v : Value}
theorem R_bs4 {t : TypeId} {k : Nat} {x0 x1 x2 x3 : Operand} {v0 v1 v2 v3 : Value} (H : Fr a n m) (ho : o.op = .buildSlice t k #[(0, x0), (1, x1), (2, x2), (3, x3)]) (h0 : ev1 m x0 = some v0) (h1 : ev1 m x1 = some v1) (h2 : ev1 m x2 = some v2) (h3 : ev1 m x3 = some v3) (hl : (Instr.buildSlice t k #[(0, v0), (1, v1), (2, v2), (3, v3)]).run P w = .ok v w') : (execOp a.eval o).run P w = .ok (.value v) w' := by
  have e0 := H.ev h0
  have e1 := H.ev h1
  have e2 := H.ev h2
  have e3 := H.ev h3
  unfold execOp
  rw [ho]
  generalize a.eval = ρ at *
  simp only [List.map_toArray, List.map_cons, List.map_nil, e0, e1, e2, e3]
  exact fr_v hl
end
section
variable {w0 w : World} {L : List Blk} {g : Nat}
theorem bs4_u8 (x y z u : Int) : (Instr.buildSlice 38 4 #[(0, .int .u8 x), (1, .int .u8 y), (2, .int .u8 z), (3, .int .u8 u)]).run Try.prog w = .ok (.slice (some ⟨w.heap.size, 0, none⟩) 4 4) (w.alloc (.cells #[.int .u8 x, .int .u8 y, .int .u8 z, .int .u8 u] 5)) := by
  simp [go_sem]
theorem cv4_u8 {x y z u : Nat} (hb : ∀ b ∈ [x, y, z, u], b < 256) (h : Live w0 ((g, #[.int .u8 (x : Nat), .int .u8 (y : Nat), .int .u8 (z : Nat), .int .u8 (u : Nat)], 5) :: L) w) : (convert 38 9 (.slice (some ⟨g, 0, none⟩) 4 4)).run Try.prog w = .ok (.string (packL [x, y, z, u])) w := by
  have hr : RowIs 5 (.slice (some ⟨g, 0, none⟩) 4 4) (u8s [x, y, z, u]) [(g, #[.int .u8 (x : Nat), .int .u8 (y : Nat), .int .u8 (z : Nat), .int .u8 (u : Nat)], 5)] := .inr ⟨g, 4, #[.int .u8 (x : Nat), .int .u8 (y : Nat), .int .u8 (z : Nat), .int .u8 (u : Nat)], rfl, rfl, by simp [u8s], by unfold maxLen; omega, rfl, rfl⟩
  exact string_run hr (B := [(g, #[.int .u8 (x : Nat), .int .u8 (y : Nat), .int .u8 (z : Nat), .int .u8 (u : Nat)], 5)]) h hb
theorem B32_remN {X Y : Operand} (x k : Nat) (hk : 0 < k) : ((do eqGuard .rem 51 X Y (.int .u32 (x : Nat)) (.int .u32 (k : Nat)); binOp .rem 51 (.int .u32 (x : Nat)) (.int .u32 (k : Nat))) : Sem Value).run Try.prog w = .ok (.int .u32 (x % k : Nat)) w := by
  have e : (x : Int).tmod k = ((x % k : Nat) : Int) := Int.tmod_eq_emod_of_nonneg (by omega)
  have e2 : (k : Int) ≠ 0 := by omega
  have e3 : ¬ k = 0 := by omega
  simp [go_sem, e, e2, e3]
theorem B32_quoN {X Y : Operand} (x k : Nat) (hk : 0 < k) (hx : x < 4294967296) : ((do eqGuard .quo 51 X Y (.int .u32 (x : Nat)) (.int .u32 (k : Nat)); binOp .quo 51 (.int .u32 (x : Nat)) (.int .u32 (k : Nat))) : Sem Value).run Try.prog w = .ok (.int .u32 (x / k : Nat)) w := by
  have e : (x : Int).tdiv k = ((x / k : Nat) : Int) := Int.tdiv_eq_ediv_of_nonneg (by omega)
  have hle : x / k ≤ x := Nat.div_le_self _ _
  have e1 : IntKind.u32.wrap ((x : Int) / k) = (x : Int) / k := by
    rw [← Int.natCast_ediv]
    generalize x / k = q at *
    unfold IntKind.wrap
    simp [IntKind.signed, IntKind.bits]
    omega
  have e2 : (k : Int) ≠ 0 := by omega
  have e3 : ¬ k = 0 := by omega
  simp [go_sem, e, e1, e2, e3]
theorem B32_xorN {X Y : Operand} (x y : Nat) (hx : x < 4294967296) (hy : y < 4294967296) : ((do eqGuard .xor 51 X Y (.int .u32 (x : Nat)) (.int .u32 (y : Nat)); binOp .xor 51 (.int .u32 (x : Nat)) (.int .u32 (y : Nat))) : Sem Value).run Try.prog w = .ok (.int .u32 (x ^^^ y : Nat)) w := by
  have e := u32_xor_nat x y hx hy
  simp [go_sem, e]
theorem cv32_8 (x : Nat) (h : x < 256) : (convert 51 5 (.int .u32 (x : Nat))).run Try.prog w = .ok (.int .u8 (x : Nat)) w := by
  have e : IntKind.u8.wrap (x : Int) = x := by
    unfold IntKind.wrap
    simp [IntKind.signed, IntKind.bits]
    omega
  simp [go_sem, e]
theorem cv8_32 (x : Nat) (h : x < 256) : (convert 5 51 (.int .u8 (x : Nat))).run Try.prog w = .ok (.int .u32 (x : Nat)) w := by
  have e : IntKind.u32.wrap (x : Int) = x := by
    unfold IntKind.wrap
    simp [IntKind.signed, IntKind.bits]
    omega
  simp [go_sem, e]
theorem cvi_32 (x : Nat) (h : x < 4294967296) : (convert 3 51 (.int .i64 (x : Nat))).run Try.prog w = .ok (.int .u32 (x : Nat)) w := by
  have e : IntKind.u32.wrap (x : Int) = x := by
    unfold IntKind.wrap
    simp [IntKind.signed, IntKind.bits]
    omega
  simp [go_sem, e]
end
theorem sb_val (x : Nat) : sb x = if x % 2 = 1 then x / 2 ^^^ 2197175160 else x / 2 := rfl
theorem crcR_more {s : ByteArray} {j : Nat} (hj : j < s.size) (c : Nat) : crcR c ((bytesOf s).take (j + 1)) = sbN 8 (crcR c ((bytesOf s).take j) ^^^ (s[j]'hj).toNat) := by
  have e : (bytesOf s)[j]? = some (s[j]'hj).toNat := by
    rw [List.getElem?_eq_getElem (by simpa [bytesOf] using hj)]
    congr 1
    simp [bytesOf]
    rfl
  unfold crcR
  rw [List.take_add_one, List.foldl_append, e]
  rfl
section
variable {W : World} {s : ByteArray}
set_option maxRecDepth 100000 in
theorem four_any {n : Nat} (hn : n < 4294967296) : Calls Try.prog 44 #[.int .u32 (n : Nat)] W fun e W' => e = .returned (.string (packL (le4 n))) ∧ Below W.heap.size W W' := by
  have hL := Live.init W
  have hle : le4 n = [n % 256, n / 256 % 256, n / 65536 % 256, n / 16777216] := by
    unfold le4
    rw [Nat.mod_eq_of_lt (show n / 16777216 < 256 by omega)]
  have hall := le4_all n
  rw [hle] at hall ⊢
  go_enter Try.func44, Try.ntmps44
  refine wp_fr (n := 19) (m := [(0, _)]) ⟨rfl, rfl, by intro p hp; simp only [List.mem_cons, List.not_mem_nil, or_false] at hp; rcases hp with rfl <;> rfl⟩ fun a0 H0 => ?_
  repeat (go_not_at_region 0; go_step)
  refine wp_region_lit ?_
  refine h_op H0 rfl (wn rfl) (R_as H0 rfl rfl) rfl (P1 0 rfl) fun a1 H1 => ?_
  clear H0
  refine h_end ?_
  repeat (go_not_at_region 1; go_step)
  refine wp_region_lit ?_
  refine h_op H1 rfl (wn rfl) (R_mv H1 rfl rfl) rfl (P2 3 0 rfl rfl) fun a2 H2 => ?_
  clear H1
  refine h_op H2 rfl (wn rfl) (R_bin H2 rfl rfl rfl (B32_remN n 256 (by decide))) rfl (P2 4 0 rfl rfl) fun a3 H3 => ?_
  clear H2
  refine h_op H3 rfl (wn rfl) (R_cv H3 rfl rfl (cv32_8 _ (by omega))) rfl (P2 5 0 rfl rfl) fun a4 H4 => ?_
  clear H3
  refine h_op H4 rfl (wn rfl) (R_mv H4 rfl rfl) rfl (P3 6 5 0 rfl rfl rfl) fun a5 H5 => ?_
  clear H4
  refine h_op H5 rfl (wn rfl) (R_bin H5 rfl rfl rfl (B32_quoN n 256 (by decide) hn)) rfl (P3 7 5 0 rfl rfl rfl) fun a6 H6 => ?_
  clear H5
  refine h_op H6 rfl (wn rfl) (R_bin H6 rfl rfl rfl (B32_remN (n / 256) 256 (by decide))) rfl (P3 8 5 0 rfl rfl rfl) fun a7 H7 => ?_
  clear H6
  refine h_op H7 rfl (wn rfl) (R_cv H7 rfl rfl (cv32_8 _ (by omega))) rfl (P3 9 5 0 rfl rfl rfl) fun a8 H8 => ?_
  clear H7
  refine h_op H8 rfl (wn rfl) (R_mv H8 rfl rfl) rfl (P4 10 9 5 0 rfl rfl rfl rfl) fun a9 H9 => ?_
  clear H8
  refine h_op H9 rfl (wn rfl) (R_bin H9 rfl rfl rfl (B32_quoN n 65536 (by decide) hn)) rfl (P4 11 9 5 0 rfl rfl rfl rfl) fun a10 H10 => ?_
  clear H9
  refine h_op H10 rfl (wn rfl) (R_bin H10 rfl rfl rfl (B32_remN (n / 65536) 256 (by decide))) rfl (P4 12 9 5 0 rfl rfl rfl rfl) fun a11 H11 => ?_
  clear H10
  refine h_op H11 rfl (wn rfl) (R_cv H11 rfl rfl (cv32_8 _ (by omega))) rfl (P4 13 9 5 0 rfl rfl rfl rfl) fun a12 H12 => ?_
  clear H11
  refine h_op H12 rfl (wn rfl) (R_mv H12 rfl rfl) rfl (P4 14 13 9 5 rfl rfl rfl rfl) fun a13 H13 => ?_
  clear H12
  refine h_op H13 rfl (wn rfl) (R_bin H13 rfl rfl rfl (B32_quoN n 16777216 (by decide) hn)) rfl (P4 15 13 9 5 rfl rfl rfl rfl) fun a14 H14 => ?_
  clear H13
  refine h_op H14 rfl (wn rfl) (R_cv H14 rfl rfl (cv32_8 _ (by omega))) rfl (P4 16 13 9 5 rfl rfl rfl rfl) fun a15 H15 => ?_
  clear H14
  refine h_op H15 rfl (wn rfl) (R_bs4 H15 rfl rfl rfl rfl rfl (bs4_u8 _ _ _ _)) rfl (P1 17 rfl) fun a16 H16 => ?_
  clear H15
  replace hL := hL.alloc #[.int .u8 (n % 256 : Nat), .int .u8 (n / 256 % 256 : Nat), .int .u8 (n / 65536 % 256 : Nat), .int .u8 (n / 16777216 : Nat)] 5
  refine h_op H16 rfl (wn rfl) (R_cv H16 rfl rfl (cv4_u8 hall hL)) rfl (P1 18 rfl) fun a17 H17 => ?_
  clear H16
  refine h_op H17 rfl (wn rfl) (R_as H17 rfl rfl) rfl (P1 2 rfl) fun a18 H18 => ?_
  clear H17
  refine h_end ?_
  repeat (go_not_at_region 999; go_step)
  exact H18.ret1 rfl rfl ⟨rfl, hL.1⟩
set_option maxHeartbeats 1000000 in
set_option maxRecDepth 100000 in
theorem rMore_any (hs : s.size < 140737488351233) : Calls Try.prog 63 #[.int .u32 0, .string s] W fun e W' => e = .returned (.int .u32 (crcM (bytesOf s) : Nat)) ∧ W' = W := by
  go_enter Try.func63, Try.ntmps63
  refine wp_fr (n := 37) (m := [(0, _), (1, _)]) ⟨rfl, rfl, by intro p hp; simp only [List.mem_cons, List.not_mem_nil, or_false] at hp; rcases hp with rfl | rfl <;> rfl⟩ fun a0 H0 => ?_
  repeat (go_not_at_region 0; go_step)
  refine wp_region_lit ?_
  refine h_op H0 rfl (wn rfl) (R_as H0 rfl rfl) rfl (P2 0 1 rfl rfl) fun a1 H1 => ?_
  clear H0
  refine h_end ?_
  repeat (go_not_at_region 1; go_step)
  refine wp_region_lit ?_
  refine h_op H1 rfl (wn rfl) (R_mv H1 rfl rfl) rfl (P2 9 1 rfl rfl) fun a2 H2 => ?_
  clear H1
  refine h_op H2 rfl (wn rfl) (R_bin H2 rfl rfl rfl (B32_xorN 0 4294967295 (by decide) (by decide))) rfl (P2 10 1 rfl rfl) fun a3 H3 => ?_
  clear H2
  refine h_op H3 rfl (wn rfl) (R_as H3 rfl rfl) rfl (P2 5 1 rfl rfl) fun a4 H4 => ?_
  clear H3
  refine h_end ?_
  repeat (go_not_at_region 2; go_step)
  refine wp_region_lit ?_
  refine h_op H4 rfl (wn rfl) (R_as H4 rfl rfl) rfl (P3 6 5 1 rfl rfl rfl) fun a5 H5 => ?_
  clear H4
  refine h_end ?_
  repeat (go_not_at_region 3; go_step)
  obtain ⟨I, hI⟩ : ∃ I : Nat → Act → World → Prop, ∀ n a' w', I n a' w' ↔ ∃ j : Nat, n = s.size - j ∧ j ≤ s.size ∧ Fr a' 37 [(1, .string s), (5, .int .u32 (crcR 4294967295 ((bytesOf s).take j) : Nat)), (6, .int .i64 (j : Nat))] ∧ w' = W := ⟨_, fun _ _ _ => Iff.rfl⟩
  have HI := Lib.hid hI
  clear hI
  refine wp_loop_ghost I s.size ((HI.out _ _ _).2 ⟨0, rfl, Nat.zero_le _, H5.pick _ (P3 1 5 6 rfl rfl rfl), rfl⟩) ?_
  intro n a1 w1 hi
  obtain ⟨j, rfl, hj, H0, rfl⟩ := (HI.out _ _ _).1 hi
  clear hi
  have hcl : crcR 4294967295 ((bytesOf s).take j) < 4294967296 := crcR_lt _ _ (by decide) fun b hb => bytesOf_lt b (List.mem_of_mem_take hb)
  by_cases hjl : j < s.size
  · repeat (go_not_at_region 3; go_step)
    refine wp_region_lit ?_
    refine h_op H0 rfl (wn rfl) (R_mv H0 rfl rfl) rfl (P4 11 1 5 6 rfl rfl rfl rfl) fun a1 H1 => ?_
    clear H0
    refine h_op H1 rfl (wn rfl) (R_mv H1 rfl rfl) rfl (P5 12 11 1 5 6 rfl rfl rfl rfl rfl) fun a2 H2 => ?_
    clear H1
    refine h_op H2 rfl (wn rfl) (R_len H2 rfl rfl Try.underlying9) rfl (P5 13 11 1 5 6 rfl rfl rfl rfl rfl) fun a3 H3 => ?_
    clear H2
    refine h_op H3 rfl (wn rfl) (R_bin H3 rfl rfl rfl (B_to (y := true) (B_lt Try.underlying3 _ _) (decide_eq_true (by omega)))) rfl (P4 14 1 5 6 rfl rfl rfl rfl) fun a4 H4 => ?_
    clear H3
    refine h_end ?_
    repeat (go_not_at_region 5; go_step)
    refine wp_cond_true (H4.ev (x := .tmp 14) rfl) ?_
    have hb8 : (s[j]'hjl).toNat < 256 := UInt8.toNat_lt _
    have hmore := crcR_more hjl 4294967295
    obtain ⟨y, hy⟩ : ∃ y, y = crcR 4294967295 ((bytesOf s).take j) ^^^ (s[j]'hjl).toNat := ⟨_, rfl⟩
    have hyl : y < 4294967296 := by rw [hy]; exact Nat.xor_lt_two_pow (n := 32) hcl (Nat.lt_of_lt_of_le hb8 (by decide))
    rw [← hy] at hmore
    repeat (go_not_at_region 5; go_step)
    refine wp_region_lit ?_
    refine h_op H4 rfl (wn rfl) (R_mv H4 rfl rfl) rfl (P4 17 1 5 6 rfl rfl rfl rfl) fun a5 H5 => ?_
    clear H4
    refine h_op H5 rfl (wn rfl) (R_mv H5 rfl rfl) rfl (P5 18 17 1 5 6 rfl rfl rfl rfl rfl) fun a6 H6 => ?_
    clear H5
    refine h_op H6 rfl (wn rfl) (R_mv H6 rfl rfl) rfl (P6 19 18 17 1 5 6 rfl rfl rfl rfl rfl rfl) fun a7 H7 => ?_
    clear H6
    refine h_op H7 rfl (wn rfl) (R_ix H7 rfl rfl rfl (ix_str hjl)) rfl (P5 20 17 1 5 6 rfl rfl rfl rfl rfl) fun a8 H8 => ?_
    clear H7
    refine h_op H8 rfl (wn rfl) (R_cv H8 rfl rfl (cv8_32 _ hb8)) rfl (P5 21 17 1 5 6 rfl rfl rfl rfl rfl) fun a9 H9 => ?_
    clear H8
    refine h_op H9 rfl (wn rfl) (R_bin H9 rfl rfl rfl (B32_xorN _ _ hcl (Nat.lt_of_lt_of_le hb8 (by decide)))) rfl (P4 22 1 5 6 rfl rfl rfl rfl) fun a10 H10 => ?_
    clear H9
    refine h_op H10 rfl (wn rfl) (R_as H10 rfl rfl) rfl (P3 5 1 6 rfl rfl rfl) fun a11 H11 => ?_
    clear H10
    refine h_end ?_
    rw [← hy] at H11
    repeat (go_not_at_region 6; go_step)
    refine wp_region_lit ?_
    refine h_op H11 rfl (wn rfl) (R_as H11 rfl rfl) rfl (P4 7 5 1 6 rfl rfl rfl rfl) fun a12 H12 => ?_
    clear H11
    refine h_end ?_
    repeat (go_not_at_region 7; go_step)
    obtain ⟨J, hJ⟩ : ∃ J : Nat → Act → World → Prop, ∀ n a' w', J n a' w' ↔ ∃ k : Nat, n = 8 - k ∧ k ≤ 8 ∧ Fr a' 37 [(1, .string s), (5, .int .u32 (sbN k y : Nat)), (6, .int .i64 (j : Nat)), (7, .int .i64 (k : Nat))] ∧ w' = w1 := ⟨_, fun _ _ _ => Iff.rfl⟩
    have HJ := Lib.hid hJ
    clear hJ
    refine wp_loop_ghost J 8 ((HJ.out _ _ _).2 ⟨0, rfl, Nat.zero_le _, H12.pick _ (P4 1 5 6 7 rfl rfl rfl rfl), rfl⟩) ?_
    intro n a2 w2 hi
    obtain ⟨k, rfl, hk, H0, rfl⟩ := (HJ.out _ _ _).1 hi
    clear hi
    have hxl := sbN_lt k y hyl
    have hlast := sbN_last k y
    rw [sb_val] at hlast
    by_cases hk8 : k < 8
    · repeat (go_not_at_region 7; go_step)
      refine wp_region_lit ?_
      refine h_op H0 rfl (wn rfl) (R_mv H0 rfl rfl) rfl (P5 23 1 5 6 7 rfl rfl rfl rfl rfl) fun a1 H1 => ?_
      clear H0
      refine h_op H1 rfl (wn rfl) (R_bin H1 rfl rfl rfl (B_to (y := true) (B_lt Try.underlying3 _ _) (decide_eq_true (by omega)))) rfl (P5 24 1 5 6 7 rfl rfl rfl rfl rfl) fun a2 H2 => ?_
      clear H1
      refine h_end ?_
      repeat (go_not_at_region 9; go_step)
      refine wp_cond_true (H2.ev (x := .tmp 24) rfl) ?_
      repeat (go_not_at_region 9; go_step)
      refine wp_region_lit ?_
      refine h_op H2 rfl (wn rfl) (R_mv H2 rfl rfl) rfl (P5 27 1 5 6 7 rfl rfl rfl rfl rfl) fun a3 H3 => ?_
      clear H2
      refine h_op H3 rfl (wn rfl) (R_bin H3 rfl rfl rfl (B32_remN (sbN k y) 2 (by decide))) rfl (P5 28 1 5 6 7 rfl rfl rfl rfl rfl) fun a4 H4 => ?_
      clear H3
      refine h_op H4 rfl (wn rfl) (R_as H4 rfl rfl) rfl (P5 8 1 5 6 7 rfl rfl rfl rfl rfl) fun a5 H5 => ?_
      clear H4
      refine h_end ?_
      repeat (go_not_at_region 10; go_step)
      refine wp_region_lit ?_
      refine h_op H5 rfl (wn rfl) (R_mv H5 rfl rfl) rfl (P6 29 8 1 5 6 7 rfl rfl rfl rfl rfl rfl) fun a6 H6 => ?_
      clear H5
      refine h_op H6 rfl (wn rfl) (R_bin H6 rfl rfl rfl (B32_quoN (sbN k y) 2 (by decide) hxl)) rfl (P6 30 8 1 5 6 7 rfl rfl rfl rfl rfl rfl) fun a7 H7 => ?_
      clear H6
      refine h_op H7 rfl (wn rfl) (R_as H7 rfl rfl) rfl (P5 5 8 1 6 7 rfl rfl rfl rfl rfl) fun a8 H8 => ?_
      clear H7
      refine h_end ?_
      by_cases hodd : sbN k y % 2 = 1
      · rw [if_pos hodd] at hlast
        repeat (go_not_at_region 11; go_step)
        refine wp_region_lit ?_
        refine h_op H8 rfl (wn rfl) (R_mv H8 rfl rfl) rfl (P5 31 5 1 6 7 rfl rfl rfl rfl rfl) fun a9 H9 => ?_
        clear H8
        refine h_op H9 rfl (wn rfl) (R_bin H9 rfl rfl rfl (B_to (y := true) (B32_eq1 _) (decide_eq_true hodd))) rfl (P5 32 5 1 6 7 rfl rfl rfl rfl rfl) fun a10 H10 => ?_
        clear H9
        refine h_end ?_
        repeat (go_not_at_region 12; go_step)
        refine wp_cond_true (H10.ev (x := .tmp 32) rfl) ?_
        repeat (go_not_at_region 12; go_step)
        refine wp_region_lit ?_
        refine h_op H10 rfl (wn rfl) (R_mv H10 rfl rfl) rfl (P5 33 5 1 6 7 rfl rfl rfl rfl rfl) fun a11 H11 => ?_
        clear H10
        refine h_op H11 rfl (wn rfl) (R_bin H11 rfl rfl rfl (B32_xorN (sbN k y / 2) 2197175160 (by omega) (by decide))) rfl (P5 34 5 1 6 7 rfl rfl rfl rfl rfl) fun a12 H12 => ?_
        clear H11
        refine h_op H12 rfl (wn rfl) (R_as H12 rfl rfl) rfl (P4 5 1 6 7 rfl rfl rfl rfl) fun a13 H13 => ?_
        clear H12
        refine h_end ?_
        repeat (go_not_at_region 8; go_step)
        refine wp_region_lit ?_
        refine h_op H13 rfl (wn rfl) (R_mv H13 rfl rfl) rfl (P5 25 5 1 6 7 rfl rfl rfl rfl rfl) fun a14 H14 => ?_
        clear H13
        refine h_op H14 rfl (wn rfl) (R_bin H14 rfl rfl rfl (B_add Try.underlying3 _ _ (by omega) (by omega))) rfl (P5 26 5 1 6 7 rfl rfl rfl rfl rfl) fun a15 H15 => ?_
        clear H14
        refine h_op H15 rfl (wn rfl) (R_as H15 rfl rfl) rfl (P4 7 5 1 6 rfl rfl rfl rfl) fun a16 H16 => ?_
        clear H15
        refine h_end ?_
        repeat (go_not_at_region 999; go_step)
        refine ⟨8 - (k + 1), by omega, (HJ.out _ _ _).2 ⟨k + 1, rfl, hk8, ?_, rfl⟩⟩
        rw [hlast]
        exact H16.pick _ (P4 1 5 6 7 rfl rfl rfl rfl)
      · rw [if_neg hodd] at hlast
        repeat (go_not_at_region 11; go_step)
        refine wp_region_lit ?_
        refine h_op H8 rfl (wn rfl) (R_mv H8 rfl rfl) rfl (P5 31 5 1 6 7 rfl rfl rfl rfl rfl) fun a9 H9 => ?_
        clear H8
        refine h_op H9 rfl (wn rfl) (R_bin H9 rfl rfl rfl (B_to (y := false) (B32_eq1 _) (decide_eq_false hodd))) rfl (P5 32 5 1 6 7 rfl rfl rfl rfl rfl) fun a10 H10 => ?_
        clear H9
        refine h_end ?_
        repeat (go_not_at_region 8; go_step)
        refine wp_cond_false (H10.ev (x := .tmp 32) rfl) ?_
        repeat (go_not_at_region 8; go_step)
        refine wp_region_lit ?_
        refine h_op H10 rfl (wn rfl) (R_mv H10 rfl rfl) rfl (P5 25 5 1 6 7 rfl rfl rfl rfl rfl) fun a11 H11 => ?_
        clear H10
        refine h_op H11 rfl (wn rfl) (R_bin H11 rfl rfl rfl (B_add Try.underlying3 _ _ (by omega) (by omega))) rfl (P5 26 5 1 6 7 rfl rfl rfl rfl rfl) fun a12 H12 => ?_
        clear H11
        refine h_op H12 rfl (wn rfl) (R_as H12 rfl rfl) rfl (P4 7 5 1 6 rfl rfl rfl rfl) fun a13 H13 => ?_
        clear H12
        refine h_end ?_
        repeat (go_not_at_region 999; go_step)
        refine ⟨8 - (k + 1), by omega, (HJ.out _ _ _).2 ⟨k + 1, rfl, hk8, ?_, rfl⟩⟩
        rw [hlast]
        exact H13.pick _ (P4 1 5 6 7 rfl rfl rfl rfl)
    · obtain rfl : k = 8 := by omega
      repeat (go_not_at_region 7; go_step)
      refine wp_region_lit ?_
      refine h_op H0 rfl (wn rfl) (R_mv H0 rfl rfl) rfl (P5 23 1 5 6 7 rfl rfl rfl rfl rfl) fun a1 H1 => ?_
      clear H0
      refine h_op H1 rfl (wn rfl) (R_bin H1 rfl rfl rfl (B_to (y := false) (B_lt Try.underlying3 _ _) (decide_eq_false (by omega)))) rfl (P5 24 1 5 6 7 rfl rfl rfl rfl rfl) fun a2 H2 => ?_
      clear H1
      refine h_end ?_
      repeat (go_not_at_region 4; go_step)
      refine wp_cond_false (H2.ev (x := .tmp 24) rfl) ?_
      repeat (go_not_at_region 4; go_step)
      refine wp_region_lit ?_
      refine h_op H2 rfl (wn rfl) (R_mv H2 rfl rfl) rfl (P4 15 1 5 6 rfl rfl rfl rfl) fun a3 H3 => ?_
      clear H2
      refine h_op H3 rfl (wn rfl) (R_bin H3 rfl rfl rfl (B_add Try.underlying3 _ _ (by omega) (by omega))) rfl (P4 16 1 5 6 rfl rfl rfl rfl) fun a4 H4 => ?_
      clear H3
      refine h_op H4 rfl (wn rfl) (R_as H4 rfl rfl) rfl (P3 6 1 5 rfl rfl rfl) fun a5 H5 => ?_
      clear H4
      refine h_end ?_
      repeat (go_not_at_region 999; go_step)
      refine ⟨s.size - (j + 1), by omega, (HI.out _ _ _).2 ⟨j + 1, rfl, hjl, ?_, rfl⟩⟩
      rw [hmore]
      exact H5.pick _ (P3 1 5 6 rfl rfl rfl)
  · obtain rfl : j = s.size := by omega
    repeat (go_not_at_region 3; go_step)
    refine wp_region_lit ?_
    refine h_op H0 rfl (wn rfl) (R_mv H0 rfl rfl) rfl (P4 11 1 5 6 rfl rfl rfl rfl) fun a1 H1 => ?_
    clear H0
    refine h_op H1 rfl (wn rfl) (R_mv H1 rfl rfl) rfl (P5 12 11 1 5 6 rfl rfl rfl rfl rfl) fun a2 H2 => ?_
    clear H1
    refine h_op H2 rfl (wn rfl) (R_len H2 rfl rfl Try.underlying9) rfl (P5 13 11 1 5 6 rfl rfl rfl rfl rfl) fun a3 H3 => ?_
    clear H2
    refine h_op H3 rfl (wn rfl) (R_bin H3 rfl rfl rfl (B_to (y := false) (B_lt Try.underlying3 _ _) (decide_eq_false (by omega)))) rfl (P4 14 1 5 6 rfl rfl rfl rfl) fun a4 H4 => ?_
    clear H3
    refine h_end ?_
    repeat (go_not_at_region 13; go_step)
    refine wp_cond_false (H4.ev (x := .tmp 14) rfl) ?_
    have hall : (bytesOf s).take s.size = bytesOf s := List.take_of_length_le (by rw [bytes_size]; omega)
    rw [hall] at H4 hcl
    have hx : crcM (bytesOf s) = crcR 4294967295 (bytesOf s) ^^^ 4294967295 := (not_xor hcl).symm
    repeat (go_not_at_region 13; go_step)
    refine wp_region_lit ?_
    refine h_op H4 rfl (wn rfl) (R_mv H4 rfl rfl) rfl (P1 35 rfl) fun a5 H5 => ?_
    clear H4
    refine h_op H5 rfl (wn rfl) (R_bin H5 rfl rfl rfl (B32_xorN _ 4294967295 hcl (by decide))) rfl (P1 36 rfl) fun a6 H6 => ?_
    clear H5
    refine h_op H6 rfl (wn rfl) (R_as H6 rfl rfl) rfl (P1 4 rfl) fun a7 H7 => ?_
    clear H6
    refine h_end ?_
    repeat (go_not_at_region 999; go_step)
    refine H7.ret1 rfl rfl ⟨?_, rfl⟩
    rw [hx]
set_option maxRecDepth 100000 in
theorem rCrc_any (hs : s.size < 140737488351233) : Calls Try.prog 45 #[.string s] W fun e W' => e = .returned (.int .u32 (crcM (bytesOf s) : Nat)) ∧ W' = W := by
  go_enter Try.func45, Try.ntmps45
  refine wp_fr (n := 5) (m := [(0, _)]) ⟨rfl, rfl, by intro p hp; simp only [List.mem_cons, List.not_mem_nil, or_false] at hp; rcases hp with rfl <;> rfl⟩ fun a0 H0 => ?_
  repeat (go_not_at_region 0; go_step)
  refine wp_region_lit ?_
  refine h_op H0 rfl (wn rfl) (R_as H0 rfl rfl) rfl (P1 0 rfl) fun a1 H1 => ?_
  clear H0
  refine h_end ?_
  repeat (go_not_at_region 1; go_step)
  refine wp_region_lit ?_
  refine h_op H1 rfl (wn rfl) (R_mv H1 rfl rfl) rfl (P1 3 rfl) fun a2 H2 => ?_
  clear H1
  refine h_call H2 rfl (wn rfl) (R_call2 H2 rfl rfl rfl (fun w => by simp [go_sem])) rfl ?_
  refine (rMore_any hs).mono ?_
  rintro e wx ⟨rfl, rfl⟩
  refine ⟨_, rfl, fun a3 HH => ?_⟩
  have H3 := HH _ (P1 4 rfl)
  clear HH H2
  refine h_op H3 rfl (wn rfl) (R_as H3 rfl rfl) rfl (P1 2 rfl) fun a4 H4 => ?_
  clear H3
  refine h_end ?_
  repeat (go_not_at_region 999; go_step)
  exact H4.ret1 rfl rfl ⟨rfl, rfl⟩
set_option maxRecDepth 100000 in
theorem rPut_any (hs : s.size ≤ 16384) : Calls Try.prog 22 #[.string s] W fun e W' => e = .returned (.tuple #[.string (packL (frameL s)), .int .i64 0]) ∧ Below W.heap.size W W' := by
  have hL := Live.init W
  have hcat : packL (le4 s.size) ++ packL (le4 (crcM (le4 s.size))) ++ s ++ packL (le4 (crcM (bytesOf s))) = packL (frameL s) := by
    unfold frameL headL
    rw [← packL_app, ← packL_app, ← packL_app, packL_of]
  have z4 : ∀ n, (packL (le4 n)).size = 4 := fun n => by rw [packL_size]; rfl
  go_enter Try.func22, Try.ntmps22
  refine wp_fr (n := 23) (m := [(0, _)]) ⟨rfl, rfl, by intro p hp; simp only [List.mem_cons, List.not_mem_nil, or_false] at hp; rcases hp with rfl <;> rfl⟩ fun a0 H0 => ?_
  repeat (go_not_at_region 0; go_step)
  refine wp_region_lit ?_
  refine h_op H0 rfl (wn rfl) (R_as H0 rfl rfl) rfl (P1 0 rfl) fun a1 H1 => ?_
  clear H0
  refine h_op H1 rfl (wn rfl) (R_as H1 rfl rfl) rfl (P1 0 rfl) fun a2 H2 => ?_
  clear H1
  refine h_end ?_
  repeat (go_not_at_region 1; go_step)
  refine wp_region_lit ?_
  refine h_op H2 rfl (wn rfl) (R_mv H2 rfl rfl) rfl (P2 5 0 rfl rfl) fun a3 H3 => ?_
  clear H2
  refine h_op H3 rfl (wn rfl) (R_len H3 rfl rfl Try.underlying9) rfl (P2 6 0 rfl rfl) fun a4 H4 => ?_
  clear H3
  refine h_op H4 rfl (wn rfl) (R_bin H4 rfl rfl rfl (B_to (y := false) (B_gt Try.underlying3 _ _) (decide_eq_false (by omega)))) rfl (P2 7 0 rfl rfl) fun a5 H5 => ?_
  clear H4
  refine h_end ?_
  repeat (go_not_at_region 3; go_step)
  refine wp_cond_false (H5.ev (x := .tmp 7) rfl) ?_
  repeat (go_not_at_region 3; go_step)
  refine wp_region_lit ?_
  refine h_op H5 rfl (wn rfl) (R_mv H5 rfl rfl) rfl (P2 8 0 rfl rfl) fun a6 H6 => ?_
  clear H5
  refine h_op H6 rfl (wn rfl) (R_len H6 rfl rfl Try.underlying9) rfl (P2 9 0 rfl rfl) fun a7 H7 => ?_
  clear H6
  refine h_op H7 rfl (wn rfl) (R_cv H7 rfl rfl (cvi_32 _ (by omega))) rfl (P2 10 0 rfl rfl) fun a8 H8 => ?_
  clear H7
  refine h_call H8 rfl (wn rfl) (R_call1 H8 rfl rfl (fun w => by simp [go_sem])) rfl ?_
  refine (four_any (n := s.size) (by omega)).mono ?_
  rintro e wx ⟨rfl, hb⟩
  replace hL := hL.call hb
  clear hb
  refine ⟨_, rfl, fun a9 HH => ?_⟩
  have H9 := HH _ (P2 11 0 rfl rfl)
  clear HH H8
  refine h_op H9 rfl (wn rfl) (R_as H9 rfl rfl) rfl (P2 4 0 rfl rfl) fun a10 H10 => ?_
  clear H9
  refine h_end ?_
  repeat (go_not_at_region 4; go_step)
  refine wp_region_lit ?_
  refine h_op H10 rfl (wn rfl) (R_mv H10 rfl rfl) rfl (P3 12 4 0 rfl rfl rfl) fun a11 H11 => ?_
  clear H10
  refine h_op H11 rfl (wn rfl) (R_mv H11 rfl rfl) rfl (P3 13 12 0 rfl rfl rfl) fun a12 H12 => ?_
  clear H11
  refine h_call H12 rfl (wn rfl) (R_call1 H12 rfl rfl (fun w => by simp [go_sem])) rfl ?_
  refine (rCrc_any (by rw [z4]; decide)).mono ?_
  rintro e wx ⟨rfl, rfl⟩
  rw [packL_bytes (le4_all _)]
  refine ⟨_, rfl, fun a13 HH => ?_⟩
  have H13 := HH _ (P3 14 12 0 rfl rfl rfl)
  clear HH H12
  refine h_call H13 rfl (wn rfl) (R_call1 H13 rfl rfl (fun w => by simp [go_sem])) rfl ?_
  refine (four_any crcM_lt).mono ?_
  rintro e wx ⟨rfl, hb⟩
  replace hL := hL.call hb
  clear hb
  refine ⟨_, rfl, fun a14 HH => ?_⟩
  have H14 := HH _ (P3 15 12 0 rfl rfl rfl)
  clear HH H13
  refine h_op H14 rfl (wn rfl) (R_bin H14 rfl rfl rfl (B_cat _ _ (by rw [z4, z4]; decide))) rfl (P2 16 0 rfl rfl) fun a15 H15 => ?_
  clear H14
  refine h_op H15 rfl (wn rfl) (R_mv H15 rfl rfl) rfl (P3 17 16 0 rfl rfl rfl) fun a16 H16 => ?_
  clear H15
  refine h_op H16 rfl (wn rfl) (R_bin H16 rfl rfl rfl (B_cat _ _ (by rw [ByteArray.size_append, z4, z4]; omega))) rfl (P2 18 0 rfl rfl) fun a17 H17 => ?_
  clear H16
  refine h_op H17 rfl (wn rfl) (R_mv H17 rfl rfl) rfl (P2 19 18 rfl rfl) fun a18 H18 => ?_
  clear H17
  refine h_call H18 rfl (wn rfl) (R_call1 H18 rfl rfl (fun w => by simp [go_sem])) rfl ?_
  refine (rCrc_any (by omega)).mono ?_
  rintro e wx ⟨rfl, rfl⟩
  refine ⟨_, rfl, fun a19 HH => ?_⟩
  have H19 := HH _ (P2 20 18 rfl rfl)
  clear HH H18
  refine h_call H19 rfl (wn rfl) (R_call1 H19 rfl rfl (fun w => by simp [go_sem])) rfl ?_
  refine (four_any crcM_lt).mono ?_
  rintro e wx ⟨rfl, hb⟩
  replace hL := hL.call hb
  clear hb
  refine ⟨_, rfl, fun a20 HH => ?_⟩
  have H20 := HH _ (P2 21 18 rfl rfl)
  clear HH H19
  refine h_op H20 rfl (wn rfl) (R_bin H20 rfl rfl rfl (B_cat _ _ (by rw [ByteArray.size_append, ByteArray.size_append, z4, z4, z4]; omega))) rfl (P1 22 rfl) fun a21 H21 => ?_
  clear H20
  refine h_op H21 rfl (wn rfl) (R_as H21 rfl rfl) rfl (P1 2 rfl) fun a22 H22 => ?_
  clear H21
  refine h_op H22 rfl (wn rfl) (R_as H22 rfl rfl) rfl (P2 3 2 rfl rfl) fun a23 H23 => ?_
  clear H22
  refine h_end ?_
  repeat (go_not_at_region 999; go_step)
  exact H23.ret2 rfl rfl rfl ⟨congrArg (fun s => Ending.returned (.tuple #[.string s, .int .i64 0])) hcat, hL.1⟩
end
end Go.Proofs.Ytmmhchpilcjflaa
