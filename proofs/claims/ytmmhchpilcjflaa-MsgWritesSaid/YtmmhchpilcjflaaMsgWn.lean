/-
  meterref02.Num: a number's bytes.
-/
import Derived.Test.YtmmhchpilcjflaaMsgSf
import Derived.Test.YtmmhchpilcjflaaMsgFk
import Derived.Deep.Cut
set_option linter.unusedSimpArgs false
set_option linter.unusedVariables false
namespace Go.Proofs.Ytmmhchpilcjflaa
open Go.RowKit
section
variable {w : World}
theorem B64_lt {X Y : Operand} (x : Nat) : ((do eqGuard .lss 22 X Y (.int .u64 (x : Nat)) (.int .u64 128); binOp .lss 22 (.int .u64 (x : Nat)) (.int .u64 128)) : Sem Value).run Try.prog w = .ok (.bool (decide (x < 128))) w := by
  have e : decide ((x : Int) < 128) = decide (x < 128) := by
    rw [Bool.eq_iff_iff, decide_eq_true_iff, decide_eq_true_iff]
    omega
  simp [go_sem, e]
theorem B64_rem {X Y : Operand} (x : Nat) : ((do eqGuard .rem 22 X Y (.int .u64 (x : Nat)) (.int .u64 128); binOp .rem 22 (.int .u64 (x : Nat)) (.int .u64 128)) : Sem Value).run Try.prog w = .ok (.int .u64 (x % 128 : Nat)) w := by
  have e : (x : Int).tmod 128 = ((x % 128 : Nat) : Int) := Int.tmod_eq_emod_of_nonneg (by omega)
  simp [go_sem, e]
theorem B64_quo {X Y : Operand} (x : Nat) (h : x < 18446744073709551616) : ((do eqGuard .quo 22 X Y (.int .u64 (x : Nat)) (.int .u64 128); binOp .quo 22 (.int .u64 (x : Nat)) (.int .u64 128)) : Sem Value).run Try.prog w = .ok (.int .u64 (x / 128 : Nat)) w := by
  have e : (x : Int).tdiv 128 = ((x / 128 : Nat) : Int) := Int.tdiv_eq_ediv_of_nonneg (by omega)
  have e2 : IntKind.u64.wrap ((x : Int) / 128) = (x : Int) / 128 := u64_id (by omega) (by omega)
  simp [go_sem, e, e2]
theorem cv64_8 (x : Nat) (h : x < 256) : (convert 22 5 (.int .u64 (x : Nat))).run Try.prog w = .ok (.int .u8 (x : Nat)) w := by
  have e : IntKind.u8.wrap (x : Int) = x := by
    unfold IntKind.wrap
    simp [IntKind.signed, IntKind.bits]
    omega
  simp [go_sem, e]
theorem B8_add128 {X Y : Operand} (x : Nat) (h : x < 128) : ((do eqGuard .add 5 X Y (.int .u8 (x : Nat)) (.int .u8 128); binOp .add 5 (.int .u8 (x : Nat)) (.int .u8 128)) : Sem Value).run Try.prog w = .ok (.int .u8 (x + 128 : Nat)) w := by
  have e : IntKind.u8.wrap ((x : Int) + 128) = (x : Int) + 128 := by
    unfold IntKind.wrap
    simp [IntKind.signed, IntKind.bits]
    omega
  simp [go_sem, e]
end
theorem packL_app (a b : List Nat) : packL a ++ packL b = packL (a ++ b) := by
  unfold packL
  apply ByteArray.ext
  simp [ByteArray.data_append]
set_option maxHeartbeats 4000000 in
set_option maxRecDepth 100000 in
theorem rNum_any : ∀ (k n : Nat), n ≤ k → n < 18446744073709551616 → ∀ W : World, Calls Try.prog 41 #[.int .u64 (n : Nat)] W fun e W' => e = .returned (.string (packL (vbytes n))) ∧ Below W.heap.size W W' := by
  intro k
  induction k using Nat.strongRecOn with
  | _ k ih =>
  intro n hnk hn W
  have hL := Live.init W
  go_enter Try.func41, Try.ntmps41
  refine wp_fr (n := 19) (m := [(0, _)]) ⟨rfl, rfl, by intro p hp; simp only [List.mem_cons, List.not_mem_nil, or_false] at hp; rcases hp with rfl <;> rfl⟩ fun a0 H0 => ?_
  repeat (go_not_at_region 0; go_step)
  refine wp_region_lit ?_
  refine h_op (m' := [(0, _)]) H0 rfl (wn rfl) (R_as H0 rfl rfl) rfl (.cons rfl .nil) fun a1 H1 => ?_
  clear H0
  refine h_end ?_
  by_cases h1 : n < 128
  · repeat (go_not_at_region 1; go_step)
    refine wp_region_lit ?_
    refine h_op (m' := [(3, _), (0, _)]) H1 rfl (wn rfl) (R_mv H1 rfl rfl) rfl (.cons rfl (.cons rfl .nil)) fun a2 H2 => ?_
    clear H1
    refine h_op (m' := [(4, _), (0, _)]) H2 rfl (wn rfl) (R_bin H2 rfl rfl rfl (B_to (y := true) (B64_lt _) (decide_eq_true h1))) rfl (.cons rfl (.cons rfl .nil)) fun a3 H3 => ?_
    clear H2
    refine h_end ?_
    repeat (go_not_at_region 2; go_step)
    refine wp_cond_true (H3.ev (x := .tmp 4) rfl) ?_
    have hv : vbytes n = [n] := by rw [vbytes, if_pos h1]
    repeat (go_not_at_region 2; go_step)
    refine wp_region_lit ?_
    refine h_op (m' := [(5, _)]) H3 rfl (wn rfl) (R_mv H3 rfl rfl) rfl (.cons rfl .nil) fun a4 H4 => ?_
    clear H3
    refine h_op (m' := [(6, _)]) H4 rfl (wn rfl) (R_cv H4 rfl rfl (cv64_8 _ (by omega))) rfl (.cons rfl .nil) fun a5 H5 => ?_
    clear H4
    refine h_op (m' := [(7, _)]) H5 rfl (wn rfl) (R_bs1 H5 rfl rfl (bs_u8 _)) rfl (.cons rfl .nil) fun a6 H6 => ?_
    clear H5
    replace hL := hL.alloc #[.int .u8 (n : Nat)] 5
    refine h_op (m' := [(8, _)]) H6 rfl (wn rfl) (R_cv H6 rfl rfl (cv_u8 (by omega) hL)) rfl (.cons rfl .nil) fun a7 H7 => ?_
    clear H6
    refine h_op (m' := [(2, _)]) H7 rfl (wn rfl) (R_as H7 rfl rfl) rfl (.cons rfl .nil) fun a8 H8 => ?_
    clear H7
    refine h_end ?_
    repeat (go_not_at_region 999; go_step)
    rw [hv]
    exact H8.ret1 rfl rfl ⟨rfl, hL.1⟩
  · repeat (go_not_at_region 1; go_step)
    refine wp_region_lit ?_
    refine h_op (m' := [(3, _), (0, _)]) H1 rfl (wn rfl) (R_mv H1 rfl rfl) rfl (.cons rfl (.cons rfl .nil)) fun a2 H2 => ?_
    clear H1
    refine h_op (m' := [(4, _), (0, _)]) H2 rfl (wn rfl) (R_bin H2 rfl rfl rfl (B_to (y := false) (B64_lt _) (decide_eq_false h1))) rfl (.cons rfl (.cons rfl .nil)) fun a3 H3 => ?_
    clear H2
    refine h_end ?_
    repeat (go_not_at_region 3; go_step)
    refine wp_cond_false (H3.ev (x := .tmp 4) rfl) ?_
    repeat (go_not_at_region 3; go_step)
    have hv : vbytes n = (n % 128 + 128) :: vbytes (n / 128) := by rw [vbytes, if_neg h1]
    have hlen := vbytes_le (x := n / 128) (by omega)
    obtain ⟨x, hx⟩ : ∃ x, x = n % 128 + 128 := ⟨_, rfl⟩
    have hx2 : x < 256 := by omega
    have hcat : packL [x] ++ packL (vbytes (n / 128)) = packL (vbytes n) := by rw [packL_app, hv, hx]; rfl
    have hsz : (packL [x]).size + (packL (vbytes (n / 128))).size ≤ 100000 := by rw [packL_size, packL_size]; show 1 + _ ≤ _; omega
    refine wp_region_held_drew (S := fun w' => Live W [] w') (by kernel_rfl) hL.drew (fun hL' => ?_)
    replace hL := hL'
    clear hL'
    refine a_op (m' := [(9, _), (0, _)]) 0 H3 rfl rfl (by kernel_rfl) (by kernel_rfl) (by kernel_rfl) (fun _ _ _ h => h) (wn rfl) (fun w hL => R_mv H3 rfl rfl) hL rfl (.cons rfl (.cons rfl .nil)) fun a4 H4 => ?_
    clear H3
    refine a_op (m' := [(10, _), (0, _)]) 1 H4 rfl rfl (by kernel_rfl) (by kernel_rfl) (by kernel_rfl) (fun _ _ _ h => h) (wn rfl) (fun w hL => R_bin H4 rfl rfl rfl (B64_rem _)) hL rfl (.cons rfl (.cons rfl .nil)) fun a5 H5 => ?_
    clear H4
    refine a_op (m' := [(11, _), (0, _)]) 2 H5 rfl rfl (by kernel_rfl) (by kernel_rfl) (by kernel_rfl) (fun _ _ _ h => h) (wn rfl) (fun w hL => R_cv H5 rfl rfl (cv64_8 _ (by omega))) hL rfl (.cons rfl (.cons rfl .nil)) fun a6 H6 => ?_
    clear H5
    refine a_op (m' := [(12, _), (0, _)]) 3 H6 rfl rfl (by kernel_rfl) (by kernel_rfl) (by kernel_rfl) (fun _ _ _ h => h) (wn rfl) (fun w hL => R_bin H6 rfl rfl rfl (B8_add128 _ (by omega))) hL rfl (.cons rfl (.cons rfl .nil)) fun a7 H7 => ?_
    clear H6
    refine a_op (m' := [(15, _), (12, _)]) 6 H7 rfl rfl (by kernel_rfl) (by kernel_rfl) (by kernel_rfl) (fun _ _ _ h => h) (wn rfl) (fun w hL => R_mv H7 rfl rfl) hL rfl (.cons rfl (.cons rfl .nil)) fun a8 H8 => ?_
    clear H7
    refine a_op (m' := [(16, _), (12, _)]) 7 H8 rfl rfl (by kernel_rfl) (by kernel_rfl) (by kernel_rfl) (fun _ _ _ h => h) (wn rfl) (fun w hL => R_bin H8 rfl rfl rfl (B64_quo _ hn)) hL rfl (.cons rfl (.cons rfl .nil)) fun a9 H9 => ?_
    clear H8
    replace H9 := H9.pick [(12, .int .u8 (n % 128 + 128 : Nat)), (16, .int .u64 (n / 128 : Nat))] (.cons rfl (.cons rfl .nil))
    rw [← hx] at H9
    refine a_all2 4 8 (by kernel_rfl) ?_ ?_
    · refine o_op (m' := [(13, _), (16, _)]) 4 H9 rfl rfl (wn rfl) (R_bs1 H9 rfl rfl (bs_u8 _)) rfl (.cons rfl (.cons rfl .nil)) fun a10 H10 => ?_
      clear H9
      replace hL := hL.alloc #[.int .u8 (x : Nat)] 5
      refine ⟨hL.tail, ?_⟩
      refine a_all2 5 8 (by kernel_rfl) ?_ ?_
      · refine o_op (m' := [(14, _), (16, _)]) 5 H10 rfl rfl (wn rfl) (R_cv H10 rfl rfl (cv_u8 hx2 hL)) rfl (.cons rfl (.cons rfl .nil)) fun a11 H11 => ?_
        clear H10
        refine ⟨hL.tail, ?_⟩
        refine a_all1 8 (by kernel_rfl) ?_
        refine o_call 8 H11 rfl rfl (wn rfl) (R_call1 H11 rfl rfl (fun w => by simp [go_sem])) rfl ?_
        refine (ih (n / 128) (by omega) (n / 128) (Nat.le_refl _) (by omega) _).mono ?_
        rintro e wx ⟨rfl, hb⟩
        replace hL := hL.call hb
        clear hb
        refine ⟨_, rfl, fun a12 HH => ⟨hL.tail, ?_⟩⟩
        have H12 := HH [(17, _), (14, _)] (.cons rfl (.cons rfl .nil))
        clear HH H11
        refine a_op (m' := [(18, _)]) 9 H12 rfl rfl (by kernel_rfl) (by kernel_rfl) (by kernel_rfl) (fun _ _ _ h => h) (wn rfl) (fun w hL => R_bin H12 rfl rfl rfl (B_cat _ _ hsz)) hL.tail rfl (.cons rfl .nil) fun a13 H13 => ?_
        clear H12
        refine a_op (m' := [(2, _)]) 10 H13 rfl rfl (by kernel_rfl) (by kernel_rfl) (by kernel_rfl) (fun _ _ _ h => h) (wn rfl) (fun w hL => R_as H13 rfl rfl) hL.tail rfl (.cons rfl .nil) fun a14 H14 => ?_
        clear H13
        refine wpAnyH_done (by kernel_rfl) ?_ _
        repeat (go_not_at_region 999; go_step)
        exact H14.ret1 rfl rfl ⟨congrArg (fun s => Ending.returned (.string s)) hcat, hL.1⟩
      · refine o_call 8 H10 rfl rfl (wn rfl) (R_call1 H10 rfl rfl (fun w => by simp [go_sem])) rfl ?_
        refine (ih (n / 128) (by omega) (n / 128) (Nat.le_refl _) (by omega) _).mono ?_
        rintro e wx ⟨rfl, hb⟩
        replace hL := hL.call hb
        clear hb
        refine ⟨_, rfl, fun a11 HH => ⟨hL.tail, ?_⟩⟩
        have H11 := HH [(17, _), (13, _)] (.cons rfl (.cons rfl .nil))
        clear HH H10
        refine a_all1 5 (by kernel_rfl) ?_
        refine o_op (m' := [(14, _), (17, _)]) 5 H11 rfl rfl (wn rfl) (R_cv H11 rfl rfl (cv_u8 hx2 hL)) rfl (.cons rfl (.cons rfl .nil)) fun a12 H12 => ?_
        clear H11
        refine ⟨hL.tail, ?_⟩
        refine a_op (m' := [(18, _)]) 9 H12 rfl rfl (by kernel_rfl) (by kernel_rfl) (by kernel_rfl) (fun _ _ _ h => h) (wn rfl) (fun w hL => R_bin H12 rfl rfl rfl (B_cat _ _ hsz)) hL.tail rfl (.cons rfl .nil) fun a13 H13 => ?_
        clear H12
        refine a_op (m' := [(2, _)]) 10 H13 rfl rfl (by kernel_rfl) (by kernel_rfl) (by kernel_rfl) (fun _ _ _ h => h) (wn rfl) (fun w hL => R_as H13 rfl rfl) hL.tail rfl (.cons rfl .nil) fun a14 H14 => ?_
        clear H13
        refine wpAnyH_done (by kernel_rfl) ?_ _
        repeat (go_not_at_region 999; go_step)
        exact H14.ret1 rfl rfl ⟨congrArg (fun s => Ending.returned (.string s)) hcat, hL.1⟩
    · refine o_call 8 H9 rfl rfl (wn rfl) (R_call1 H9 rfl rfl (fun w => by simp [go_sem])) rfl ?_
      refine (ih (n / 128) (by omega) (n / 128) (Nat.le_refl _) (by omega) _).mono ?_
      rintro e wx ⟨rfl, hb⟩
      replace hL := hL.call hb
      clear hb
      refine ⟨_, rfl, fun a10 HH => ⟨hL, ?_⟩⟩
      have H10 := HH [(17, _), (12, _)] (.cons rfl (.cons rfl .nil))
      clear HH H9
      refine a_all1 4 (by kernel_rfl) ?_
      refine o_op (m' := [(13, _), (17, _)]) 4 H10 rfl rfl (wn rfl) (R_bs1 H10 rfl rfl (bs_u8 _)) rfl (.cons rfl (.cons rfl .nil)) fun a11 H11 => ?_
      clear H10
      replace hL := hL.alloc #[.int .u8 (x : Nat)] 5
      refine ⟨hL.tail, ?_⟩
      refine a_all1 5 (by kernel_rfl) ?_
      refine o_op (m' := [(14, _), (17, _)]) 5 H11 rfl rfl (wn rfl) (R_cv H11 rfl rfl (cv_u8 hx2 hL)) rfl (.cons rfl (.cons rfl .nil)) fun a12 H12 => ?_
      clear H11
      refine ⟨hL.tail, ?_⟩
      refine a_op (m' := [(18, _)]) 9 H12 rfl rfl (by kernel_rfl) (by kernel_rfl) (by kernel_rfl) (fun _ _ _ h => h) (wn rfl) (fun w hL => R_bin H12 rfl rfl rfl (B_cat _ _ hsz)) hL.tail rfl (.cons rfl .nil) fun a13 H13 => ?_
      clear H12
      refine a_op (m' := [(2, _)]) 10 H13 rfl rfl (by kernel_rfl) (by kernel_rfl) (by kernel_rfl) (fun _ _ _ h => h) (wn rfl) (fun w hL => R_as H13 rfl rfl) hL.tail rfl (.cons rfl .nil) fun a14 H14 => ?_
      clear H13
      refine wpAnyH_done (by kernel_rfl) ?_ _
      repeat (go_not_at_region 999; go_step)
      exact H14.ret1 rfl rfl ⟨congrArg (fun s => Ending.returned (.string s)) hcat, hL.1⟩
end Go.Proofs.Ytmmhchpilcjflaa
