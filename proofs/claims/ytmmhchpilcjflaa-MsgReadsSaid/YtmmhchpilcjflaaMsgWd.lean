/-
  meterref02.Read: a number that is read, by the document.
-/
import Derived.Test.YtmmhchpilcjflaaMsgWn
set_option linter.unusedSimpArgs false
set_option linter.unusedVariables false
namespace Go.Proofs.Ytmmhchpilcjflaa
open Go.RowKit
theorem Fr.ret3 {P : Program} {fn : Func} {R : Ending → World → Prop} {a : Act} {w : World} {n : Nat} {m : List (Nat × Value)} {t u s : Nat} {v x y : Value} (H : Fr a n m) (h : fn.results = #[.tmp t, .tmp u, .tmp s]) (hv : look m t = some v) (hx : look m u = some x) (hy : look m s = some y) (hR : R (.returned (.tuple #[v, x, y])) w) : bodyPost P fn R .ret a w := ⟨H.1, _, by rw [results_tmp3 h, H.getD hv, H.getD hx, H.getD hy], hR⟩
/-- What meterref02.Read answers at a place. -/
def readE (s : ByteArray) (n : Nat) : Array Value :=
  match rd 0 0 ((bytesOf s).drop n) with
  | .ok (v, z) => #[.int .u64 (v : Nat), .int .i64 (n + z : Nat), .int .i64 0]
  | .error f => #[.int .u64 0, .int .i64 (n : Nat), .int .i64 f]
section
variable {w : World}
theorem B8_rem128 {X Y : Operand} (x : Nat) : ((do eqGuard .rem 5 X Y (.int .u8 (x : Nat)) (.int .u8 128); binOp .rem 5 (.int .u8 (x : Nat)) (.int .u8 128)) : Sem Value).run Try.prog w = .ok (.int .u8 (x % 128 : Nat)) w := by
  have e : (x : Int).tmod 128 = ((x % 128 : Nat) : Int) := Int.tmod_eq_emod_of_nonneg (by omega)
  simp [go_sem, e]
theorem cv8_64 (x : Nat) (h : x < 256) : (convert 5 22 (.int .u8 (x : Nat))).run Try.prog w = .ok (.int .u64 (x : Nat)) w := by
  have e : IntKind.u64.wrap (x : Int) = x := u64_id (by omega) (by omega)
  simp [go_sem, e]
theorem B64_shlN {X Y : Operand} (x i : Nat) (h : i < 64) (h2 : x * 2 ^ i < 18446744073709551616) : ((do eqGuard .shl 22 X Y (.int .u64 (x : Nat)) (.int .u64 (i : Nat)); binOp .shl 22 (.int .u64 (x : Nat)) (.int .u64 (i : Nat))) : Sem Value).run Try.prog w = .ok (.int .u64 (x * 2 ^ i : Nat)) w := by
  have e : min i 64 = i := by omega
  have e0 : ¬ ((i : Int) < 0) := by omega
  have e1 : IntKind.u64.bits = 64 := rfl
  have e2 : IntKind.u64.wrap ((x : Int) * 2 ^ i) = ((x * 2 ^ i : Nat) : Int) := by
    have e3 : (x : Int) * 2 ^ i = ((x * 2 ^ i : Nat) : Int) := by simp
    rw [e3]
    exact u64_id (by omega) (by omega)
  simp [go_sem, Op.shift, e, e0, e1, e2]
theorem B64_addN {X Y : Operand} (x y : Nat) (h : x + y < 18446744073709551616) : ((do eqGuard .add 22 X Y (.int .u64 (x : Nat)) (.int .u64 (y : Nat)); binOp .add 22 (.int .u64 (x : Nat)) (.int .u64 (y : Nat))) : Sem Value).run Try.prog w = .ok (.int .u64 (x + y : Nat)) w := by
  have e : IntKind.u64.wrap ((x : Int) + y) = (x : Int) + y := u64_id (by omega) (by omega)
  simp [go_sem, e]
theorem Bi_addB {X Y : Operand} (x y : Nat) (h : x + y < 9223372036854775808) : ((do eqGuard .add 3 X Y (.int .i64 (x : Nat)) (.int .i64 (y : Nat)); binOp .add 3 (.int .i64 (x : Nat)) (.int .i64 (y : Nat))) : Sem Value).run Try.prog w = .ok (.int .i64 (x + y : Nat)) w := by
  rw [Int.natCast_add]
  exact B_add Try.underlying3 _ _ (by omega) (by omega)
end
theorem pow_cap {c k acc : Nat} (hk : k ≤ 9) (ha : acc < 2 ^ (7 * k)) (hc : c < 128) (h9 : k = 9 → c ≤ 1) : acc + c * 2 ^ (7 * k) < 18446744073709551616 ∧ c * 2 ^ (7 * k) < 18446744073709551616 ∧ acc + c * 2 ^ (7 * k) < 2 ^ (7 * (k + 1)) := by
  have hp : 2 ^ (7 * (k + 1)) = 128 * 2 ^ (7 * k) := by rw [show 7 * (k + 1) = 7 + 7 * k by omega, Nat.pow_add]
  have hcm : c * 2 ^ (7 * k) ≤ 127 * 2 ^ (7 * k) := Nat.mul_le_mul_right _ (by omega)
  have h3 : acc + c * 2 ^ (7 * k) < 2 ^ (7 * (k + 1)) := by omega
  refine ⟨?_, ?_, h3⟩
  all_goals
    by_cases h : k = 9
    · subst h
      have := h9 rfl
      have : c * 2 ^ (7 * 9) ≤ 1 * 2 ^ (7 * 9) := Nat.mul_le_mul_right _ this
      omega
    · have : 2 ^ (7 * (k + 1)) ≤ 2 ^ 63 := Nat.pow_le_pow_right (by decide) (by omega)
      omega
section
variable {W : World} {s : ByteArray} {p : Nat}
set_option maxHeartbeats 4000000 in
set_option maxRecDepth 100000 in
theorem rRead_any (hs : s.size < 140737488351233) (hp : p ≤ s.size) : Calls Try.prog 64 #[.string s, .int .i64 (p : Nat)] W fun e W' => e = .returned (.tuple (readE s p)) ∧ Below W.heap.size W W' := by
  have hL := Live.init W
  unfold readE
  obtain ⟨r, hr⟩ : ∃ r, r = rd 0 0 ((bytesOf s).drop p) := ⟨_, rfl⟩
  rw [← hr]
  go_enter Try.func64, Try.ntmps64
  refine wp_fr (n := 57) (m := [(0, _), (1, _)]) ⟨rfl, rfl, by intro p hp; simp only [List.mem_cons, List.not_mem_nil, or_false] at hp; rcases hp with rfl | rfl <;> rfl⟩ fun a0 H0 => ?_
  repeat (go_not_at_region 0; go_step)
  refine wp_region_lit ?_
  refine h_op H0 rfl (wn rfl) (R_as H0 rfl rfl) rfl (P2 0 1 rfl rfl) fun a1 H1 => ?_
  clear H0
  refine h_op H1 rfl (wn rfl) (R_as H1 rfl rfl) rfl (P2 0 1 rfl rfl) fun a2 H2 => ?_
  clear H1
  refine h_op H2 rfl (wn rfl) (R_as H2 rfl rfl) rfl (P2 0 1 rfl rfl) fun a3 H3 => ?_
  clear H2
  refine h_end ?_
  repeat (go_not_at_region 1; go_step)
  refine wp_region_lit ?_
  refine h_op H3 rfl (wn rfl) (R_as H3 rfl rfl) rfl (P3 7 0 1 rfl rfl rfl) fun a4 H4 => ?_
  clear H3
  refine h_end ?_
  repeat (go_not_at_region 2; go_step)
  refine wp_region_lit ?_
  refine h_op H4 rfl (wn rfl) (R_as H4 rfl rfl) rfl (P4 8 7 0 1 rfl rfl rfl rfl) fun a5 H5 => ?_
  clear H4
  refine h_end ?_
  repeat (go_not_at_region 3; go_step)
  obtain ⟨I, hI⟩ : ∃ I : Nat → Act → World → Prop, ∀ n a' w', I n a' w' ↔ ∃ k acc : Nat, n = 10 - k ∧ k ≤ 10 ∧ acc < 2 ^ (7 * k) ∧ r = rd k acc ((bytesOf s).drop (p + k)) ∧ Fr a' 57 [(0, .string s), (1, .int .i64 (p : Nat)), (7, .int .u64 (acc : Nat)), (8, .int .i64 (k : Nat))] ∧ Live W [] w' := ⟨_, fun _ _ _ => Iff.rfl⟩
  have HI := Lib.hid hI
  clear hI
  refine wp_loop_ghost I 10 ((HI.out _ _ _).2 ⟨0, 0, rfl, by decide, by decide, hr, H5.pick _ (P4 0 1 7 8 rfl rfl rfl rfl), hL⟩) ?_
  clear hL hr
  intro n a1 w1 hi
  obtain ⟨k, acc, rfl, hk, hacc, hr, H0, hL⟩ := (HI.out _ _ _).1 hi
  clear hi
  by_cases hk10 : k < 10
  · repeat (go_not_at_region 3; go_step)
    refine wp_region_lit ?_
    refine h_op H0 rfl (wn rfl) (R_mv H0 rfl rfl) rfl (P5 10 0 1 7 8 rfl rfl rfl rfl rfl) fun a1 H1 => ?_
    clear H0
    refine h_op H1 rfl (wn rfl) (R_bin H1 rfl rfl rfl (B_to (y := true) (B_lt Try.underlying3 _ _) (decide_eq_true (by omega)))) rfl (P5 11 0 1 7 8 rfl rfl rfl rfl rfl) fun a2 H2 => ?_
    clear H1
    refine h_end ?_
    repeat (go_not_at_region 5; go_step)
    refine wp_cond_true (H2.ev (x := .tmp 11) rfl) ?_
    repeat (go_not_at_region 5; go_step)
    by_cases hend : s.size ≤ p + k
    · refine wp_region_lit ?_
      refine h_op H2 rfl (wn rfl) (R_mv H2 rfl rfl) rfl (P5 14 0 1 7 8 rfl rfl rfl rfl rfl) fun a3 H3 => ?_
      clear H2
      refine h_op H3 rfl (wn rfl) (R_mv H3 rfl rfl) rfl (P6 15 14 0 1 7 8 rfl rfl rfl rfl rfl rfl) fun a4 H4 => ?_
      clear H3
      refine h_op H4 rfl (wn rfl) (R_bin H4 rfl rfl rfl (Bi_addB _ _ (by omega))) rfl (P5 16 0 1 7 8 rfl rfl rfl rfl rfl) fun a5 H5 => ?_
      clear H4
      refine h_op H5 rfl (wn rfl) (R_mv H5 rfl rfl) rfl (P6 17 16 0 1 7 8 rfl rfl rfl rfl rfl rfl) fun a6 H6 => ?_
      clear H5
      refine h_op H6 rfl (wn rfl) (R_len H6 rfl rfl Try.underlying9) rfl (P6 18 16 0 1 7 8 rfl rfl rfl rfl rfl rfl) fun a7 H7 => ?_
      clear H6
      refine h_op H7 rfl (wn rfl) (R_bin H7 rfl rfl rfl (B_to (y := true) (B_ge Try.underlying3 _ _) (decide_eq_true (by omega)))) rfl (P5 19 0 1 7 8 rfl rfl rfl rfl rfl) fun a8 H8 => ?_
      clear H7
      refine h_end ?_
      repeat (go_not_at_region 6; go_step)
      refine wp_cond_true (H8.ev (x := .tmp 19) rfl) ?_
      repeat (go_not_at_region 6; go_step)
      refine wp_region_lit ?_
      refine h_op H8 rfl (wn rfl) (R_mv H8 rfl rfl) rfl (P1 20 rfl) fun a9 H9 => ?_
      clear H8
      refine h_op H9 rfl (wn rfl) (R_as H9 rfl rfl) rfl (P2 4 20 rfl rfl) fun a10 H10 => ?_
      clear H9
      refine h_op H10 rfl (wn rfl) (R_as H10 rfl rfl) rfl (P2 5 4 rfl rfl) fun a11 H11 => ?_
      clear H10
      refine h_op H11 rfl (wn rfl) (R_as H11 rfl rfl) rfl (P3 6 5 4 rfl rfl rfl) fun a12 H12 => ?_
      clear H11
      refine h_end ?_
      repeat (go_not_at_region 999; go_step)
      refine H12.ret3 rfl rfl rfl rfl ?_
      refine ⟨?_, hL.1⟩
      have hd : (bytesOf s).drop (p + k) = [] := List.drop_eq_nil_of_le (by rw [bytes_size]; exact hend)
      rw [hr, hd, rd, if_neg (by omega)]
    · refine wp_region_lit ?_
      refine h_op H2 rfl (wn rfl) (R_mv H2 rfl rfl) rfl (P5 14 0 1 7 8 rfl rfl rfl rfl rfl) fun a3 H3 => ?_
      clear H2
      refine h_op H3 rfl (wn rfl) (R_mv H3 rfl rfl) rfl (P6 15 14 0 1 7 8 rfl rfl rfl rfl rfl rfl) fun a4 H4 => ?_
      clear H3
      refine h_op H4 rfl (wn rfl) (R_bin H4 rfl rfl rfl (Bi_addB _ _ (by omega))) rfl (P5 16 0 1 7 8 rfl rfl rfl rfl rfl) fun a5 H5 => ?_
      clear H4
      refine h_op H5 rfl (wn rfl) (R_mv H5 rfl rfl) rfl (P6 17 16 0 1 7 8 rfl rfl rfl rfl rfl rfl) fun a6 H6 => ?_
      clear H5
      refine h_op H6 rfl (wn rfl) (R_len H6 rfl rfl Try.underlying9) rfl (P6 18 16 0 1 7 8 rfl rfl rfl rfl rfl rfl) fun a7 H7 => ?_
      clear H6
      refine h_op H7 rfl (wn rfl) (R_bin H7 rfl rfl rfl (B_to (y := false) (B_ge Try.underlying3 _ _) (decide_eq_false (by omega)))) rfl (P5 19 0 1 7 8 rfl rfl rfl rfl rfl) fun a8 H8 => ?_
      clear H7
      refine h_end ?_
      repeat (go_not_at_region 7; go_step)
      refine wp_cond_false (H8.ev (x := .tmp 19) rfl) ?_
      repeat (go_not_at_region 7; go_step)
      have hsz : p + k < s.size := by omega
      obtain ⟨hb, hd⟩ := bytes_at hsz
      obtain ⟨c, hbe⟩ : ∃ b, b = (s[p + k]'hsz).toNat := ⟨_, rfl⟩
      have hix : ∀ w : World, (Instr.index 9 (.string s) (.int .i64 (p + k : Nat))).run Try.prog w = .ok (.int .u8 (c : Nat)) w := fun w => by rw [hbe]; exact ix_str hsz
      rw [← hbe] at hb hd
      rw [hd, rd, if_neg (by omega)] at hr
      clear hbe hd
      refine wp_region_lit ?_
      refine h_op H8 rfl (wn rfl) (R_mv H8 rfl rfl) rfl (P5 21 0 1 7 8 rfl rfl rfl rfl rfl) fun a9 H9 => ?_
      clear H8
      refine h_op H9 rfl (wn rfl) (R_mv H9 rfl rfl) rfl (P6 22 21 0 1 7 8 rfl rfl rfl rfl rfl rfl) fun a10 H10 => ?_
      clear H9
      refine h_op H10 rfl (wn rfl) (R_mv H10 rfl rfl) rfl (P7 23 22 21 0 1 7 8 rfl rfl rfl rfl rfl rfl rfl) fun a11 H11 => ?_
      clear H10
      refine h_op H11 rfl (wn rfl) (R_bin H11 rfl rfl rfl (Bi_addB _ _ (by omega))) rfl (P6 24 21 0 1 7 8 rfl rfl rfl rfl rfl rfl) fun a12 H12 => ?_
      clear H11
      refine h_op H12 rfl (wn rfl) (R_ix H12 rfl rfl rfl (hix _)) rfl (P5 25 0 1 7 8 rfl rfl rfl rfl rfl) fun a13 H13 => ?_
      clear H12
      refine h_op H13 rfl (wn rfl) (R_as H13 rfl rfl) rfl (P5 9 0 1 7 8 rfl rfl rfl rfl rfl) fun a14 H14 => ?_
      clear H13
      refine h_end ?_
      repeat (go_not_at_region 8; go_step)
      refine wp_region_lit ?_
      refine h_op H14 rfl (wn rfl) (R_mv H14 rfl rfl) rfl (P6 26 9 0 1 7 8 rfl rfl rfl rfl rfl rfl) fun a15 H15 => ?_
      clear H14
      refine h_op H15 rfl (wn rfl) (R_bin H15 rfl rfl rfl (B_eq Try.underlying3 _ _)) rfl (P6 27 9 0 1 7 8 rfl rfl rfl rfl rfl rfl) fun a16 H16 => ?_
      clear H15
      refine h_op H16 rfl (wn rfl) (R_mv H16 rfl rfl) rfl (P6 28 9 0 1 7 8 rfl rfl rfl rfl rfl rfl) fun a17 H17 => ?_
      clear H16
      replace H17 := H17.pick [(0, .string s), (1, .int .i64 (p : Nat)), (7, .int .u64 (acc : Nat)), (8, .int .i64 (k : Nat)), (9, .int .u8 (c : Nat)), (28, .bool ((k : Int) == 9))] (P6 0 1 7 8 9 28 rfl rfl rfl rfl rfl rfl)
      generalize ht0 : ((k : Int) == 9) = t0 at H17
      refine wpList_cut [_, _, _] (R := fun a' w' => Fr a' 57 [(0, .string s), (1, .int .i64 (p : Nat)), (7, .int .u64 (acc : Nat)), (8, .int .i64 (k : Nat)), (9, .int .u8 (c : Nat)), (31, .bool (t0 && (decide ((c : Int) > 1))))] ∧ Live W [] w') ?_ ?_
      · cases t0
        · refine h_skip H17 rfl (H17.wf rfl rfl rfl) rfl (P7 29 0 1 7 8 9 28 rfl rfl rfl rfl rfl rfl rfl) fun a18 H18 => ?_
          clear H17
          refine h_skip H18 rfl (H18.wf rfl rfl rfl) rfl (P7 30 0 1 7 8 9 28 rfl rfl rfl rfl rfl rfl rfl) fun a19 H19 => ?_
          clear H18
          refine h_op H19 rfl (wn rfl) (R_pick H19 rfl rfl rfl) rfl (P6 31 0 1 7 8 9 rfl rfl rfl rfl rfl rfl) fun a20 H20 => ?_
          clear H19
          exact h_end ⟨H20.pick _ (P6 0 1 7 8 9 31 rfl rfl rfl rfl rfl rfl), hL⟩
        · refine h_op H17 rfl (H17.wt rfl rfl rfl) (R_mv H17 rfl rfl) rfl (P7 29 0 1 7 8 9 28 rfl rfl rfl rfl rfl rfl rfl) fun a18 H18 => ?_
          clear H17
          refine h_op H18 rfl (H18.wt rfl rfl rfl) (R_bin H18 rfl rfl rfl (B8_gt _ _)) rfl (P7 30 0 1 7 8 9 28 rfl rfl rfl rfl rfl rfl rfl) fun a19 H19 => ?_
          clear H18
          refine h_op H19 rfl (wn rfl) (R_pick H19 rfl rfl rfl) rfl (P6 31 0 1 7 8 9 rfl rfl rfl rfl rfl rfl) fun a20 H20 => ?_
          clear H19
          exact h_end ⟨H20.pick _ (P6 0 1 7 8 9 31 rfl rfl rfl rfl rfl rfl), hL⟩
      clear hL H17
      rintro a21 wx ⟨H21, hL⟩
      generalize ht1 : (t0 && (decide ((c : Int) > 1))) = t1 at H21
      refine h_end ?_
      repeat (go_not_at_region 9; go_step)
      have htt : (k = 9 ∧ 1 < c) ↔ t1 = true := by
        rw [← ht1, ← ht0, Bool.and_eq_true, beq_iff_eq, decide_eq_true_iff]
        omega
      cases t1
      rotate_left
      · refine wp_cond (t := true) (H21.ev (x := .tmp 31) rfl) ?_
        simp only [if_true]
        repeat (go_not_at_region 9; go_step)
        refine wp_region_lit ?_
        refine h_op H21 rfl (wn rfl) (R_mv H21 rfl rfl) rfl (P1 32 rfl) fun a22 H22 => ?_
        clear H21
        refine h_op H22 rfl (wn rfl) (R_as H22 rfl rfl) rfl (P2 4 32 rfl rfl) fun a23 H23 => ?_
        clear H22
        refine h_op H23 rfl (wn rfl) (R_as H23 rfl rfl) rfl (P2 5 4 rfl rfl) fun a24 H24 => ?_
        clear H23
        refine h_op H24 rfl (wn rfl) (R_as H24 rfl rfl) rfl (P3 6 5 4 rfl rfl rfl) fun a25 H25 => ?_
        clear H24
        refine h_end ?_
        repeat (go_not_at_region 999; go_step)
        refine H25.ret3 rfl rfl rfl rfl ?_
        refine ⟨?_, hL.1⟩
        rw [hr, if_pos (htt.2 rfl)]
      · have hn9 : ¬(k = 9 ∧ 1 < c) := fun h => by cases htt.1 h
        rw [if_neg hn9] at hr
        obtain ⟨q1, q2, q3⟩ := pow_cap (c := c % 128) (k := k) (by omega) hacc (by omega) (fun h => by omega)
        refine wp_cond (t := false) (H21.ev (x := .tmp 31) rfl) ?_
        simp only [Bool.false_eq_true, if_false]
        repeat (go_not_at_region 10; go_step)
        refine wp_region_lit ?_
        refine h_op H21 rfl (wn rfl) (R_mv H21 rfl rfl) rfl (P6 33 0 1 7 8 9 rfl rfl rfl rfl rfl rfl) fun a22 H22 => ?_
        clear H21
        refine h_op H22 rfl (wn rfl) (R_mv H22 rfl rfl) rfl (P7 34 33 0 1 7 8 9 rfl rfl rfl rfl rfl rfl rfl) fun a23 H23 => ?_
        clear H22
        refine h_op H23 rfl (wn rfl) (R_bin H23 rfl rfl rfl (B8_rem128 _)) rfl (P7 35 33 0 1 7 8 9 rfl rfl rfl rfl rfl rfl rfl) fun a24 H24 => ?_
        clear H23
        refine h_op H24 rfl (wn rfl) (R_cv H24 rfl rfl (cv8_64 _ (by omega))) rfl (P7 36 33 0 1 7 8 9 rfl rfl rfl rfl rfl rfl rfl) fun a25 H25 => ?_
        clear H24
        refine h_op H25 rfl (wn rfl) (R_mv H25 rfl rfl) rfl (P8 37 36 33 0 1 7 8 9 rfl rfl rfl rfl rfl rfl rfl rfl) fun a26 H26 => ?_
        clear H25
        refine h_op H26 rfl (wn rfl) (R_bin H26 rfl rfl rfl (B_mul7 k (by omega))) rfl (P8 38 36 33 0 1 7 8 9 rfl rfl rfl rfl rfl rfl rfl rfl) fun a27 H27 => ?_
        clear H26
        refine h_op H27 rfl (wn rfl) (R_cv H27 rfl rfl (cvi_u _ (by omega))) rfl (P8 39 36 33 0 1 7 8 9 rfl rfl rfl rfl rfl rfl rfl rfl) fun a28 H28 => ?_
        clear H27
        refine h_op H28 rfl (wn rfl) (R_bin H28 rfl rfl rfl (B64_shlN _ _ (by omega) q2)) rfl (P7 40 33 0 1 7 8 9 rfl rfl rfl rfl rfl rfl rfl) fun a29 H29 => ?_
        clear H28
        refine h_op H29 rfl (wn rfl) (R_bin H29 rfl rfl rfl (B64_addN _ _ q1)) rfl (P6 41 0 1 7 8 9 rfl rfl rfl rfl rfl rfl) fun a30 H30 => ?_
        clear H29
        refine h_op H30 rfl (wn rfl) (R_as H30 rfl rfl) rfl (P5 7 0 1 8 9 rfl rfl rfl rfl rfl) fun a31 H31 => ?_
        clear H30
        refine h_end ?_
        by_cases hc : c < 128
        · rw [if_pos hc] at hr
          have hcm : c % 128 = c := Nat.mod_eq_of_lt hc
          rw [hcm] at H31
          repeat (go_not_at_region 11; go_step)
          refine wp_region_lit ?_
          refine h_op H31 rfl (wn rfl) (R_mv H31 rfl rfl) rfl (P6 42 7 0 1 8 9 rfl rfl rfl rfl rfl rfl) fun a32 H32 => ?_
          clear H31
          refine h_op H32 rfl (wn rfl) (R_bin H32 rfl rfl rfl (B_to (y := true) (B8_lt _ _) (decide_eq_true (by omega)))) rfl (P6 43 7 0 1 8 9 rfl rfl rfl rfl rfl rfl) fun a33 H33 => ?_
          clear H32
          refine h_end ?_
          repeat (go_not_at_region 12; go_step)
          refine wp_cond_true (H33.ev (x := .tmp 43) rfl) ?_
          repeat (go_not_at_region 12; go_step)
          refine wp_region_lit ?_
          refine h_op H33 rfl (wn rfl) (R_mv H33 rfl rfl) rfl (P6 44 7 0 1 8 9 rfl rfl rfl rfl rfl rfl) fun a34 H34 => ?_
          clear H33
          refine h_op H34 rfl (wn rfl) (R_bin H34 rfl rfl rfl (B8_eq _ _)) rfl (P6 45 7 0 1 8 9 rfl rfl rfl rfl rfl rfl) fun a35 H35 => ?_
          clear H34
          refine h_op H35 rfl (wn rfl) (R_mv H35 rfl rfl) rfl (P6 46 7 0 1 8 9 rfl rfl rfl rfl rfl rfl) fun a36 H36 => ?_
          clear H35
          replace H36 := H36.pick [(0, .string s), (1, .int .i64 (p : Nat)), (7, .int .u64 (acc + c * 2 ^ (7 * k) : Nat)), (8, .int .i64 (k : Nat)), (9, .int .u8 (c : Nat)), (46, .bool ((c : Int) == 0))] (P6 0 1 7 8 9 46 rfl rfl rfl rfl rfl rfl)
          generalize hu0 : ((c : Int) == 0) = u0 at H36
          refine wpList_cut [_, _, _] (R := fun a' w' => Fr a' 57 [(0, .string s), (1, .int .i64 (p : Nat)), (7, .int .u64 (acc + c * 2 ^ (7 * k) : Nat)), (8, .int .i64 (k : Nat)), (9, .int .u8 (c : Nat)), (49, .bool (u0 && (decide ((k : Int) > 0))))] ∧ Live W [] w') ?_ ?_
          · cases u0
            · refine h_skip H36 rfl (H36.wf rfl rfl rfl) rfl (P7 47 0 1 7 8 9 46 rfl rfl rfl rfl rfl rfl rfl) fun a37 H37 => ?_
              clear H36
              refine h_skip H37 rfl (H37.wf rfl rfl rfl) rfl (P7 48 0 1 7 8 9 46 rfl rfl rfl rfl rfl rfl rfl) fun a38 H38 => ?_
              clear H37
              refine h_op H38 rfl (wn rfl) (R_pick H38 rfl rfl rfl) rfl (P6 49 0 1 7 8 9 rfl rfl rfl rfl rfl rfl) fun a39 H39 => ?_
              clear H38
              exact h_end ⟨H39.pick _ (P6 0 1 7 8 9 49 rfl rfl rfl rfl rfl rfl), hL⟩
            · refine h_op H36 rfl (H36.wt rfl rfl rfl) (R_mv H36 rfl rfl) rfl (P7 47 0 1 7 8 9 46 rfl rfl rfl rfl rfl rfl rfl) fun a37 H37 => ?_
              clear H36
              refine h_op H37 rfl (H37.wt rfl rfl rfl) (R_bin H37 rfl rfl rfl (B_gt Try.underlying3 _ _)) rfl (P7 48 0 1 7 8 9 46 rfl rfl rfl rfl rfl rfl rfl) fun a38 H38 => ?_
              clear H37
              refine h_op H38 rfl (wn rfl) (R_pick H38 rfl rfl rfl) rfl (P6 49 0 1 7 8 9 rfl rfl rfl rfl rfl rfl) fun a39 H39 => ?_
              clear H38
              exact h_end ⟨H39.pick _ (P6 0 1 7 8 9 49 rfl rfl rfl rfl rfl rfl), hL⟩
          clear hL H36
          rintro a40 wx ⟨H40, hL⟩
          generalize hu1 : (u0 && (decide ((k : Int) > 0))) = u1 at H40
          refine h_end ?_
          repeat (go_not_at_region 13; go_step)
          have huu : (c = 0 ∧ 0 < k) ↔ u1 = true := by
            rw [← hu1, ← hu0, Bool.and_eq_true, beq_iff_eq, decide_eq_true_iff]
            omega
          cases u1
          rotate_left
          · refine wp_cond (t := true) (H40.ev (x := .tmp 49) rfl) ?_
            simp only [if_true]
            repeat (go_not_at_region 13; go_step)
            refine wp_region_lit ?_
            refine h_op H40 rfl (wn rfl) (R_mv H40 rfl rfl) rfl (P1 50 rfl) fun a41 H41 => ?_
            clear H40
            refine h_op H41 rfl (wn rfl) (R_as H41 rfl rfl) rfl (P2 4 50 rfl rfl) fun a42 H42 => ?_
            clear H41
            refine h_op H42 rfl (wn rfl) (R_as H42 rfl rfl) rfl (P2 5 4 rfl rfl) fun a43 H43 => ?_
            clear H42
            refine h_op H43 rfl (wn rfl) (R_as H43 rfl rfl) rfl (P3 6 5 4 rfl rfl rfl) fun a44 H44 => ?_
            clear H43
            refine h_end ?_
            repeat (go_not_at_region 999; go_step)
            refine H44.ret3 rfl rfl rfl rfl ?_
            refine ⟨?_, hL.1⟩
            rw [hr, if_pos (huu.2 rfl)]
          · refine wp_cond (t := false) (H40.ev (x := .tmp 49) rfl) ?_
            simp only [Bool.false_eq_true, if_false]
            repeat (go_not_at_region 14; go_step)
            refine wp_region_lit ?_
            refine h_op H40 rfl (wn rfl) (R_mv H40 rfl rfl) rfl (P3 51 1 8 rfl rfl rfl) fun a41 H41 => ?_
            clear H40
            refine h_op H41 rfl (wn rfl) (R_mv H41 rfl rfl) rfl (P3 52 51 8 rfl rfl rfl) fun a42 H42 => ?_
            clear H41
            refine h_op H42 rfl (wn rfl) (R_mv H42 rfl rfl) rfl (P3 53 52 51 rfl rfl rfl) fun a43 H43 => ?_
            clear H42
            refine h_op H43 rfl (wn rfl) (R_bin H43 rfl rfl rfl (Bi_addB _ _ (by omega))) rfl (P2 54 51 rfl rfl) fun a44 H44 => ?_
            clear H43
            refine h_op H44 rfl (wn rfl) (R_bin H44 rfl rfl rfl (Bi_addB (p + k) 1 (by omega))) rfl (P2 55 51 rfl rfl) fun a45 H45 => ?_
            clear H44
            refine h_op H45 rfl (wn rfl) (R_as H45 rfl rfl) rfl (P2 4 55 rfl rfl) fun a46 H46 => ?_
            clear H45
            refine h_op H46 rfl (wn rfl) (R_as H46 rfl rfl) rfl (P2 5 4 rfl rfl) fun a47 H47 => ?_
            clear H46
            refine h_op H47 rfl (wn rfl) (R_as H47 rfl rfl) rfl (P3 6 5 4 rfl rfl rfl) fun a48 H48 => ?_
            clear H47
            refine h_end ?_
            repeat (go_not_at_region 999; go_step)
            refine H48.ret3 rfl rfl rfl rfl ?_
            refine ⟨?_, hL.1⟩
            rw [hr, if_neg (fun h => by cases huu.1 h)]
            rfl
        · rw [if_neg hc] at hr
          repeat (go_not_at_region 11; go_step)
          refine wp_region_lit ?_
          refine h_op H31 rfl (wn rfl) (R_mv H31 rfl rfl) rfl (P5 42 7 0 1 8 rfl rfl rfl rfl rfl) fun a32 H32 => ?_
          clear H31
          refine h_op H32 rfl (wn rfl) (R_bin H32 rfl rfl rfl (B_to (y := false) (B8_lt _ _) (decide_eq_false (by omega)))) rfl (P5 43 7 0 1 8 rfl rfl rfl rfl rfl) fun a33 H33 => ?_
          clear H32
          refine h_end ?_
          repeat (go_not_at_region 4; go_step)
          refine wp_cond_false (H33.ev (x := .tmp 43) rfl) ?_
          repeat (go_not_at_region 4; go_step)
          refine wp_region_lit ?_
          refine h_op H33 rfl (wn rfl) (R_mv H33 rfl rfl) rfl (P5 12 7 0 1 8 rfl rfl rfl rfl rfl) fun a34 H34 => ?_
          clear H33
          refine h_op H34 rfl (wn rfl) (R_bin H34 rfl rfl rfl (Bi_addB k 1 (by omega))) rfl (P5 13 7 0 1 8 rfl rfl rfl rfl rfl) fun a35 H35 => ?_
          clear H34
          refine h_op H35 rfl (wn rfl) (R_as H35 rfl rfl) rfl (P4 8 7 0 1 rfl rfl rfl rfl) fun a36 H36 => ?_
          clear H35
          refine h_end ?_
          repeat (go_not_at_region 999; go_step)
          exact ⟨10 - (k + 1), by omega, (HI.out _ _ _).2 ⟨k + 1, acc + c % 128 * 2 ^ (7 * k), rfl, hk10, q3, hr, H36.pick _ (P4 0 1 7 8 rfl rfl rfl rfl), hL⟩⟩
  · obtain rfl : k = 10 := by omega
    repeat (go_not_at_region 3; go_step)
    refine wp_region_lit ?_
    refine h_op H0 rfl (wn rfl) (R_mv H0 rfl rfl) rfl (P5 10 0 1 7 8 rfl rfl rfl rfl rfl) fun a1 H1 => ?_
    clear H0
    refine h_op H1 rfl (wn rfl) (R_bin H1 rfl rfl rfl (B_to (y := false) (B_lt Try.underlying3 _ _) (decide_eq_false (by omega)))) rfl (P5 11 0 1 7 8 rfl rfl rfl rfl rfl) fun a2 H2 => ?_
    clear H1
    refine h_end ?_
    repeat (go_not_at_region 15; go_step)
    refine wp_cond_false (H2.ev (x := .tmp 11) rfl) ?_
    repeat (go_not_at_region 15; go_step)
    refine wp_region_lit ?_
    refine h_op H2 rfl (wn rfl) (R_mv H2 rfl rfl) rfl (P1 56 rfl) fun a3 H3 => ?_
    clear H2
    refine h_op H3 rfl (wn rfl) (R_as H3 rfl rfl) rfl (P2 4 56 rfl rfl) fun a4 H4 => ?_
    clear H3
    refine h_op H4 rfl (wn rfl) (R_as H4 rfl rfl) rfl (P2 5 4 rfl rfl) fun a5 H5 => ?_
    clear H4
    refine h_op H5 rfl (wn rfl) (R_as H5 rfl rfl) rfl (P3 6 5 4 rfl rfl rfl) fun a6 H6 => ?_
    clear H5
    refine h_end ?_
    repeat (go_not_at_region 999; go_step)
    refine H6.ret3 rfl rfl rfl rfl ?_
    refine ⟨?_, hL.1⟩
    have h8 : r = .error 8 := by
      rw [hr]
      cases (bytesOf s).drop (p + 10) with
      | nil => rfl
      | cons c t => rfl
    rw [h8]
end
end Go.Proofs.Ytmmhchpilcjflaa

/-
  meterref02.In: what is read of it, by the document.
-/
namespace Go.Proofs.Ytmmhchpilcjflaa
open Go.RowKit
section
variable {P : Program} {a : Act} {w : World} {n : Nat} {m : List (Nat × Value)} {o : Oper}
theorem R_nc {x : Operand} {p : Addr} (H : Fr a n m) (ho : o.op = .nilCheck x) (hx : ev1 m x = some (.pointer (some p))) : (execOp a.eval o).run P w = .ok (.value (.pointer (some p))) w := by
  unfold execOp
  rw [ho]
  simp only [H.ev hx]
  simp [go_sem]
end
theorem Fr.wu {ops : Array Oper} {o : Oper} {a : Act} {n : Nat} {m : List (Nat × Value)} (H : Fr a n m) {j dg : Nat} {c : Bool} (hg : o.guard = some (j, c)) (hj : (ops[j]?).bind (·.dst) = some dg) (hl : look m dg = some undef) : Region.wanted o (yielded ops a.tmps) = false := by
  have := H.get hl
  have hy : yielded ops a.tmps j = none := by simp [yielded, hj, this, undef]
  unfold Region.wanted
  rw [hg]
  simp only [hy]
  cases c <;> rfl
/-- A reader's cells. -/
abbrev rcells (s : ByteArray) (n : Nat) (b : Int) : Array Value := #[.string s, .int .i64 (n : Nat), .int .i64 b]
def numE (s : ByteArray) (n : Nat) (b : Int) : Nat × Nat × Int :=
  if b ≠ 0 then (0, n, b) else match rd 0 0 ((bytesOf s).drop n) with
  | .ok (v, z) => (v, n + z, 0)
  | .error f => (0, n, f)
theorem fr_0 (g : Nat) (w : World) : (Instr.fieldAt 85 (.pointer (some ⟨g, 0, none⟩)) 0).run Try.prog w = .ok (.pointer (some ⟨g, 0, none⟩)) w := by simp [go_sem]
theorem fr_1 (g : Nat) (w : World) : (Instr.fieldAt 85 (.pointer (some ⟨g, 0, none⟩)) 1).run Try.prog w = .ok (.pointer (some ⟨g, 1, none⟩)) w := by simp [go_sem]
theorem fr_2 (g : Nat) (w : World) : (Instr.fieldAt 85 (.pointer (some ⟨g, 0, none⟩)) 2).run Try.prog w = .ok (.pointer (some ⟨g, 2, none⟩)) w := by simp [go_sem]
section
variable {w0 W : World} {L : List Blk} {g n : Nat} {s : ByteArray} {b : Int}
set_option maxHeartbeats 4000000 in
set_option maxRecDepth 100000 in
theorem inNum_any (hs : s.size < 140737488351233) (hn : n ≤ s.size) (hL : Live w0 ((g, rcells s n b, 85) :: L) W) : Calls Try.prog 53 #[.pointer (some ⟨g, 0, none⟩)] W fun e W' => e = .returned (.int .u64 ((numE s n b).1 : Nat)) ∧ Live w0 ((g, rcells s (numE s n b).2.1 (numE s n b).2.2, 85) :: L) W' := by
  go_enter Try.func53, Try.ntmps53
  refine wp_fr (n := 33) (m := [(0, _)]) ⟨rfl, rfl, by intro p hp; simp only [List.mem_cons, List.not_mem_nil, or_false] at hp; rcases hp with rfl <;> rfl⟩ fun a0 H0 => ?_
  repeat (go_not_at_region 0; go_step)
  refine wp_region_lit ?_
  refine h_op H0 rfl (wn rfl) (R_as H0 rfl rfl) rfl (P1 0 rfl) fun a1 H1 => ?_
  clear H0
  refine h_end ?_
  by_cases hb : b = 0
  rotate_left
  · repeat (go_not_at_region 1; go_step)
    refine wp_region_lit ?_
    refine h_op H1 rfl (wn rfl) (R_mv H1 rfl rfl) rfl (P1 6 rfl) fun a2 H2 => ?_
    clear H1
    refine h_op H2 rfl (wn rfl) (R_nc H2 rfl rfl) rfl (P1 7 rfl) fun a3 H3 => ?_
    clear H2
    refine h_op H3 rfl (wn rfl) (R_fa H3 rfl rfl (fr_2 _ _)) rfl (P1 8 rfl) fun a4 H4 => ?_
    clear H3
    refine h_op H4 rfl (wn rfl) (R_ld H4 rfl rfl (ld_int (hL.cell 2))) rfl (P1 9 rfl) fun a5 H5 => ?_
    clear H4
    refine h_op H5 rfl (wn rfl) (R_bin H5 rfl rfl rfl (B_to (y := true) (B_ne Try.underlying3 _ _) (bne_iff_ne.2 hb))) rfl (P1 10 rfl) fun a6 H6 => ?_
    clear H5
    refine h_end ?_
    repeat (go_not_at_region 2; go_step)
    refine wp_cond_true (H6.ev (x := .tmp 10) rfl) ?_
    repeat (go_not_at_region 2; go_step)
    refine wp_region_lit ?_
    refine h_op H6 rfl (wn rfl) (R_as H6 rfl rfl) rfl (P1 2 rfl) fun a7 H7 => ?_
    clear H6
    refine h_end ?_
    have hE : numE s n b = (0, n, b) := by unfold numE; rw [if_pos hb]
    repeat (go_not_at_region 999; go_step)
    refine H7.ret1 rfl rfl ?_
    rw [hE]
    exact ⟨rfl, hL⟩
  subst hb
  repeat (go_not_at_region 1; go_step)
  refine wp_region_lit ?_
  refine h_op H1 rfl (wn rfl) (R_mv H1 rfl rfl) rfl (P2 6 0 rfl rfl) fun a2 H2 => ?_
  clear H1
  refine h_op H2 rfl (wn rfl) (R_nc H2 rfl rfl) rfl (P2 7 0 rfl rfl) fun a3 H3 => ?_
  clear H2
  refine h_op H3 rfl (wn rfl) (R_fa H3 rfl rfl (fr_2 _ _)) rfl (P2 8 0 rfl rfl) fun a4 H4 => ?_
  clear H3
  refine h_op H4 rfl (wn rfl) (R_ld H4 rfl rfl (ld_int (hL.cell 2))) rfl (P2 9 0 rfl rfl) fun a5 H5 => ?_
  clear H4
  refine h_op H5 rfl (wn rfl) (R_bin H5 rfl rfl rfl (B_to (y := false) (B_ne Try.underlying3 _ _) (by decide))) rfl (P2 10 0 rfl rfl) fun a6 H6 => ?_
  clear H5
  refine h_end ?_
  repeat (go_not_at_region 3; go_step)
  refine wp_cond_false (H6.ev (x := .tmp 10) rfl) ?_
  repeat (go_not_at_region 3; go_step)
  obtain ⟨r, hr⟩ : ∃ r, r = readE s n := ⟨_, rfl⟩
  have hq := fun w => rRead_any (W := w) hs hn
  rw [← hr] at hq
  have hE : ∃ v n' f, r = #[.int .u64 (v : Nat), .int .i64 (n' : Nat), .int .i64 f] ∧ numE s n 0 = (v, n', f) := by
    rw [hr]
    unfold readE numE
    rw [if_neg (by decide)]
    cases hrd : rd 0 0 ((bytesOf s).drop n) with
    | ok x =>
      obtain ⟨v, z⟩ := x
      exact ⟨v, n + z, 0, rfl, rfl⟩
    | error f => exact ⟨0, n, f, rfl, rfl⟩
  obtain ⟨v, n', f, rfl, hE⟩ := hE
  refine wp_region_held_drew (S := fun w' => Live w0 ((g, rcells s n 0, 85) :: L) w') (by kernel_rfl) hL.drew (fun hL' => ?_)
  replace hL := hL'
  clear hL'
  refine a_op 0 H6 rfl rfl (by kernel_rfl) (by kernel_rfl) (by kernel_rfl) (fun _ _ _ h => h) (wn rfl) (fun w hL => R_mv H6 rfl rfl) hL rfl (P2 12 0 rfl rfl) fun a7 H7 => ?_
  clear H6
  refine a_op 4 H7 rfl rfl (by kernel_rfl) (by kernel_rfl) (by kernel_rfl) (fun _ _ _ h => h) (wn rfl) (fun w hL => R_mv H7 rfl rfl) hL rfl (P3 16 12 0 rfl rfl rfl) fun a8 H8 => ?_
  clear H7
  refine a_op 1 H8 rfl rfl (by kernel_rfl) (by kernel_rfl) (by kernel_rfl) (fun _ _ _ h => h) (wn rfl) (fun w hL => R_nc H8 rfl rfl) hL rfl (P3 13 16 0 rfl rfl rfl) fun a9 H9 => ?_
  clear H8
  refine a_op 5 H9 rfl rfl (by kernel_rfl) (by kernel_rfl) (by kernel_rfl) (fun _ _ _ h => h) (wn rfl) (fun w hL => R_nc H9 rfl rfl) hL rfl (P3 17 13 0 rfl rfl rfl) fun a10 H10 => ?_
  clear H9
  refine a_op 2 H10 rfl rfl (by kernel_rfl) (by kernel_rfl) (by kernel_rfl) (fun _ _ _ h => h) (wn rfl) (fun w hL => R_fa H10 rfl rfl (fr_0 _ _)) hL rfl (P3 14 17 0 rfl rfl rfl) fun a11 H11 => ?_
  clear H10
  refine a_op 6 H11 rfl rfl (by kernel_rfl) (by kernel_rfl) (by kernel_rfl) (fun _ _ _ h => h) (wn rfl) (fun w hL => R_fa H11 rfl rfl (fr_1 _ _)) hL rfl (P3 18 14 0 rfl rfl rfl) fun a12 H12 => ?_
  clear H11
  refine a_op 3 H12 rfl rfl (by kernel_rfl) (by kernel_rfl) (by kernel_rfl) (fun _ _ _ h => h) (wn rfl) (fun w hL => R_ld H12 rfl rfl (ld_str (hL.cell 0))) hL rfl (P3 15 18 0 rfl rfl rfl) fun a13 H13 => ?_
  clear H12
  refine a_op 7 H13 rfl rfl (by kernel_rfl) (by kernel_rfl) (by kernel_rfl) (fun _ _ _ h => h) (wn rfl) (fun w hL => R_ld H13 rfl rfl (ld_int (hL.cell 1))) hL rfl (P3 19 15 0 rfl rfl rfl) fun a14 H14 => ?_
  clear H13
  refine a_all1 8 (by kernel_rfl) ?_
  refine o_callB 8 H14 rfl rfl (wn rfl) (R_call2 H14 rfl rfl rfl (fun w => by simp [go_sem])) rfl hL (hq _) (P2 20 0 rfl rfl) fun a15 w15 H15 hL' => ⟨hL', ?_⟩
  replace hL := hL'
  clear H14 hL'
  refine a_op 9 H15 rfl rfl (by kernel_rfl) (by kernel_rfl) (by kernel_rfl) (fun _ _ _ h => h) (wn rfl) (fun w hL => R_mv H15 rfl rfl) hL rfl (P2 11 0 rfl rfl) fun a16 H16 => ?_
  clear H15
  refine a_op 10 H16 rfl rfl (by kernel_rfl) (by kernel_rfl) (by kernel_rfl) (fun _ _ _ h => h) (wn rfl) (fun w hL => R_ext H16 rfl rfl rfl) hL rfl (P3 21 11 0 rfl rfl rfl) fun a17 H17 => ?_
  clear H16
  refine a_op 11 H17 rfl rfl (by kernel_rfl) (by kernel_rfl) (by kernel_rfl) (fun _ _ _ h => h) (wn rfl) (fun w hL => R_ext H17 rfl rfl rfl) hL rfl (P4 22 21 11 0 rfl rfl rfl rfl) fun a18 H18 => ?_
  clear H17
  refine a_op 12 H18 rfl rfl (by kernel_rfl) (by kernel_rfl) (by kernel_rfl) (fun _ _ _ h => h) (wn rfl) (fun w hL => R_ext H18 rfl rfl rfl) hL rfl (P4 23 22 21 0 rfl rfl rfl rfl) fun a19 H19 => ?_
  clear H18
  refine a_op 13 H19 rfl rfl (by kernel_rfl) (by kernel_rfl) (by kernel_rfl) (fun _ _ _ h => h) (wn rfl) (fun w hL => R_as H19 rfl rfl) hL rfl (P4 3 23 22 0 rfl rfl rfl rfl) fun a20 H20 => ?_
  clear H19
  refine a_op 14 H20 rfl rfl (by kernel_rfl) (by kernel_rfl) (by kernel_rfl) (fun _ _ _ h => h) (wn rfl) (fun w hL => R_as H20 rfl rfl) hL rfl (P4 4 3 23 0 rfl rfl rfl rfl) fun a21 H21 => ?_
  clear H20
  refine a_op 15 H21 rfl rfl (by kernel_rfl) (by kernel_rfl) (by kernel_rfl) (fun _ _ _ h => h) (wn rfl) (fun w hL => R_as H21 rfl rfl) hL rfl (P4 5 4 3 0 rfl rfl rfl rfl) fun a22 H22 => ?_
  clear H21
  refine wpAnyH_done (by kernel_rfl) ?_ _
  repeat (go_not_at_region 4; go_step)
  refine wp_region_lit ?_
  refine h_op H22 rfl (wn rfl) (R_mv H22 rfl rfl) rfl (P5 24 5 4 3 0 rfl rfl rfl rfl rfl) fun a23 H23 => ?_
  clear H22
  refine h_op H23 rfl (wn rfl) (R_mv H23 rfl rfl) rfl (P5 25 24 4 3 0 rfl rfl rfl rfl rfl) fun a24 H24 => ?_
  clear H23
  refine h_op H24 rfl (wn rfl) (R_nc H24 rfl rfl) rfl (P5 26 25 4 3 0 rfl rfl rfl rfl rfl) fun a25 H25 => ?_
  clear H24
  refine h_op H25 rfl (wn rfl) (R_fa H25 rfl rfl (fr_2 _ _)) rfl (P5 27 25 4 3 0 rfl rfl rfl rfl rfl) fun a26 H26 => ?_
  clear H25
  refine h_stL ((g, rcells s n f, 85) :: L) H26 rfl (wn rfl) (R_st H26 rfl rfl rfl (st_int hL rfl)) (hL.put 2 _) fun a27 w27 H27 hL' => ?_
  replace hL := hL'
  clear H26 hL'
  refine h_end ?_
  repeat (go_not_at_region 5; go_step)
  refine wp_region_lit ?_
  refine h_op H27 rfl (wn rfl) (R_mv H27 rfl rfl) rfl (P3 28 4 3 rfl rfl rfl) fun a28 H28 => ?_
  clear H27
  refine h_op H28 rfl (wn rfl) (R_mv H28 rfl rfl) rfl (P3 29 28 3 rfl rfl rfl) fun a29 H29 => ?_
  clear H28
  refine h_op H29 rfl (wn rfl) (R_nc H29 rfl rfl) rfl (P3 30 29 3 rfl rfl rfl) fun a30 H30 => ?_
  clear H29
  refine h_op H30 rfl (wn rfl) (R_fa H30 rfl rfl (fr_1 _ _)) rfl (P3 31 29 3 rfl rfl rfl) fun a31 H31 => ?_
  clear H30
  refine h_stL ((g, rcells s n' f, 85) :: L) H31 rfl (wn rfl) (R_st H31 rfl rfl rfl (st_int hL rfl)) (hL.put 1 _) fun a32 w32 H32 hL' => ?_
  replace hL := hL'
  clear H31 hL'
  refine h_end ?_
  repeat (go_not_at_region 6; go_step)
  refine wp_region_lit ?_
  refine h_op H32 rfl (wn rfl) (R_mv H32 rfl rfl) rfl (P1 32 rfl) fun a33 H33 => ?_
  clear H32
  refine h_op H33 rfl (wn rfl) (R_as H33 rfl rfl) rfl (P1 2 rfl) fun a34 H34 => ?_
  clear H33
  refine h_end ?_
  repeat (go_not_at_region 999; go_step)
  refine H34.ret1 rfl rfl ?_
  rw [hE]
  exact ⟨rfl, hL⟩
theorem Bi_sub1 {w : World} {X Y : Operand} (x : Nat) (h : x < 9223372036854775807) : ((do eqGuard .sub 3 X Y (.int .i64 (x + 1 : Nat)) (.int .i64 1); binOp .sub 3 (.int .i64 (x + 1 : Nat)) (.int .i64 1)) : Sem Value).run Try.prog w = .ok (.int .i64 (x : Nat)) w := by
  have e : IntKind.i64.wrap (((x + 1 : Nat) : Int) - 1) = (x : Int) := (i64_id (by omega) (by omega)).trans (by omega)
  simp [go_sem] at e ⊢
  exact e
def byteE (s : ByteArray) (n : Nat) (b : Int) : Nat × Nat × Int :=
  if b ≠ 0 then (0, n, b) else if n = s.size then (0, n, 7) else ((bytesOf s).getD n 0, n + 1, 0)
set_option maxHeartbeats 4000000 in
set_option maxRecDepth 100000 in
theorem inByte_any (hs : s.size < 140737488351233) (hn : n ≤ s.size) (hL : Live w0 ((g, rcells s n b, 85) :: L) W) : Calls Try.prog 46 #[.pointer (some ⟨g, 0, none⟩)] W fun e W' => e = .returned (.int .u8 ((byteE s n b).1 : Nat)) ∧ Live w0 ((g, rcells s (byteE s n b).2.1 (byteE s n b).2.2, 85) :: L) W' := by
  go_enter Try.func46, Try.ntmps46
  refine wp_fr (n := 39) (m := [(0, _)]) ⟨rfl, rfl, by intro p hp; simp only [List.mem_cons, List.not_mem_nil, or_false] at hp; rcases hp with rfl <;> rfl⟩ fun a0 H0 => ?_
  repeat (go_not_at_region 0; go_step)
  refine wp_region_lit ?_
  refine h_op H0 rfl (wn rfl) (R_as H0 rfl rfl) rfl (P1 0 rfl) fun a1 H1 => ?_
  clear H0
  refine h_end ?_
  by_cases hb : b = 0
  rotate_left
  · repeat (go_not_at_region 1; go_step)
    refine wp_region_lit ?_
    refine h_op H1 rfl (wn rfl) (R_mv H1 rfl rfl) rfl (P1 3 rfl) fun a2 H2 => ?_
    clear H1
    refine h_op H2 rfl (wn rfl) (R_nc H2 rfl rfl) rfl (P1 4 rfl) fun a3 H3 => ?_
    clear H2
    refine h_op H3 rfl (wn rfl) (R_fa H3 rfl rfl (fr_2 _ _)) rfl (P1 5 rfl) fun a4 H4 => ?_
    clear H3
    refine h_op H4 rfl (wn rfl) (R_ld H4 rfl rfl (ld_int (hL.cell 2))) rfl (P1 6 rfl) fun a5 H5 => ?_
    clear H4
    refine h_op H5 rfl (wn rfl) (R_bin H5 rfl rfl rfl (B_to (y := true) (B_ne Try.underlying3 _ _) (bne_iff_ne.2 hb))) rfl (P1 7 rfl) fun a6 H6 => ?_
    clear H5
    refine h_end ?_
    repeat (go_not_at_region 2; go_step)
    refine wp_cond_true (H6.ev (x := .tmp 7) rfl) ?_
    repeat (go_not_at_region 2; go_step)
    refine wp_region_lit ?_
    refine h_op H6 rfl (wn rfl) (R_as H6 rfl rfl) rfl (P1 2 rfl) fun a7 H7 => ?_
    clear H6
    refine h_end ?_
    have hE : byteE s n b = (0, n, b) := by unfold byteE; rw [if_pos hb]
    repeat (go_not_at_region 999; go_step)
    refine H7.ret1 rfl rfl ?_
    rw [hE]
    exact ⟨rfl, hL⟩
  subst hb
  repeat (go_not_at_region 1; go_step)
  refine wp_region_lit ?_
  refine h_op H1 rfl (wn rfl) (R_mv H1 rfl rfl) rfl (P2 3 0 rfl rfl) fun a2 H2 => ?_
  clear H1
  refine h_op H2 rfl (wn rfl) (R_nc H2 rfl rfl) rfl (P2 4 0 rfl rfl) fun a3 H3 => ?_
  clear H2
  refine h_op H3 rfl (wn rfl) (R_fa H3 rfl rfl (fr_2 _ _)) rfl (P2 5 0 rfl rfl) fun a4 H4 => ?_
  clear H3
  refine h_op H4 rfl (wn rfl) (R_ld H4 rfl rfl (ld_int (hL.cell 2))) rfl (P2 6 0 rfl rfl) fun a5 H5 => ?_
  clear H4
  refine h_op H5 rfl (wn rfl) (R_bin H5 rfl rfl rfl (B_to (y := false) (B_ne Try.underlying3 _ _) (by decide))) rfl (P2 7 0 rfl rfl) fun a6 H6 => ?_
  clear H5
  refine h_end ?_
  repeat (go_not_at_region 3; go_step)
  refine wp_cond_false (H6.ev (x := .tmp 7) rfl) ?_
  repeat (go_not_at_region 3; go_step)
  by_cases he : n = s.size
  · refine wp_region_held_drew (S := fun w' => Live w0 ((g, rcells s n 0, 85) :: L) w') (by kernel_rfl) hL.drew (fun hL' => ?_)
    replace hL := hL'
    clear hL'
    refine a_op 0 H6 rfl rfl (by kernel_rfl) (by kernel_rfl) (by kernel_rfl) (fun _ _ _ h => h) (wn rfl) (fun w hL => R_mv H6 rfl rfl) hL rfl (P2 8 0 rfl rfl) fun a7 H7 => ?_
    clear H6
    refine a_op 4 H7 rfl rfl (by kernel_rfl) (by kernel_rfl) (by kernel_rfl) (fun _ _ _ h => h) (wn rfl) (fun w hL => R_mv H7 rfl rfl) hL rfl (P3 12 8 0 rfl rfl rfl) fun a8 H8 => ?_
    clear H7
    refine a_op 1 H8 rfl rfl (by kernel_rfl) (by kernel_rfl) (by kernel_rfl) (fun _ _ _ h => h) (wn rfl) (fun w hL => R_nc H8 rfl rfl) hL rfl (P3 9 12 0 rfl rfl rfl) fun a9 H9 => ?_
    clear H8
    refine a_op 5 H9 rfl rfl (by kernel_rfl) (by kernel_rfl) (by kernel_rfl) (fun _ _ _ h => h) (wn rfl) (fun w hL => R_nc H9 rfl rfl) hL rfl (P3 13 9 0 rfl rfl rfl) fun a10 H10 => ?_
    clear H9
    refine a_op 2 H10 rfl rfl (by kernel_rfl) (by kernel_rfl) (by kernel_rfl) (fun _ _ _ h => h) (wn rfl) (fun w hL => R_fa H10 rfl rfl (fr_1 _ _)) hL rfl (P3 10 13 0 rfl rfl rfl) fun a11 H11 => ?_
    clear H10
    refine a_op 6 H11 rfl rfl (by kernel_rfl) (by kernel_rfl) (by kernel_rfl) (fun _ _ _ h => h) (wn rfl) (fun w hL => R_fa H11 rfl rfl (fr_0 _ _)) hL rfl (P3 14 10 0 rfl rfl rfl) fun a12 H12 => ?_
    clear H11
    refine a_op 3 H12 rfl rfl (by kernel_rfl) (by kernel_rfl) (by kernel_rfl) (fun _ _ _ h => h) (wn rfl) (fun w hL => R_ld H12 rfl rfl (ld_int (hL.cell 1))) hL rfl (P3 11 14 0 rfl rfl rfl) fun a13 H13 => ?_
    clear H12
    refine a_op 7 H13 rfl rfl (by kernel_rfl) (by kernel_rfl) (by kernel_rfl) (fun _ _ _ h => h) (wn rfl) (fun w hL => R_ld H13 rfl rfl (ld_str (hL.cell 0))) hL rfl (P3 15 11 0 rfl rfl rfl) fun a14 H14 => ?_
    clear H13
    refine a_op 8 H14 rfl rfl (by kernel_rfl) (by kernel_rfl) (by kernel_rfl) (fun _ _ _ h => h) (wn rfl) (fun w hL => R_len H14 rfl rfl Try.underlying9) hL rfl (P3 16 11 0 rfl rfl rfl) fun a15 H15 => ?_
    clear H14
    refine a_op 9 H15 rfl rfl (by kernel_rfl) (by kernel_rfl) (by kernel_rfl) (fun _ _ _ h => h) (wn rfl) (fun w hL => R_bin H15 rfl rfl rfl (B_to (y := true) (B_eq Try.underlying3 _ _) (beq_iff_eq.2 (by omega)))) hL rfl (P2 17 0 rfl rfl) fun a16 H16 => ?_
    clear H15
    refine wpAnyH_done (by kernel_rfl) ?_ _
    repeat (go_not_at_region 4; go_step)
    refine wp_cond_true (H16.ev (x := .tmp 17) rfl) ?_
    repeat (go_not_at_region 4; go_step)
    refine wp_region_lit ?_
    refine h_op H16 rfl (wn rfl) (R_mv H16 rfl rfl) rfl (P2 18 0 rfl rfl) fun a17 H17 => ?_
    clear H16
    refine h_op H17 rfl (wn rfl) (R_nc H17 rfl rfl) rfl (P2 19 0 rfl rfl) fun a18 H18 => ?_
    clear H17
    refine h_op H18 rfl (wn rfl) (R_fa H18 rfl rfl (fr_2 _ _)) rfl (P2 20 0 rfl rfl) fun a19 H19 => ?_
    clear H18
    refine h_stL ((g, rcells s n 7, 85) :: L) H19 rfl (wn rfl) (R_st H19 rfl rfl rfl (st_int hL rfl)) (hL.put 2 _) fun a20 w20 H20 hL' => ?_
    replace hL := hL'
    clear H19 hL'
    refine h_end ?_
    repeat (go_not_at_region 5; go_step)
    refine wp_region_lit ?_
    refine h_op H20 rfl (wn rfl) (R_as H20 rfl rfl) rfl (P1 2 rfl) fun a21 H21 => ?_
    clear H20
    refine h_end ?_
    have hE : byteE s n 0 = (0, n, 7) := by unfold byteE; rw [if_neg (by decide), if_pos he]
    repeat (go_not_at_region 999; go_step)
    refine H21.ret1 rfl rfl ?_
    rw [hE]
    exact ⟨rfl, hL⟩
  · refine wp_region_held_drew (S := fun w' => Live w0 ((g, rcells s n 0, 85) :: L) w') (by kernel_rfl) hL.drew (fun hL' => ?_)
    replace hL := hL'
    clear hL'
    refine a_op 0 H6 rfl rfl (by kernel_rfl) (by kernel_rfl) (by kernel_rfl) (fun _ _ _ h => h) (wn rfl) (fun w hL => R_mv H6 rfl rfl) hL rfl (P2 8 0 rfl rfl) fun a7 H7 => ?_
    clear H6
    refine a_op 4 H7 rfl rfl (by kernel_rfl) (by kernel_rfl) (by kernel_rfl) (fun _ _ _ h => h) (wn rfl) (fun w hL => R_mv H7 rfl rfl) hL rfl (P3 12 8 0 rfl rfl rfl) fun a8 H8 => ?_
    clear H7
    refine a_op 1 H8 rfl rfl (by kernel_rfl) (by kernel_rfl) (by kernel_rfl) (fun _ _ _ h => h) (wn rfl) (fun w hL => R_nc H8 rfl rfl) hL rfl (P3 9 12 0 rfl rfl rfl) fun a9 H9 => ?_
    clear H8
    refine a_op 5 H9 rfl rfl (by kernel_rfl) (by kernel_rfl) (by kernel_rfl) (fun _ _ _ h => h) (wn rfl) (fun w hL => R_nc H9 rfl rfl) hL rfl (P3 13 9 0 rfl rfl rfl) fun a10 H10 => ?_
    clear H9
    refine a_op 2 H10 rfl rfl (by kernel_rfl) (by kernel_rfl) (by kernel_rfl) (fun _ _ _ h => h) (wn rfl) (fun w hL => R_fa H10 rfl rfl (fr_1 _ _)) hL rfl (P3 10 13 0 rfl rfl rfl) fun a11 H11 => ?_
    clear H10
    refine a_op 6 H11 rfl rfl (by kernel_rfl) (by kernel_rfl) (by kernel_rfl) (fun _ _ _ h => h) (wn rfl) (fun w hL => R_fa H11 rfl rfl (fr_0 _ _)) hL rfl (P3 14 10 0 rfl rfl rfl) fun a12 H12 => ?_
    clear H11
    refine a_op 3 H12 rfl rfl (by kernel_rfl) (by kernel_rfl) (by kernel_rfl) (fun _ _ _ h => h) (wn rfl) (fun w hL => R_ld H12 rfl rfl (ld_int (hL.cell 1))) hL rfl (P3 11 14 0 rfl rfl rfl) fun a13 H13 => ?_
    clear H12
    refine a_op 7 H13 rfl rfl (by kernel_rfl) (by kernel_rfl) (by kernel_rfl) (fun _ _ _ h => h) (wn rfl) (fun w hL => R_ld H13 rfl rfl (ld_str (hL.cell 0))) hL rfl (P3 15 11 0 rfl rfl rfl) fun a14 H14 => ?_
    clear H13
    refine a_op 8 H14 rfl rfl (by kernel_rfl) (by kernel_rfl) (by kernel_rfl) (fun _ _ _ h => h) (wn rfl) (fun w hL => R_len H14 rfl rfl Try.underlying9) hL rfl (P3 16 11 0 rfl rfl rfl) fun a15 H15 => ?_
    clear H14
    refine a_op 9 H15 rfl rfl (by kernel_rfl) (by kernel_rfl) (by kernel_rfl) (fun _ _ _ h => h) (wn rfl) (fun w hL => R_bin H15 rfl rfl rfl (B_to (y := false) (B_eq Try.underlying3 _ _) (beq_eq_false_iff_ne.2 (by omega)))) hL rfl (P2 17 0 rfl rfl) fun a16 H16 => ?_
    clear H15
    refine wpAnyH_done (by kernel_rfl) ?_ _
    repeat (go_not_at_region 6; go_step)
    refine wp_cond_false (H16.ev (x := .tmp 17) rfl) ?_
    have hlt : n < s.size := by omega
    have hg : (bytesOf s).getD n 0 = (s[n]'hlt).toNat := by
      rw [List.getD_eq_getElem?_getD, List.getElem?_eq_getElem (by rw [bytes_size]; exact hlt)]
      simp [bytesOf]
      rfl
    repeat (go_not_at_region 6; go_step)
    refine wp_region_lit ?_
    refine h_op H16 rfl (wn rfl) (R_mv H16 rfl rfl) rfl (P2 21 0 rfl rfl) fun a17 H17 => ?_
    clear H16
    refine h_op H17 rfl (wn rfl) (R_mv H17 rfl rfl) rfl (P3 22 21 0 rfl rfl rfl) fun a18 H18 => ?_
    clear H17
    refine h_op H18 rfl (wn rfl) (R_nc H18 rfl rfl) rfl (P3 23 21 0 rfl rfl rfl) fun a19 H19 => ?_
    clear H18
    refine h_op H19 rfl (wn rfl) (R_fa H19 rfl rfl (fr_1 _ _)) rfl (P3 24 21 0 rfl rfl rfl) fun a20 H20 => ?_
    clear H19
    refine h_op H20 rfl (wn rfl) (R_ld H20 rfl rfl (ld_int (hL.cell 1))) rfl (P3 25 21 0 rfl rfl rfl) fun a21 H21 => ?_
    clear H20
    refine h_op H21 rfl (wn rfl) (R_bin H21 rfl rfl rfl (Bi_addB n 1 (by omega))) rfl (P3 26 21 0 rfl rfl rfl) fun a22 H22 => ?_
    clear H21
    refine h_op H22 rfl (wn rfl) (R_nc H22 rfl rfl) rfl (P3 27 26 0 rfl rfl rfl) fun a23 H23 => ?_
    clear H22
    refine h_op H23 rfl (wn rfl) (R_fa H23 rfl rfl (fr_1 _ _)) rfl (P3 28 26 0 rfl rfl rfl) fun a24 H24 => ?_
    clear H23
    refine h_stL ((g, rcells s (n + 1) 0, 85) :: L) H24 rfl (wn rfl) (R_st H24 rfl rfl rfl (st_int hL rfl)) (hL.put 1 _) fun a25 w25 H25 hL' => ?_
    replace hL := hL'
    clear H24 hL'
    refine h_end ?_
    repeat (go_not_at_region 7; go_step)
    refine wp_region_held_drew (S := fun w' => Live w0 ((g, rcells s (n + 1) 0, 85) :: L) w') (by kernel_rfl) hL.drew (fun hL' => ?_)
    replace hL := hL'
    clear hL'
    refine a_op 0 H25 rfl rfl (by kernel_rfl) (by kernel_rfl) (by kernel_rfl) (fun _ _ _ h => h) (wn rfl) (fun w hL => R_mv H25 rfl rfl) hL rfl (P2 29 0 rfl rfl) fun a26 H26 => ?_
    clear H25
    refine a_op 4 H26 rfl rfl (by kernel_rfl) (by kernel_rfl) (by kernel_rfl) (fun _ _ _ h => h) (wn rfl) (fun w hL => R_mv H26 rfl rfl) hL rfl (P2 33 29 rfl rfl) fun a27 H27 => ?_
    clear H26
    refine a_op 1 H27 rfl rfl (by kernel_rfl) (by kernel_rfl) (by kernel_rfl) (fun _ _ _ h => h) (wn rfl) (fun w hL => R_nc H27 rfl rfl) hL rfl (P2 30 33 rfl rfl) fun a28 H28 => ?_
    clear H27
    refine a_op 5 H28 rfl rfl (by kernel_rfl) (by kernel_rfl) (by kernel_rfl) (fun _ _ _ h => h) (wn rfl) (fun w hL => R_nc H28 rfl rfl) hL rfl (P2 34 30 rfl rfl) fun a29 H29 => ?_
    clear H28
    refine a_op 2 H29 rfl rfl (by kernel_rfl) (by kernel_rfl) (by kernel_rfl) (fun _ _ _ h => h) (wn rfl) (fun w hL => R_fa H29 rfl rfl (fr_0 _ _)) hL rfl (P2 31 34 rfl rfl) fun a30 H30 => ?_
    clear H29
    refine a_op 6 H30 rfl rfl (by kernel_rfl) (by kernel_rfl) (by kernel_rfl) (fun _ _ _ h => h) (wn rfl) (fun w hL => R_fa H30 rfl rfl (fr_1 _ _)) hL rfl (P2 35 31 rfl rfl) fun a31 H31 => ?_
    clear H30
    refine a_op 3 H31 rfl rfl (by kernel_rfl) (by kernel_rfl) (by kernel_rfl) (fun _ _ _ h => h) (wn rfl) (fun w hL => R_ld H31 rfl rfl (ld_str (hL.cell 0))) hL rfl (P2 32 35 rfl rfl) fun a32 H32 => ?_
    clear H31
    refine a_op 7 H32 rfl rfl (by kernel_rfl) (by kernel_rfl) (by kernel_rfl) (fun _ _ _ h => h) (wn rfl) (fun w hL => R_ld H32 rfl rfl (ld_int (hL.cell 1))) hL rfl (P2 36 32 rfl rfl) fun a33 H33 => ?_
    clear H32
    refine a_op 8 H33 rfl rfl (by kernel_rfl) (by kernel_rfl) (by kernel_rfl) (fun _ _ _ h => h) (wn rfl) (fun w hL => R_bin H33 rfl rfl rfl (Bi_sub1 n (by omega))) hL rfl (P2 37 32 rfl rfl) fun a34 H34 => ?_
    clear H33
    refine a_op 9 H34 rfl rfl (by kernel_rfl) (by kernel_rfl) (by kernel_rfl) (fun _ _ _ h => h) (wn rfl) (fun w hL => R_ix H34 rfl rfl rfl (ix_str hlt)) hL rfl (P1 38 rfl) fun a35 H35 => ?_
    clear H34
    refine a_op 10 H35 rfl rfl (by kernel_rfl) (by kernel_rfl) (by kernel_rfl) (fun _ _ _ h => h) (wn rfl) (fun w hL => R_as H35 rfl rfl) hL rfl (P1 2 rfl) fun a36 H36 => ?_
    clear H35
    refine wpAnyH_done (by kernel_rfl) ?_ _
    have hE : byteE s n 0 = ((s[n]'hlt).toNat, n + 1, 0) := by unfold byteE; rw [if_neg (by decide), if_neg he, hg]
    repeat (go_not_at_region 999; go_step)
    refine H36.ret1 rfl rfl ?_
    rw [hE]
    exact ⟨rfl, hL⟩
theorem B64_gtN {w : World} {X Y : Operand} (x y : Nat) : ((do eqGuard .gtr 22 X Y (.int .u64 (x : Nat)) (.int .u64 (y : Nat)); binOp .gtr 22 (.int .u64 (x : Nat)) (.int .u64 (y : Nat))) : Sem Value).run Try.prog w = .ok (.bool (decide (x > y))) w := by
  have e : decide ((x : Int) > (y : Int)) = decide (x > y) := by
    rw [Bool.eq_iff_iff, decide_eq_true_iff, decide_eq_true_iff]
    omega
  simp [go_sem] at e ⊢
theorem cv64_i {w : World} (x : Nat) (h : x < 9223372036854775808) : (convert 22 3 (.int .u64 (x : Nat))).run Try.prog w = .ok (.int .i64 (x : Nat)) w := by
  have e : IntKind.i64.wrap (x : Int) = x := i64_id (by omega) (by omega)
  simp [go_sem, e]
theorem rd_err {l : List Nat} : ∀ {i acc : Nat} {f : Int}, rd i acc l = .error f → f ≠ 0 := by
  induction l with
  | nil =>
    intro i acc f h
    unfold rd at h
    split at h <;> (cases h; decide)
  | cons c t ih =>
    intro i acc f h
    unfold rd at h
    repeat' split at h
    all_goals first | (cases h; decide) | exact ih h | cases h
def mostE (s : ByteArray) (n : Nat) (b : Int) (m : Nat) : Nat × Nat × Int :=
  if b ≠ 0 then (0, n, b) else match rd 0 0 ((bytesOf s).drop n) with
  | .ok (v, z) => if v ≤ m then (v, n + z, 0) else (0, n, 8)
  | .error f => (0, n, f)
set_option maxHeartbeats 4000000 in
set_option maxRecDepth 100000 in
theorem inMost_any {m : Nat} (hm : m < 9223372036854775808) (hs : s.size < 140737488351233) (hn : n ≤ s.size) (hL : Live w0 ((g, rcells s n b, 85) :: L) W) : Calls Try.prog 47 #[.pointer (some ⟨g, 0, none⟩), .int .i64 (m : Nat)] W fun e W' => e = .returned (.int .i64 ((mostE s n b m).1 : Nat)) ∧ Live w0 ((g, rcells s (mostE s n b m).2.1 (mostE s n b m).2.2, 85) :: L) W' := by
  go_enter Try.func47, Try.ntmps47
  refine wp_fr (n := 50) (m := [(0, _), (1, _)]) ⟨rfl, rfl, by intro p hp; simp only [List.mem_cons, List.not_mem_nil, or_false] at hp; rcases hp with rfl | rfl <;> rfl⟩ fun a0 H0 => ?_
  repeat (go_not_at_region 0; go_step)
  refine wp_region_lit ?_
  refine h_op H0 rfl (wn rfl) (R_as H0 rfl rfl) rfl (P2 0 1 rfl rfl) fun a1 H1 => ?_
  clear H0
  refine h_end ?_
  by_cases hb : b = 0
  rotate_left
  · repeat (go_not_at_region 1; go_step)
    refine wp_region_lit ?_
    refine h_op H1 rfl (wn rfl) (R_mv H1 rfl rfl) rfl (P1 8 rfl) fun a2 H2 => ?_
    clear H1
    refine h_op H2 rfl (wn rfl) (R_nc H2 rfl rfl) rfl (P1 9 rfl) fun a3 H3 => ?_
    clear H2
    refine h_op H3 rfl (wn rfl) (R_fa H3 rfl rfl (fr_2 _ _)) rfl (P1 10 rfl) fun a4 H4 => ?_
    clear H3
    refine h_op H4 rfl (wn rfl) (R_ld H4 rfl rfl (ld_int (hL.cell 2))) rfl (P1 11 rfl) fun a5 H5 => ?_
    clear H4
    refine h_op H5 rfl (wn rfl) (R_bin H5 rfl rfl rfl (B_to (y := true) (B_ne Try.underlying3 _ _) (bne_iff_ne.2 hb))) rfl (P1 12 rfl) fun a6 H6 => ?_
    clear H5
    refine h_end ?_
    repeat (go_not_at_region 2; go_step)
    refine wp_cond_true (H6.ev (x := .tmp 12) rfl) ?_
    repeat (go_not_at_region 2; go_step)
    refine wp_region_lit ?_
    refine h_op H6 rfl (wn rfl) (R_as H6 rfl rfl) rfl (P1 4 rfl) fun a7 H7 => ?_
    clear H6
    refine h_end ?_
    have hE : mostE s n b m = (0, n, b) := by unfold mostE; rw [if_pos hb]
    repeat (go_not_at_region 999; go_step)
    refine H7.ret1 rfl rfl ?_
    rw [hE]
    exact ⟨rfl, hL⟩
  subst hb
  repeat (go_not_at_region 1; go_step)
  refine wp_region_lit ?_
  refine h_op H1 rfl (wn rfl) (R_mv H1 rfl rfl) rfl (P3 8 0 1 rfl rfl rfl) fun a2 H2 => ?_
  clear H1
  refine h_op H2 rfl (wn rfl) (R_nc H2 rfl rfl) rfl (P3 9 0 1 rfl rfl rfl) fun a3 H3 => ?_
  clear H2
  refine h_op H3 rfl (wn rfl) (R_fa H3 rfl rfl (fr_2 _ _)) rfl (P3 10 0 1 rfl rfl rfl) fun a4 H4 => ?_
  clear H3
  refine h_op H4 rfl (wn rfl) (R_ld H4 rfl rfl (ld_int (hL.cell 2))) rfl (P3 11 0 1 rfl rfl rfl) fun a5 H5 => ?_
  clear H4
  refine h_op H5 rfl (wn rfl) (R_bin H5 rfl rfl rfl (B_to (y := false) (B_ne Try.underlying3 _ _) (by decide))) rfl (P3 12 0 1 rfl rfl rfl) fun a6 H6 => ?_
  clear H5
  refine h_end ?_
  repeat (go_not_at_region 3; go_step)
  refine wp_cond_false (H6.ev (x := .tmp 12) rfl) ?_
  repeat (go_not_at_region 3; go_step)
  obtain ⟨r, hr⟩ : ∃ r, r = readE s n := ⟨_, rfl⟩
  have hq := fun w => rRead_any (W := w) hs hn
  rw [← hr] at hq
  unfold readE at hr
  cases hrd : rd 0 0 ((bytesOf s).drop n) with
  | error f =>
    rw [hrd] at hr
    subst hr
    have hf := rd_err hrd
    have hE : mostE s n 0 m = (0, n, f) := by unfold mostE; rw [if_neg (by decide), hrd]
    refine wp_region_held_drew (S := fun w' => Live w0 ((g, rcells s n 0, 85) :: L) w') (by kernel_rfl) hL.drew (fun hL' => ?_)
    replace hL := hL'
    clear hL'
    refine a_op 0 H6 rfl rfl (by kernel_rfl) (by kernel_rfl) (by kernel_rfl) (fun _ _ _ h => h) (wn rfl) (fun w hL => R_mv H6 rfl rfl) hL rfl (P3 14 0 1 rfl rfl rfl) fun a7 H7 => ?_
    clear H6
    refine a_op 4 H7 rfl rfl (by kernel_rfl) (by kernel_rfl) (by kernel_rfl) (fun _ _ _ h => h) (wn rfl) (fun w hL => R_mv H7 rfl rfl) hL rfl (P4 18 14 0 1 rfl rfl rfl rfl) fun a8 H8 => ?_
    clear H7
    refine a_op 1 H8 rfl rfl (by kernel_rfl) (by kernel_rfl) (by kernel_rfl) (fun _ _ _ h => h) (wn rfl) (fun w hL => R_nc H8 rfl rfl) hL rfl (P4 15 18 0 1 rfl rfl rfl rfl) fun a9 H9 => ?_
    clear H8
    refine a_op 5 H9 rfl rfl (by kernel_rfl) (by kernel_rfl) (by kernel_rfl) (fun _ _ _ h => h) (wn rfl) (fun w hL => R_nc H9 rfl rfl) hL rfl (P4 19 15 0 1 rfl rfl rfl rfl) fun a10 H10 => ?_
    clear H9
    refine a_op 2 H10 rfl rfl (by kernel_rfl) (by kernel_rfl) (by kernel_rfl) (fun _ _ _ h => h) (wn rfl) (fun w hL => R_fa H10 rfl rfl (fr_0 _ _)) hL rfl (P4 16 19 0 1 rfl rfl rfl rfl) fun a11 H11 => ?_
    clear H10
    refine a_op 6 H11 rfl rfl (by kernel_rfl) (by kernel_rfl) (by kernel_rfl) (fun _ _ _ h => h) (wn rfl) (fun w hL => R_fa H11 rfl rfl (fr_1 _ _)) hL rfl (P4 20 16 0 1 rfl rfl rfl rfl) fun a12 H12 => ?_
    clear H11
    refine a_op 3 H12 rfl rfl (by kernel_rfl) (by kernel_rfl) (by kernel_rfl) (fun _ _ _ h => h) (wn rfl) (fun w hL => R_ld H12 rfl rfl (ld_str (hL.cell 0))) hL rfl (P4 17 20 0 1 rfl rfl rfl rfl) fun a13 H13 => ?_
    clear H12
    refine a_op 7 H13 rfl rfl (by kernel_rfl) (by kernel_rfl) (by kernel_rfl) (fun _ _ _ h => h) (wn rfl) (fun w hL => R_ld H13 rfl rfl (ld_int (hL.cell 1))) hL rfl (P4 21 17 0 1 rfl rfl rfl rfl) fun a14 H14 => ?_
    clear H13
    refine a_all1 8 (by kernel_rfl) ?_
    refine o_callB 8 H14 rfl rfl (wn rfl) (R_call2 H14 rfl rfl rfl (fun w => by simp [go_sem])) rfl hL (hq _) (P3 22 0 1 rfl rfl rfl) fun a15 w15 H15 hL' => ⟨hL', ?_⟩
    replace hL := hL'
    clear H14 hL'
    refine a_op 9 H15 rfl rfl (by kernel_rfl) (by kernel_rfl) (by kernel_rfl) (fun _ _ _ h => h) (wn rfl) (fun w hL => R_mv H15 rfl rfl) hL rfl (P3 13 0 1 rfl rfl rfl) fun a16 H16 => ?_
    clear H15
    refine a_op 10 H16 rfl rfl (by kernel_rfl) (by kernel_rfl) (by kernel_rfl) (fun _ _ _ h => h) (wn rfl) (fun w hL => R_ext H16 rfl rfl rfl) hL rfl (P4 23 13 0 1 rfl rfl rfl rfl) fun a17 H17 => ?_
    clear H16
    refine a_op 11 H17 rfl rfl (by kernel_rfl) (by kernel_rfl) (by kernel_rfl) (fun _ _ _ h => h) (wn rfl) (fun w hL => R_ext H17 rfl rfl rfl) hL rfl (P5 24 23 13 0 1 rfl rfl rfl rfl rfl) fun a18 H18 => ?_
    clear H17
    refine a_op 12 H18 rfl rfl (by kernel_rfl) (by kernel_rfl) (by kernel_rfl) (fun _ _ _ h => h) (wn rfl) (fun w hL => R_ext H18 rfl rfl rfl) hL rfl (P5 25 24 23 0 1 rfl rfl rfl rfl rfl) fun a19 H19 => ?_
    clear H18
    refine a_op 13 H19 rfl rfl (by kernel_rfl) (by kernel_rfl) (by kernel_rfl) (fun _ _ _ h => h) (wn rfl) (fun w hL => R_as H19 rfl rfl) hL rfl (P5 5 25 24 0 1 rfl rfl rfl rfl rfl) fun a20 H20 => ?_
    clear H19
    refine a_op 14 H20 rfl rfl (by kernel_rfl) (by kernel_rfl) (by kernel_rfl) (fun _ _ _ h => h) (wn rfl) (fun w hL => R_as H20 rfl rfl) hL rfl (P5 6 5 25 0 1 rfl rfl rfl rfl rfl) fun a21 H21 => ?_
    clear H20
    refine a_op 15 H21 rfl rfl (by kernel_rfl) (by kernel_rfl) (by kernel_rfl) (fun _ _ _ h => h) (wn rfl) (fun w hL => R_as H21 rfl rfl) hL rfl (P5 7 6 5 0 1 rfl rfl rfl rfl rfl) fun a22 H22 => ?_
    clear H21
    refine wpAnyH_done (by kernel_rfl) ?_ _
    repeat (go_not_at_region 4; go_step)
    refine wp_region_lit ?_
    refine h_op H22 rfl (wn rfl) (R_mv H22 rfl rfl) rfl (P6 26 7 6 5 0 1 rfl rfl rfl rfl rfl rfl) fun a23 H23 => ?_
    clear H22
    refine h_op H23 rfl (wn rfl) (R_bin H23 rfl rfl rfl (B_to (y := false) (B_eq Try.underlying3 _ _) (beq_eq_false_iff_ne.2 hf))) rfl (P6 27 7 6 5 0 1 rfl rfl rfl rfl rfl rfl) fun a24 H24 => ?_
    clear H23
    refine h_op H24 rfl (wn rfl) (R_mv H24 rfl rfl) rfl (P6 28 7 6 5 0 1 rfl rfl rfl rfl rfl rfl) fun a25 H25 => ?_
    clear H24
    refine h_skip H25 rfl (H25.wf rfl rfl rfl) rfl (P7 29 28 7 6 5 0 1 rfl rfl rfl rfl rfl rfl rfl) fun a26 H26 => ?_
    clear H25
    refine h_skip H26 rfl (H26.wf rfl rfl rfl) rfl (P7 30 28 7 6 5 0 1 rfl rfl rfl rfl rfl rfl rfl) fun a27 H27 => ?_
    clear H26
    refine h_skip H27 rfl (H27.wf rfl rfl rfl) rfl (P7 31 28 7 6 5 0 1 rfl rfl rfl rfl rfl rfl rfl) fun a28 H28 => ?_
    clear H27
    refine h_skip H28 rfl (H28.wu rfl rfl rfl) rfl (P8 32 31 28 7 6 5 0 1 rfl rfl rfl rfl rfl rfl rfl rfl) fun a29 H29 => ?_
    clear H28
    refine h_skip H29 rfl (H29.wu rfl rfl rfl) rfl (P9 33 32 31 28 7 6 5 0 1 rfl rfl rfl rfl rfl rfl rfl rfl rfl) fun a30 H30 => ?_
    clear H29
    refine h_skip H30 rfl (H30.wu rfl rfl rfl) rfl (P9 34 32 31 28 7 6 5 0 1 rfl rfl rfl rfl rfl rfl rfl rfl rfl) fun a31 H31 => ?_
    clear H30
    refine h_skip H31 rfl (H31.wu rfl rfl rfl) rfl (P8 35 31 28 7 6 5 0 1 rfl rfl rfl rfl rfl rfl rfl rfl) fun a32 H32 => ?_
    clear H31
    refine h_skip H32 rfl (H32.wf rfl rfl rfl) rfl (P7 36 28 7 6 5 0 1 rfl rfl rfl rfl rfl rfl rfl) fun a33 H33 => ?_
    clear H32
    refine h_op H33 rfl (wn rfl) (R_pick H33 rfl rfl rfl) rfl (P6 37 7 6 5 0 1 rfl rfl rfl rfl rfl rfl) fun a34 H34 => ?_
    clear H33
    refine h_end ?_
    repeat (go_not_at_region 6; go_step)
    refine wp_cond_false (H34.ev (x := .tmp 37) rfl) ?_
    repeat (go_not_at_region 6; go_step)
    refine wp_region_lit ?_
    refine h_op H34 rfl (wn rfl) (R_mv H34 rfl rfl) rfl (P3 38 7 0 rfl rfl rfl) fun a35 H35 => ?_
    clear H34
    refine h_op H35 rfl (wn rfl) (R_bin H35 rfl rfl rfl (B_to (y := true) (B_ne Try.underlying3 _ _) (bne_iff_ne.2 hf))) rfl (P3 39 7 0 rfl rfl rfl) fun a36 H36 => ?_
    clear H35
    refine h_end ?_
    repeat (go_not_at_region 7; go_step)
    refine wp_cond_true (H36.ev (x := .tmp 39) rfl) ?_
    repeat (go_not_at_region 7; go_step)
    refine wp_region_lit ?_
    refine h_op H36 rfl (wn rfl) (R_mv H36 rfl rfl) rfl (P3 40 7 0 rfl rfl rfl) fun a37 H37 => ?_
    clear H36
    refine h_op H37 rfl (wn rfl) (R_mv H37 rfl rfl) rfl (P3 41 40 0 rfl rfl rfl) fun a38 H38 => ?_
    clear H37
    refine h_op H38 rfl (wn rfl) (R_nc H38 rfl rfl) rfl (P3 42 41 0 rfl rfl rfl) fun a39 H39 => ?_
    clear H38
    refine h_op H39 rfl (wn rfl) (R_fa H39 rfl rfl (fr_2 _ _)) rfl (P3 43 41 0 rfl rfl rfl) fun a40 H40 => ?_
    clear H39
    refine h_stL ((g, rcells s n f, 85) :: L) H40 rfl (wn rfl) (R_st H40 rfl rfl rfl (st_int hL rfl)) (hL.put 2 _) fun a41 w41 H41 hL' => ?_
    replace hL := hL'
    clear H40 hL'
    refine h_end ?_
    repeat (go_not_at_region 8; go_step)
    refine wp_region_lit ?_
    refine h_op H41 rfl (wn rfl) (R_as H41 rfl rfl) rfl (P1 4 rfl) fun a42 H42 => ?_
    clear H41
    refine h_end ?_
    repeat (go_not_at_region 999; go_step)
    refine H42.ret1 rfl rfl ?_
    rw [hE]
    exact ⟨rfl, hL⟩
  | ok x =>
    obtain ⟨v, z⟩ := x
    rw [hrd] at hr
    subst hr
    refine wp_region_held_drew (S := fun w' => Live w0 ((g, rcells s n 0, 85) :: L) w') (by kernel_rfl) hL.drew (fun hL' => ?_)
    replace hL := hL'
    clear hL'
    refine a_op 0 H6 rfl rfl (by kernel_rfl) (by kernel_rfl) (by kernel_rfl) (fun _ _ _ h => h) (wn rfl) (fun w hL => R_mv H6 rfl rfl) hL rfl (P3 14 0 1 rfl rfl rfl) fun a7 H7 => ?_
    clear H6
    refine a_op 4 H7 rfl rfl (by kernel_rfl) (by kernel_rfl) (by kernel_rfl) (fun _ _ _ h => h) (wn rfl) (fun w hL => R_mv H7 rfl rfl) hL rfl (P4 18 14 0 1 rfl rfl rfl rfl) fun a8 H8 => ?_
    clear H7
    refine a_op 1 H8 rfl rfl (by kernel_rfl) (by kernel_rfl) (by kernel_rfl) (fun _ _ _ h => h) (wn rfl) (fun w hL => R_nc H8 rfl rfl) hL rfl (P4 15 18 0 1 rfl rfl rfl rfl) fun a9 H9 => ?_
    clear H8
    refine a_op 5 H9 rfl rfl (by kernel_rfl) (by kernel_rfl) (by kernel_rfl) (fun _ _ _ h => h) (wn rfl) (fun w hL => R_nc H9 rfl rfl) hL rfl (P4 19 15 0 1 rfl rfl rfl rfl) fun a10 H10 => ?_
    clear H9
    refine a_op 2 H10 rfl rfl (by kernel_rfl) (by kernel_rfl) (by kernel_rfl) (fun _ _ _ h => h) (wn rfl) (fun w hL => R_fa H10 rfl rfl (fr_0 _ _)) hL rfl (P4 16 19 0 1 rfl rfl rfl rfl) fun a11 H11 => ?_
    clear H10
    refine a_op 6 H11 rfl rfl (by kernel_rfl) (by kernel_rfl) (by kernel_rfl) (fun _ _ _ h => h) (wn rfl) (fun w hL => R_fa H11 rfl rfl (fr_1 _ _)) hL rfl (P4 20 16 0 1 rfl rfl rfl rfl) fun a12 H12 => ?_
    clear H11
    refine a_op 3 H12 rfl rfl (by kernel_rfl) (by kernel_rfl) (by kernel_rfl) (fun _ _ _ h => h) (wn rfl) (fun w hL => R_ld H12 rfl rfl (ld_str (hL.cell 0))) hL rfl (P4 17 20 0 1 rfl rfl rfl rfl) fun a13 H13 => ?_
    clear H12
    refine a_op 7 H13 rfl rfl (by kernel_rfl) (by kernel_rfl) (by kernel_rfl) (fun _ _ _ h => h) (wn rfl) (fun w hL => R_ld H13 rfl rfl (ld_int (hL.cell 1))) hL rfl (P4 21 17 0 1 rfl rfl rfl rfl) fun a14 H14 => ?_
    clear H13
    refine a_all1 8 (by kernel_rfl) ?_
    refine o_callB 8 H14 rfl rfl (wn rfl) (R_call2 H14 rfl rfl rfl (fun w => by simp [go_sem])) rfl hL (hq _) (P3 22 0 1 rfl rfl rfl) fun a15 w15 H15 hL' => ⟨hL', ?_⟩
    replace hL := hL'
    clear H14 hL'
    refine a_op 9 H15 rfl rfl (by kernel_rfl) (by kernel_rfl) (by kernel_rfl) (fun _ _ _ h => h) (wn rfl) (fun w hL => R_mv H15 rfl rfl) hL rfl (P3 13 0 1 rfl rfl rfl) fun a16 H16 => ?_
    clear H15
    refine a_op 10 H16 rfl rfl (by kernel_rfl) (by kernel_rfl) (by kernel_rfl) (fun _ _ _ h => h) (wn rfl) (fun w hL => R_ext H16 rfl rfl rfl) hL rfl (P4 23 13 0 1 rfl rfl rfl rfl) fun a17 H17 => ?_
    clear H16
    refine a_op 11 H17 rfl rfl (by kernel_rfl) (by kernel_rfl) (by kernel_rfl) (fun _ _ _ h => h) (wn rfl) (fun w hL => R_ext H17 rfl rfl rfl) hL rfl (P5 24 23 13 0 1 rfl rfl rfl rfl rfl) fun a18 H18 => ?_
    clear H17
    refine a_op 12 H18 rfl rfl (by kernel_rfl) (by kernel_rfl) (by kernel_rfl) (fun _ _ _ h => h) (wn rfl) (fun w hL => R_ext H18 rfl rfl rfl) hL rfl (P5 25 24 23 0 1 rfl rfl rfl rfl rfl) fun a19 H19 => ?_
    clear H18
    refine a_op 13 H19 rfl rfl (by kernel_rfl) (by kernel_rfl) (by kernel_rfl) (fun _ _ _ h => h) (wn rfl) (fun w hL => R_as H19 rfl rfl) hL rfl (P5 5 25 24 0 1 rfl rfl rfl rfl rfl) fun a20 H20 => ?_
    clear H19
    refine a_op 14 H20 rfl rfl (by kernel_rfl) (by kernel_rfl) (by kernel_rfl) (fun _ _ _ h => h) (wn rfl) (fun w hL => R_as H20 rfl rfl) hL rfl (P5 6 5 25 0 1 rfl rfl rfl rfl rfl) fun a21 H21 => ?_
    clear H20
    refine a_op 15 H21 rfl rfl (by kernel_rfl) (by kernel_rfl) (by kernel_rfl) (fun _ _ _ h => h) (wn rfl) (fun w hL => R_as H21 rfl rfl) hL rfl (P5 7 6 5 0 1 rfl rfl rfl rfl rfl) fun a22 H22 => ?_
    clear H21
    refine wpAnyH_done (by kernel_rfl) ?_ _
    by_cases hv : v ≤ m
    · have hE : mostE s n 0 m = (v, n + z, 0) := by unfold mostE; rw [if_neg (by decide), hrd]; exact if_pos hv
      repeat (go_not_at_region 4; go_step)
      refine wp_region_lit ?_
      refine h_op H22 rfl (wn rfl) (R_mv H22 rfl rfl) rfl (P6 26 7 6 5 0 1 rfl rfl rfl rfl rfl rfl) fun a23 H23 => ?_
      clear H22
      refine h_op H23 rfl (wn rfl) (R_bin H23 rfl rfl rfl (B_to (y := true) (B_eq Try.underlying3 _ _) (by decide))) rfl (P6 27 7 6 5 0 1 rfl rfl rfl rfl rfl rfl) fun a24 H24 => ?_
      clear H23
      refine h_op H24 rfl (wn rfl) (R_mv H24 rfl rfl) rfl (P6 28 7 6 5 0 1 rfl rfl rfl rfl rfl rfl) fun a25 H25 => ?_
      clear H24
      refine h_op H25 rfl (H25.wt rfl rfl rfl) (R_mv H25 rfl rfl) rfl (P7 29 28 7 6 5 0 1 rfl rfl rfl rfl rfl rfl rfl) fun a26 H26 => ?_
      clear H25
      refine h_op H26 rfl (H26.wt rfl rfl rfl) (R_bin H26 rfl rfl rfl (B_to (y := false) (B_lt Try.underlying3 _ _) (decide_eq_false (by omega)))) rfl (P7 30 28 7 6 5 0 1 rfl rfl rfl rfl rfl rfl rfl) fun a27 H27 => ?_
      clear H26
      refine h_op H27 rfl (H27.wt rfl rfl rfl) (R_mv H27 rfl rfl) rfl (P7 31 28 7 6 5 0 1 rfl rfl rfl rfl rfl rfl rfl) fun a28 H28 => ?_
      clear H27
      refine h_op H28 rfl (H28.wt rfl rfl rfl) (R_mv H28 rfl rfl) rfl (P8 32 31 28 7 6 5 0 1 rfl rfl rfl rfl rfl rfl rfl rfl) fun a29 H29 => ?_
      clear H28
      refine h_op H29 rfl (H29.wt rfl rfl rfl) (R_mv H29 rfl rfl) rfl (P9 33 32 31 28 7 6 5 0 1 rfl rfl rfl rfl rfl rfl rfl rfl rfl) fun a30 H30 => ?_
      clear H29
      refine h_op H30 rfl (H30.wt rfl rfl rfl) (R_cv H30 rfl rfl (cvi_u64 _ hm)) rfl (P9 34 32 31 28 7 6 5 0 1 rfl rfl rfl rfl rfl rfl rfl rfl rfl) fun a31 H31 => ?_
      clear H30
      refine h_op H31 rfl (H31.wt rfl rfl rfl) (R_bin H31 rfl rfl rfl (B_to (y := false) (B64_gtN _ _) (decide_eq_false (by omega)))) rfl (P8 35 31 28 7 6 5 0 1 rfl rfl rfl rfl rfl rfl rfl rfl) fun a32 H32 => ?_
      clear H31
      refine h_op H32 rfl (H32.wt rfl rfl rfl) (R_pick H32 rfl rfl rfl) rfl (P7 36 28 7 6 5 0 1 rfl rfl rfl rfl rfl rfl rfl) fun a33 H33 => ?_
      clear H32
      refine h_op H33 rfl (wn rfl) (R_pick H33 rfl rfl rfl) rfl (P6 37 7 6 5 0 1 rfl rfl rfl rfl rfl rfl) fun a34 H34 => ?_
      clear H33
      refine h_end ?_
      repeat (go_not_at_region 6; go_step)
      refine wp_cond_false (H34.ev (x := .tmp 37) rfl) ?_
      repeat (go_not_at_region 6; go_step)
      refine wp_region_lit ?_
      refine h_op H34 rfl (wn rfl) (R_mv H34 rfl rfl) rfl (P4 38 6 5 0 rfl rfl rfl rfl) fun a35 H35 => ?_
      clear H34
      refine h_op H35 rfl (wn rfl) (R_bin H35 rfl rfl rfl (B_to (y := false) (B_ne Try.underlying3 _ _) (by decide))) rfl (P4 39 6 5 0 rfl rfl rfl rfl) fun a36 H36 => ?_
      clear H35
      refine h_end ?_
      repeat (go_not_at_region 9; go_step)
      refine wp_cond_false (H36.ev (x := .tmp 39) rfl) ?_
      repeat (go_not_at_region 9; go_step)
      refine wp_region_lit ?_
      refine h_op H36 rfl (wn rfl) (R_mv H36 rfl rfl) rfl (P3 44 6 5 rfl rfl rfl) fun a37 H37 => ?_
      clear H36
      refine h_op H37 rfl (wn rfl) (R_mv H37 rfl rfl) rfl (P3 45 44 5 rfl rfl rfl) fun a38 H38 => ?_
      clear H37
      refine h_op H38 rfl (wn rfl) (R_nc H38 rfl rfl) rfl (P3 46 45 5 rfl rfl rfl) fun a39 H39 => ?_
      clear H38
      refine h_op H39 rfl (wn rfl) (R_fa H39 rfl rfl (fr_1 _ _)) rfl (P3 47 45 5 rfl rfl rfl) fun a40 H40 => ?_
      clear H39
      refine h_stL ((g, rcells s (n + z) 0, 85) :: L) H40 rfl (wn rfl) (R_st H40 rfl rfl rfl (st_int hL rfl)) (hL.put 1 _) fun a41 w41 H41 hL' => ?_
      replace hL := hL'
      clear H40 hL'
      refine h_end ?_
      repeat (go_not_at_region 10; go_step)
      refine wp_region_lit ?_
      refine h_op H41 rfl (wn rfl) (R_mv H41 rfl rfl) rfl (P1 48 rfl) fun a42 H42 => ?_
      clear H41
      refine h_op H42 rfl (wn rfl) (R_cv H42 rfl rfl (cv64_i _ (by omega))) rfl (P1 49 rfl) fun a43 H43 => ?_
      clear H42
      refine h_op H43 rfl (wn rfl) (R_as H43 rfl rfl) rfl (P1 4 rfl) fun a44 H44 => ?_
      clear H43
      refine h_end ?_
      repeat (go_not_at_region 999; go_step)
      refine H44.ret1 rfl rfl ?_
      rw [hE]
      exact ⟨rfl, hL⟩
    · have hE : mostE s n 0 m = (0, n, 8) := by unfold mostE; rw [if_neg (by decide), hrd]; exact if_neg hv
      repeat (go_not_at_region 4; go_step)
      refine wp_region_lit ?_
      refine h_op H22 rfl (wn rfl) (R_mv H22 rfl rfl) rfl (P6 26 7 6 5 0 1 rfl rfl rfl rfl rfl rfl) fun a23 H23 => ?_
      clear H22
      refine h_op H23 rfl (wn rfl) (R_bin H23 rfl rfl rfl (B_to (y := true) (B_eq Try.underlying3 _ _) (by decide))) rfl (P6 27 7 6 5 0 1 rfl rfl rfl rfl rfl rfl) fun a24 H24 => ?_
      clear H23
      refine h_op H24 rfl (wn rfl) (R_mv H24 rfl rfl) rfl (P6 28 7 6 5 0 1 rfl rfl rfl rfl rfl rfl) fun a25 H25 => ?_
      clear H24
      refine h_op H25 rfl (H25.wt rfl rfl rfl) (R_mv H25 rfl rfl) rfl (P7 29 28 7 6 5 0 1 rfl rfl rfl rfl rfl rfl rfl) fun a26 H26 => ?_
      clear H25
      refine h_op H26 rfl (H26.wt rfl rfl rfl) (R_bin H26 rfl rfl rfl (B_to (y := false) (B_lt Try.underlying3 _ _) (decide_eq_false (by omega)))) rfl (P7 30 28 7 6 5 0 1 rfl rfl rfl rfl rfl rfl rfl) fun a27 H27 => ?_
      clear H26
      refine h_op H27 rfl (H27.wt rfl rfl rfl) (R_mv H27 rfl rfl) rfl (P7 31 28 7 6 5 0 1 rfl rfl rfl rfl rfl rfl rfl) fun a28 H28 => ?_
      clear H27
      refine h_op H28 rfl (H28.wt rfl rfl rfl) (R_mv H28 rfl rfl) rfl (P8 32 31 28 7 6 5 0 1 rfl rfl rfl rfl rfl rfl rfl rfl) fun a29 H29 => ?_
      clear H28
      refine h_op H29 rfl (H29.wt rfl rfl rfl) (R_mv H29 rfl rfl) rfl (P9 33 32 31 28 7 6 5 0 1 rfl rfl rfl rfl rfl rfl rfl rfl rfl) fun a30 H30 => ?_
      clear H29
      refine h_op H30 rfl (H30.wt rfl rfl rfl) (R_cv H30 rfl rfl (cvi_u64 _ hm)) rfl (P9 34 32 31 28 7 6 5 0 1 rfl rfl rfl rfl rfl rfl rfl rfl rfl) fun a31 H31 => ?_
      clear H30
      refine h_op H31 rfl (H31.wt rfl rfl rfl) (R_bin H31 rfl rfl rfl (B_to (y := true) (B64_gtN _ _) (decide_eq_true (by omega)))) rfl (P8 35 31 28 7 6 5 0 1 rfl rfl rfl rfl rfl rfl rfl rfl) fun a32 H32 => ?_
      clear H31
      refine h_op H32 rfl (H32.wt rfl rfl rfl) (R_pick H32 rfl rfl rfl) rfl (P7 36 28 7 6 5 0 1 rfl rfl rfl rfl rfl rfl rfl) fun a33 H33 => ?_
      clear H32
      refine h_op H33 rfl (wn rfl) (R_pick H33 rfl rfl rfl) rfl (P6 37 7 6 5 0 1 rfl rfl rfl rfl rfl rfl) fun a34 H34 => ?_
      clear H33
      refine h_end ?_
      repeat (go_not_at_region 5; go_step)
      refine wp_cond_true (H34.ev (x := .tmp 37) rfl) ?_
      repeat (go_not_at_region 5; go_step)
      refine wp_region_lit ?_
      refine h_op H34 rfl (wn rfl) (R_as H34 rfl rfl) rfl (P2 7 0 rfl rfl) fun a35 H35 => ?_
      clear H34
      refine h_end ?_
      repeat (go_not_at_region 6; go_step)
      refine wp_region_lit ?_
      refine h_op H35 rfl (wn rfl) (R_mv H35 rfl rfl) rfl (P3 38 7 0 rfl rfl rfl) fun a36 H36 => ?_
      clear H35
      refine h_op H36 rfl (wn rfl) (R_bin H36 rfl rfl rfl (B_to (y := true) (B_ne Try.underlying3 _ _) (by decide))) rfl (P3 39 7 0 rfl rfl rfl) fun a37 H37 => ?_
      clear H36
      refine h_end ?_
      repeat (go_not_at_region 7; go_step)
      refine wp_cond_true (H37.ev (x := .tmp 39) rfl) ?_
      repeat (go_not_at_region 7; go_step)
      refine wp_region_lit ?_
      refine h_op H37 rfl (wn rfl) (R_mv H37 rfl rfl) rfl (P3 40 7 0 rfl rfl rfl) fun a38 H38 => ?_
      clear H37
      refine h_op H38 rfl (wn rfl) (R_mv H38 rfl rfl) rfl (P3 41 40 0 rfl rfl rfl) fun a39 H39 => ?_
      clear H38
      refine h_op H39 rfl (wn rfl) (R_nc H39 rfl rfl) rfl (P3 42 41 0 rfl rfl rfl) fun a40 H40 => ?_
      clear H39
      refine h_op H40 rfl (wn rfl) (R_fa H40 rfl rfl (fr_2 _ _)) rfl (P3 43 41 0 rfl rfl rfl) fun a41 H41 => ?_
      clear H40
      refine h_stL ((g, rcells s n 8, 85) :: L) H41 rfl (wn rfl) (R_st H41 rfl rfl rfl (st_int hL rfl)) (hL.put 2 _) fun a42 w42 H42 hL' => ?_
      replace hL := hL'
      clear H41 hL'
      refine h_end ?_
      repeat (go_not_at_region 8; go_step)
      refine wp_region_lit ?_
      refine h_op H42 rfl (wn rfl) (R_as H42 rfl rfl) rfl (P1 4 rfl) fun a43 H43 => ?_
      clear H42
      refine h_end ?_
      repeat (go_not_at_region 999; go_step)
      refine H43.ret1 rfl rfl ?_
      rw [hE]
      exact ⟨rfl, hL⟩
end
end Go.Proofs.Ytmmhchpilcjflaa

/-
  meterref02.In: texts and integers, by the document.
-/
namespace Go.Proofs.Ytmmhchpilcjflaa
open Go.RowKit
theorem rd_place {s : ByteArray} {n v z : Nat} (hn : n ≤ s.size) (h : rd 0 0 ((bytesOf s).drop n) = .ok (v, z)) : n + z ≤ s.size := by
  rcases rd_gv ((bytesOf s).drop n) 0 0 (by decide) with ⟨v', z', h1, _, _, h4, _⟩ | ⟨h1, _⟩ | ⟨h1, _⟩
  · rw [h] at h1
    cases h1
    rw [List.length_drop, bytes_size] at h4
    omega
  · rw [h] at h1
    cases h1
  · rw [h] at h1
    cases h1
theorem numE_le {s : ByteArray} {n : Nat} {b : Int} (hn : n ≤ s.size) : (numE s n b).2.1 ≤ s.size := by
  unfold numE
  split
  · exact hn
  · split
    · rename_i h
      exact rd_place hn h
    · exact hn
theorem mostE_le {s : ByteArray} {n m : Nat} {b : Int} (hn : n ≤ s.size) : (mostE s n b m).2.1 ≤ s.size := by
  unfold mostE
  split
  · exact hn
  · split
    · rename_i h
      split
      · exact rd_place hn h
      · exact hn
    · exact hn
theorem byteE_le {s : ByteArray} {n : Nat} {b : Int} (hn : n ≤ s.size) : (byteE s n b).2.1 ≤ s.size := by
  unfold byteE
  split
  · exact hn
  · split
    · exact hn
    · show n + 1 ≤ s.size
      omega
section
variable {w : World}
theorem B64_rem2 {X Y : Operand} (x : Nat) : ((do eqGuard .rem 22 X Y (.int .u64 (x : Nat)) (.int .u64 2); binOp .rem 22 (.int .u64 (x : Nat)) (.int .u64 2)) : Sem Value).run Try.prog w = .ok (.int .u64 (x % 2 : Nat)) w := by
  have e : (x : Int).tmod 2 = ((x % 2 : Nat) : Int) := Int.tmod_eq_emod_of_nonneg (by omega)
  simp [go_sem, e]
theorem B64_quo2 {X Y : Operand} (x : Nat) (h : x < 18446744073709551616) : ((do eqGuard .quo 22 X Y (.int .u64 (x : Nat)) (.int .u64 2); binOp .quo 22 (.int .u64 (x : Nat)) (.int .u64 2)) : Sem Value).run Try.prog w = .ok (.int .u64 (x / 2 : Nat)) w := by
  have e : (x : Int).tdiv 2 = ((x / 2 : Nat) : Int) := Int.tdiv_eq_ediv_of_nonneg (by omega)
  have e2 : IntKind.u64.wrap ((x : Int) / 2) = (x : Int) / 2 := u64_id (by omega) (by omega)
  simp [go_sem, e, e2]
theorem B64_eq0 {X Y : Operand} (x : Nat) : ((do eqGuard .eql 22 X Y (.int .u64 (x : Nat)) (.int .u64 0); binOp .eql 22 (.int .u64 (x : Nat)) (.int .u64 0)) : Sem Value).run Try.prog w = .ok (.bool (decide (x = 0))) w := by
  have e3 : ((x : Int) == 0) = decide (x = 0) := by
    rw [Bool.eq_iff_iff, beq_iff_eq, decide_eq_true_iff]
    omega
  simp [go_sem] at e3 ⊢
  try exact e3
theorem cv64_l (x : Nat) (h : x < 9223372036854775808) : (convert 22 2 (.int .u64 (x : Nat))).run Try.prog w = .ok (.int .i64 (x : Nat)) w := by
  have e : IntKind.i64.wrap (x : Int) = x := i64_id (by omega) (by omega)
  simp [go_sem, e]
theorem Bl_dec {X Y : Operand} (x : Int) (h0 : -9223372036854775808 < x) (h1 : x < 9223372036854775808) : ((do eqGuard .sub 2 X Y (.int .i64 x) (.int .i64 1); binOp .sub 2 (.int .i64 x) (.int .i64 1)) : Sem Value).run Try.prog w = .ok (.int .i64 (x - 1)) w := by
  have e : IntKind.i64.wrap (x - 1) = x - 1 := i64_id (by omega) (by omega)
  simp [go_sem, e]
end
section
variable {w0 W : World} {L : List Blk} {g n : Nat} {s : ByteArray} {b : Int}
set_option maxRecDepth 100000 in
theorem rZag_any {v : Nat} (hv : v < 18446744073709551616) : Calls Try.prog 65 #[.int .u64 (v : Nat)] W fun e W' => e = .returned (.int .i64 (zag v)) ∧ W' = W := by
  go_enter Try.func65, Try.ntmps65
  refine wp_fr (n := 14) (m := [(0, _)]) ⟨rfl, rfl, by intro p hp; simp only [List.mem_cons, List.not_mem_nil, or_false] at hp; rcases hp with rfl <;> rfl⟩ fun a0 H0 => ?_
  repeat (go_not_at_region 0; go_step)
  refine wp_region_lit ?_
  refine h_op H0 rfl (wn rfl) (R_as H0 rfl rfl) rfl (P1 0 rfl) fun a1 H1 => ?_
  clear H0
  refine h_end ?_
  by_cases h : v % 2 = 0
  · repeat (go_not_at_region 1; go_step)
    refine wp_region_lit ?_
    refine h_op H1 rfl (wn rfl) (R_mv H1 rfl rfl) rfl (P2 3 0 rfl rfl) fun a2 H2 => ?_
    clear H1
    refine h_op H2 rfl (wn rfl) (R_bin H2 rfl rfl rfl (B64_rem2 _)) rfl (P2 4 0 rfl rfl) fun a3 H3 => ?_
    clear H2
    refine h_op H3 rfl (wn rfl) (R_bin H3 rfl rfl rfl (B_to (y := true) (B64_eq0 _) (decide_eq_true h))) rfl (P2 5 0 rfl rfl) fun a4 H4 => ?_
    clear H3
    refine h_end ?_
    repeat (go_not_at_region 2; go_step)
    refine wp_cond_true (H4.ev (x := .tmp 5) rfl) ?_
    repeat (go_not_at_region 2; go_step)
    refine wp_region_lit ?_
    refine h_op H4 rfl (wn rfl) (R_mv H4 rfl rfl) rfl (P1 6 rfl) fun a5 H5 => ?_
    clear H4
    refine h_op H5 rfl (wn rfl) (R_bin H5 rfl rfl rfl (B64_quo2 _ hv)) rfl (P1 7 rfl) fun a6 H6 => ?_
    clear H5
    refine h_op H6 rfl (wn rfl) (R_cv H6 rfl rfl (cv64_l _ (by omega))) rfl (P1 8 rfl) fun a7 H7 => ?_
    clear H6
    refine h_op H7 rfl (wn rfl) (R_as H7 rfl rfl) rfl (P1 2 rfl) fun a8 H8 => ?_
    clear H7
    refine h_end ?_
    repeat (go_not_at_region 999; go_step)
    refine H8.ret1 rfl rfl ⟨?_, rfl⟩
    unfold zag
    rw [if_pos h]
  · repeat (go_not_at_region 1; go_step)
    refine wp_region_lit ?_
    refine h_op H1 rfl (wn rfl) (R_mv H1 rfl rfl) rfl (P2 3 0 rfl rfl) fun a2 H2 => ?_
    clear H1
    refine h_op H2 rfl (wn rfl) (R_bin H2 rfl rfl rfl (B64_rem2 _)) rfl (P2 4 0 rfl rfl) fun a3 H3 => ?_
    clear H2
    refine h_op H3 rfl (wn rfl) (R_bin H3 rfl rfl rfl (B_to (y := false) (B64_eq0 _) (decide_eq_false h))) rfl (P2 5 0 rfl rfl) fun a4 H4 => ?_
    clear H3
    refine h_end ?_
    repeat (go_not_at_region 3; go_step)
    refine wp_cond_false (H4.ev (x := .tmp 5) rfl) ?_
    repeat (go_not_at_region 3; go_step)
    refine wp_region_lit ?_
    refine h_op H4 rfl (wn rfl) (R_mv H4 rfl rfl) rfl (P1 9 rfl) fun a5 H5 => ?_
    clear H4
    refine h_op H5 rfl (wn rfl) (R_bin H5 rfl rfl rfl (B64_quo2 _ hv)) rfl (P1 10 rfl) fun a6 H6 => ?_
    clear H5
    refine h_op H6 rfl (wn rfl) (R_cv H6 rfl rfl (cv64_l _ (by omega))) rfl (P1 11 rfl) fun a7 H7 => ?_
    clear H6
    refine h_op H7 rfl (wn rfl) (R_un H7 rfl rfl (ng_i64 _ (by omega) (by omega))) rfl (P1 12 rfl) fun a8 H8 => ?_
    clear H7
    refine h_op H8 rfl (wn rfl) (R_bin H8 rfl rfl rfl (Bl_dec _ (by omega) (by omega))) rfl (P1 13 rfl) fun a9 H9 => ?_
    clear H8
    refine h_op H9 rfl (wn rfl) (R_as H9 rfl rfl) rfl (P1 2 rfl) fun a10 H10 => ?_
    clear H9
    refine h_end ?_
    repeat (go_not_at_region 999; go_step)
    refine H10.ret1 rfl rfl ⟨?_, rfl⟩
    unfold zag
    rw [if_neg h]
theorem Bi_subI {w : World} {X Y : Operand} (x y : Int) (h0 : -9223372036854775808 ≤ x - y) (h1 : x - y < 9223372036854775808) : ((do eqGuard .sub 3 X Y (.int .i64 x) (.int .i64 y); binOp .sub 3 (.int .i64 x) (.int .i64 y)) : Sem Value).run Try.prog w = .ok (.int .i64 (x - y)) w := by
  have e : IntKind.i64.wrap (x - y) = x - y := i64_id h0 h1
  simp [go_sem, e]
theorem sl_both {w : World} (s : ByteArray) (i j : Nat) (h : i ≤ j) (h2 : j ≤ s.size) : (Instr.sliceAt 9 (.string s) (some (.int .i64 (i : Nat))) (some (.int .i64 (j : Nat))) none).run Try.prog w = .ok (.string (s.extract i j)) w := by
  simp [go_sem, h, h2]
def textE (s : ByteArray) (n : Nat) (b : Int) (m : Nat) : ByteArray × Nat × Int :=
  if (mostE s n b m).2.2 ≠ 0 then (.empty, (mostE s n b m).2.1, (mostE s n b m).2.2)
  else if (mostE s n b m).1 ≤ s.size - (mostE s n b m).2.1 then (s.extract (mostE s n b m).2.1 ((mostE s n b m).2.1 + (mostE s n b m).1), (mostE s n b m).2.1 + (mostE s n b m).1, 0)
  else (.empty, n, 7)
set_option maxHeartbeats 4000000 in
set_option maxRecDepth 100000 in
theorem inText_any {m : Nat} (hm : m < 9223372036854775808) (hs : s.size < 140737488351233) (hn : n ≤ s.size) (hL : Live w0 ((g, rcells s n b, 85) :: L) W) : Calls Try.prog 50 #[.pointer (some ⟨g, 0, none⟩), .int .i64 (m : Nat)] W fun e W' => e = .returned (.string (textE s n b m).1) ∧ Live w0 ((g, rcells s (textE s n b m).2.1 (textE s n b m).2.2, 85) :: L) W' := by
  have hM := inMost_any hm hs hn hL
  have hle := mostE_le (m := m) (b := b) hn
  have hE0 : textE s n b m = textE s n b m := rfl
  obtain ⟨y, hy⟩ : ∃ y, y = textE s n b m := ⟨_, rfl⟩
  rw [← hy]
  unfold textE at hy
  clear hE0
  generalize mostE s n b m = q at hM hle hy
  obtain ⟨v, n', f⟩ := q
  simp only at hM hle hy
  go_enter Try.func50, Try.ntmps50
  refine wp_fr (n := 64) (m := [(0, _), (1, _)]) ⟨rfl, rfl, by intro p hp; simp only [List.mem_cons, List.not_mem_nil, or_false] at hp; rcases hp with rfl | rfl <;> rfl⟩ fun a0 H0 => ?_
  repeat (go_not_at_region 0; go_step)
  refine wp_region_lit ?_
  refine h_op H0 rfl (wn rfl) (R_as H0 rfl rfl) rfl (P2 0 1 rfl rfl) fun a1 H1 => ?_
  clear H0
  refine h_end ?_
  repeat (go_not_at_region 1; go_step)
  refine wp_region_lit ?_
  refine h_op H1 rfl (wn rfl) (R_mv H1 rfl rfl) rfl (P3 8 0 1 rfl rfl rfl) fun a2 H2 => ?_
  clear H1
  refine h_op H2 rfl (wn rfl) (R_nc H2 rfl rfl) rfl (P3 9 0 1 rfl rfl rfl) fun a3 H3 => ?_
  clear H2
  refine h_op H3 rfl (wn rfl) (R_fa H3 rfl rfl (fr_1 _ _)) rfl (P3 10 0 1 rfl rfl rfl) fun a4 H4 => ?_
  clear H3
  refine h_op H4 rfl (wn rfl) (R_ld H4 rfl rfl (ld_int (hL.cell 1))) rfl (P3 11 0 1 rfl rfl rfl) fun a5 H5 => ?_
  clear H4
  refine h_op H5 rfl (wn rfl) (R_as H5 rfl rfl) rfl (P3 5 0 1 rfl rfl rfl) fun a6 H6 => ?_
  clear H5
  refine h_end ?_
  repeat (go_not_at_region 2; go_step)
  refine wp_region_lit ?_
  refine h_op H6 rfl (wn rfl) (R_mv H6 rfl rfl) rfl (P4 12 5 0 1 rfl rfl rfl rfl) fun a7 H7 => ?_
  clear H6
  refine h_op H7 rfl (wn rfl) (R_mv H7 rfl rfl) rfl (P4 13 12 5 0 rfl rfl rfl rfl) fun a8 H8 => ?_
  clear H7
  refine h_call H8 rfl (wn rfl) (R_call2 H8 rfl rfl rfl (fun w => by simp [go_sem])) rfl ?_
  refine hM.mono ?_
  rintro e wx ⟨rfl, hL2⟩
  replace hL := hL2
  clear hL2 hM
  refine ⟨_, rfl, fun a9 HH => ?_⟩
  have H9 := HH _ (P3 14 5 0 rfl rfl rfl)
  clear HH H8
  refine h_op H9 rfl (wn rfl) (R_as H9 rfl rfl) rfl (P3 6 5 0 rfl rfl rfl) fun a10 H10 => ?_
  clear H9
  refine h_end ?_
  by_cases hf : f = 0
  rotate_left
  · rw [if_pos hf] at hy
    subst hy
    repeat (go_not_at_region 3; go_step)
    refine wp_region_lit ?_
    refine h_op H10 rfl (wn rfl) (R_mv H10 rfl rfl) rfl (P1 15 rfl) fun a11 H11 => ?_
    clear H10
    refine h_op H11 rfl (wn rfl) (R_nc H11 rfl rfl) rfl (P1 16 rfl) fun a12 H12 => ?_
    clear H11
    refine h_op H12 rfl (wn rfl) (R_fa H12 rfl rfl (fr_2 _ _)) rfl (P1 17 rfl) fun a13 H13 => ?_
    clear H12
    refine h_op H13 rfl (wn rfl) (R_ld H13 rfl rfl (ld_int (hL.cell 2))) rfl (P1 18 rfl) fun a14 H14 => ?_
    clear H13
    refine h_op H14 rfl (wn rfl) (R_bin H14 rfl rfl rfl (B_to (y := true) (B_ne Try.underlying3 _ _) (bne_iff_ne.2 hf))) rfl (P1 19 rfl) fun a15 H15 => ?_
    clear H14
    refine h_end ?_
    repeat (go_not_at_region 4; go_step)
    refine wp_cond_true (H15.ev (x := .tmp 19) rfl) ?_
    repeat (go_not_at_region 4; go_step)
    refine wp_region_lit ?_
    refine h_op H15 rfl (wn rfl) (R_as H15 rfl rfl) rfl (P1 4 rfl) fun a16 H16 => ?_
    clear H15
    refine h_end ?_
    repeat (go_not_at_region 999; go_step)
    exact H16.ret1 rfl rfl ⟨rfl, hL⟩
  subst hf
  rw [if_neg (by decide)] at hy
  repeat (go_not_at_region 3; go_step)
  refine wp_region_lit ?_
  refine h_op H10 rfl (wn rfl) (R_mv H10 rfl rfl) rfl (P4 15 6 5 0 rfl rfl rfl rfl) fun a11 H11 => ?_
  clear H10
  refine h_op H11 rfl (wn rfl) (R_nc H11 rfl rfl) rfl (P4 16 6 5 0 rfl rfl rfl rfl) fun a12 H12 => ?_
  clear H11
  refine h_op H12 rfl (wn rfl) (R_fa H12 rfl rfl (fr_2 _ _)) rfl (P4 17 6 5 0 rfl rfl rfl rfl) fun a13 H13 => ?_
  clear H12
  refine h_op H13 rfl (wn rfl) (R_ld H13 rfl rfl (ld_int (hL.cell 2))) rfl (P4 18 6 5 0 rfl rfl rfl rfl) fun a14 H14 => ?_
  clear H13
  refine h_op H14 rfl (wn rfl) (R_bin H14 rfl rfl rfl (B_to (y := false) (B_ne Try.underlying3 _ _) (by decide))) rfl (P4 19 6 5 0 rfl rfl rfl rfl) fun a15 H15 => ?_
  clear H14
  refine h_end ?_
  repeat (go_not_at_region 5; go_step)
  refine wp_cond_false (H15.ev (x := .tmp 19) rfl) ?_
  repeat (go_not_at_region 5; go_step)
  by_cases hv : v ≤ s.size - n'
  · rw [if_pos hv] at hy
    subst hy
    refine wp_region_held_drew (S := fun w' => Live w0 ((g, rcells s n' 0, 85) :: L) w') (by kernel_rfl) hL.drew (fun hL' => ?_)
    replace hL := hL'
    clear hL'
    refine a_op 0 H15 rfl rfl (by kernel_rfl) (by kernel_rfl) (by kernel_rfl) (fun _ _ _ h => h) (wn rfl) (fun w hL => R_mv H15 rfl rfl) hL rfl (P4 20 6 5 0 rfl rfl rfl rfl) fun a16 H16 => ?_
    clear H15
    refine a_op 1 H16 rfl rfl (by kernel_rfl) (by kernel_rfl) (by kernel_rfl) (fun _ _ _ h => h) (wn rfl) (fun w hL => R_mv H16 rfl rfl) hL rfl (P5 21 20 6 5 0 rfl rfl rfl rfl rfl) fun a17 H17 => ?_
    clear H16
    refine a_op 6 H17 rfl rfl (by kernel_rfl) (by kernel_rfl) (by kernel_rfl) (fun _ _ _ h => h) (wn rfl) (fun w hL => R_mv H17 rfl rfl) hL rfl (P6 26 21 20 6 5 0 rfl rfl rfl rfl rfl rfl) fun a18 H18 => ?_
    clear H17
    refine a_op 2 H18 rfl rfl (by kernel_rfl) (by kernel_rfl) (by kernel_rfl) (fun _ _ _ h => h) (wn rfl) (fun w hL => R_nc H18 rfl rfl) hL rfl (P6 22 26 20 6 5 0 rfl rfl rfl rfl rfl rfl) fun a19 H19 => ?_
    clear H18
    refine a_op 7 H19 rfl rfl (by kernel_rfl) (by kernel_rfl) (by kernel_rfl) (fun _ _ _ h => h) (wn rfl) (fun w hL => R_nc H19 rfl rfl) hL rfl (P6 27 22 20 6 5 0 rfl rfl rfl rfl rfl rfl) fun a20 H20 => ?_
    clear H19
    refine a_op 3 H20 rfl rfl (by kernel_rfl) (by kernel_rfl) (by kernel_rfl) (fun _ _ _ h => h) (wn rfl) (fun w hL => R_fa H20 rfl rfl (fr_0 _ _)) hL rfl (P6 23 27 20 6 5 0 rfl rfl rfl rfl rfl rfl) fun a21 H21 => ?_
    clear H20
    refine a_op 8 H21 rfl rfl (by kernel_rfl) (by kernel_rfl) (by kernel_rfl) (fun _ _ _ h => h) (wn rfl) (fun w hL => R_fa H21 rfl rfl (fr_1 _ _)) hL rfl (P6 28 23 20 6 5 0 rfl rfl rfl rfl rfl rfl) fun a22 H22 => ?_
    clear H21
    refine a_op 4 H22 rfl rfl (by kernel_rfl) (by kernel_rfl) (by kernel_rfl) (fun _ _ _ h => h) (wn rfl) (fun w hL => R_ld H22 rfl rfl (ld_str (hL.cell 0))) hL rfl (P6 24 28 20 6 5 0 rfl rfl rfl rfl rfl rfl) fun a23 H23 => ?_
    clear H22
    refine a_op 9 H23 rfl rfl (by kernel_rfl) (by kernel_rfl) (by kernel_rfl) (fun _ _ _ h => h) (wn rfl) (fun w hL => R_ld H23 rfl rfl (ld_int (hL.cell 1))) hL rfl (P6 29 24 20 6 5 0 rfl rfl rfl rfl rfl rfl) fun a24 H24 => ?_
    clear H23
    refine a_op 5 H24 rfl rfl (by kernel_rfl) (by kernel_rfl) (by kernel_rfl) (fun _ _ _ h => h) (wn rfl) (fun w hL => R_len H24 rfl rfl Try.underlying9) hL rfl (P6 25 29 20 6 5 0 rfl rfl rfl rfl rfl rfl) fun a25 H25 => ?_
    clear H24
    refine a_op 10 H25 rfl rfl (by kernel_rfl) (by kernel_rfl) (by kernel_rfl) (fun _ _ _ h => h) (wn rfl) (fun w hL => R_bin H25 rfl rfl rfl (Bi_subI _ _ (by omega) (by omega))) hL rfl (P5 30 20 6 5 0 rfl rfl rfl rfl rfl) fun a26 H26 => ?_
    clear H25
    refine a_op 11 H26 rfl rfl (by kernel_rfl) (by kernel_rfl) (by kernel_rfl) (fun _ _ _ h => h) (wn rfl) (fun w hL => R_bin H26 rfl rfl rfl (B_to (y := false) (B_gt Try.underlying3 _ _) (decide_eq_false (by omega)))) hL rfl (P4 31 6 5 0 rfl rfl rfl rfl) fun a27 H27 => ?_
    clear H26
    refine wpAnyH_done (by kernel_rfl) ?_ _
    repeat (go_not_at_region 9; go_step)
    refine wp_cond_false (H27.ev (x := .tmp 31) rfl) ?_
    repeat (go_not_at_region 9; go_step)
    refine wp_region_held_drew (S := fun w' => Live w0 ((g, rcells s n' 0, 85) :: L) w') (by kernel_rfl) hL.drew (fun hL' => ?_)
    replace hL := hL'
    clear hL'
    refine a_op 0 H27 rfl rfl (by kernel_rfl) (by kernel_rfl) (by kernel_rfl) (fun _ _ _ h => h) (wn rfl) (fun w hL => R_mv H27 rfl rfl) hL rfl (P3 39 6 0 rfl rfl rfl) fun a28 H28 => ?_
    clear H27
    refine a_op 4 H28 rfl rfl (by kernel_rfl) (by kernel_rfl) (by kernel_rfl) (fun _ _ _ h => h) (wn rfl) (fun w hL => R_mv H28 rfl rfl) hL rfl (P4 43 39 6 0 rfl rfl rfl rfl) fun a29 H29 => ?_
    clear H28
    refine a_op 8 H29 rfl rfl (by kernel_rfl) (by kernel_rfl) (by kernel_rfl) (fun _ _ _ h => h) (wn rfl) (fun w hL => R_mv H29 rfl rfl) hL rfl (P5 47 43 39 6 0 rfl rfl rfl rfl rfl) fun a30 H30 => ?_
    clear H29
    refine a_op 12 H30 rfl rfl (by kernel_rfl) (by kernel_rfl) (by kernel_rfl) (fun _ _ _ h => h) (wn rfl) (fun w hL => R_mv H30 rfl rfl) hL rfl (P6 51 47 43 39 6 0 rfl rfl rfl rfl rfl rfl) fun a31 H31 => ?_
    clear H30
    refine a_op 1 H31 rfl rfl (by kernel_rfl) (by kernel_rfl) (by kernel_rfl) (fun _ _ _ h => h) (wn rfl) (fun w hL => R_nc H31 rfl rfl) hL rfl (P6 40 51 47 43 6 0 rfl rfl rfl rfl rfl rfl) fun a32 H32 => ?_
    clear H31
    refine a_op 5 H32 rfl rfl (by kernel_rfl) (by kernel_rfl) (by kernel_rfl) (fun _ _ _ h => h) (wn rfl) (fun w hL => R_nc H32 rfl rfl) hL rfl (P6 44 40 51 47 6 0 rfl rfl rfl rfl rfl rfl) fun a33 H33 => ?_
    clear H32
    refine a_op 9 H33 rfl rfl (by kernel_rfl) (by kernel_rfl) (by kernel_rfl) (fun _ _ _ h => h) (wn rfl) (fun w hL => R_nc H33 rfl rfl) hL rfl (P6 48 44 40 51 6 0 rfl rfl rfl rfl rfl rfl) fun a34 H34 => ?_
    clear H33
    refine a_op 2 H34 rfl rfl (by kernel_rfl) (by kernel_rfl) (by kernel_rfl) (fun _ _ _ h => h) (wn rfl) (fun w hL => R_fa H34 rfl rfl (fr_0 _ _)) hL rfl (P6 41 48 44 51 6 0 rfl rfl rfl rfl rfl rfl) fun a35 H35 => ?_
    clear H34
    refine a_op 6 H35 rfl rfl (by kernel_rfl) (by kernel_rfl) (by kernel_rfl) (fun _ _ _ h => h) (wn rfl) (fun w hL => R_fa H35 rfl rfl (fr_1 _ _)) hL rfl (P6 45 41 48 51 6 0 rfl rfl rfl rfl rfl rfl) fun a36 H36 => ?_
    clear H35
    refine a_op 10 H36 rfl rfl (by kernel_rfl) (by kernel_rfl) (by kernel_rfl) (fun _ _ _ h => h) (wn rfl) (fun w hL => R_fa H36 rfl rfl (fr_1 _ _)) hL rfl (P6 49 45 41 51 6 0 rfl rfl rfl rfl rfl rfl) fun a37 H37 => ?_
    clear H36
    refine a_op 3 H37 rfl rfl (by kernel_rfl) (by kernel_rfl) (by kernel_rfl) (fun _ _ _ h => h) (wn rfl) (fun w hL => R_ld H37 rfl rfl (ld_str (hL.cell 0))) hL rfl (P6 42 49 45 51 6 0 rfl rfl rfl rfl rfl rfl) fun a38 H38 => ?_
    clear H37
    refine a_op 7 H38 rfl rfl (by kernel_rfl) (by kernel_rfl) (by kernel_rfl) (fun _ _ _ h => h) (wn rfl) (fun w hL => R_ld H38 rfl rfl (ld_int (hL.cell 1))) hL rfl (P6 46 42 49 51 6 0 rfl rfl rfl rfl rfl rfl) fun a39 H39 => ?_
    clear H38
    refine a_op 11 H39 rfl rfl (by kernel_rfl) (by kernel_rfl) (by kernel_rfl) (fun _ _ _ h => h) (wn rfl) (fun w hL => R_ld H39 rfl rfl (ld_int (hL.cell 1))) hL rfl (P6 50 46 42 51 6 0 rfl rfl rfl rfl rfl rfl) fun a40 H40 => ?_
    clear H39
    refine a_op 13 H40 rfl rfl (by kernel_rfl) (by kernel_rfl) (by kernel_rfl) (fun _ _ _ h => h) (wn rfl) (fun w hL => R_bin H40 rfl rfl rfl (Bi_addB _ _ (by omega))) hL rfl (P5 52 46 42 6 0 rfl rfl rfl rfl rfl) fun a41 H41 => ?_
    clear H40
    refine a_op 14 H41 rfl rfl (by kernel_rfl) (by kernel_rfl) (by kernel_rfl) (fun _ _ _ h => h) (wn rfl) (fun w hL => R_slb H41 rfl rfl rfl rfl (sl_both s n' (n' + v) (by omega) (by omega))) hL rfl (P3 53 6 0 rfl rfl rfl) fun a42 H42 => ?_
    clear H41
    refine a_op 15 H42 rfl rfl (by kernel_rfl) (by kernel_rfl) (by kernel_rfl) (fun _ _ _ h => h) (wn rfl) (fun w hL => R_as H42 rfl rfl) hL rfl (P3 7 6 0 rfl rfl rfl) fun a43 H43 => ?_
    clear H42
    refine wpAnyH_done (by kernel_rfl) ?_ _
    repeat (go_not_at_region 10; go_step)
    refine wp_region_lit ?_
    refine h_op H43 rfl (wn rfl) (R_mv H43 rfl rfl) rfl (P4 54 7 6 0 rfl rfl rfl rfl) fun a44 H44 => ?_
    clear H43
    refine h_op H44 rfl (wn rfl) (R_mv H44 rfl rfl) rfl (P4 55 54 7 6 rfl rfl rfl rfl) fun a45 H45 => ?_
    clear H44
    refine h_op H45 rfl (wn rfl) (R_nc H45 rfl rfl) rfl (P4 56 54 7 6 rfl rfl rfl rfl) fun a46 H46 => ?_
    clear H45
    refine h_op H46 rfl (wn rfl) (R_fa H46 rfl rfl (fr_1 _ _)) rfl (P4 57 54 7 6 rfl rfl rfl rfl) fun a47 H47 => ?_
    clear H46
    refine h_op H47 rfl (wn rfl) (R_ld H47 rfl rfl (ld_int (hL.cell 1))) rfl (P4 58 54 7 6 rfl rfl rfl rfl) fun a48 H48 => ?_
    clear H47
    refine h_op H48 rfl (wn rfl) (R_mv H48 rfl rfl) rfl (P4 59 58 54 7 rfl rfl rfl rfl) fun a49 H49 => ?_
    clear H48
    refine h_op H49 rfl (wn rfl) (R_bin H49 rfl rfl rfl (Bi_addB _ _ (by omega))) rfl (P3 60 54 7 rfl rfl rfl) fun a50 H50 => ?_
    clear H49
    refine h_op H50 rfl (wn rfl) (R_nc H50 rfl rfl) rfl (P3 61 60 7 rfl rfl rfl) fun a51 H51 => ?_
    clear H50
    refine h_op H51 rfl (wn rfl) (R_fa H51 rfl rfl (fr_1 _ _)) rfl (P3 62 60 7 rfl rfl rfl) fun a52 H52 => ?_
    clear H51
    refine h_stL ((g, rcells s (n' + v) 0, 85) :: L) H52 rfl (wn rfl) (R_st H52 rfl rfl rfl (st_int hL rfl)) (hL.put 1 _) fun a53 w53 H53 hL' => ?_
    replace hL := hL'
    clear H52 hL'
    refine h_end ?_
    repeat (go_not_at_region 11; go_step)
    refine wp_region_lit ?_
    refine h_op H53 rfl (wn rfl) (R_mv H53 rfl rfl) rfl (P1 63 rfl) fun a54 H54 => ?_
    clear H53
    refine h_op H54 rfl (wn rfl) (R_as H54 rfl rfl) rfl (P1 4 rfl) fun a55 H55 => ?_
    clear H54
    refine h_end ?_
    repeat (go_not_at_region 999; go_step)
    exact H55.ret1 rfl rfl ⟨rfl, hL⟩
  · rw [if_neg hv] at hy
    subst hy
    refine wp_region_held_drew (S := fun w' => Live w0 ((g, rcells s n' 0, 85) :: L) w') (by kernel_rfl) hL.drew (fun hL' => ?_)
    replace hL := hL'
    clear hL'
    refine a_op 0 H15 rfl rfl (by kernel_rfl) (by kernel_rfl) (by kernel_rfl) (fun _ _ _ h => h) (wn rfl) (fun w hL => R_mv H15 rfl rfl) hL rfl (P4 20 6 5 0 rfl rfl rfl rfl) fun a16 H16 => ?_
    clear H15
    refine a_op 1 H16 rfl rfl (by kernel_rfl) (by kernel_rfl) (by kernel_rfl) (fun _ _ _ h => h) (wn rfl) (fun w hL => R_mv H16 rfl rfl) hL rfl (P5 21 20 6 5 0 rfl rfl rfl rfl rfl) fun a17 H17 => ?_
    clear H16
    refine a_op 6 H17 rfl rfl (by kernel_rfl) (by kernel_rfl) (by kernel_rfl) (fun _ _ _ h => h) (wn rfl) (fun w hL => R_mv H17 rfl rfl) hL rfl (P6 26 21 20 6 5 0 rfl rfl rfl rfl rfl rfl) fun a18 H18 => ?_
    clear H17
    refine a_op 2 H18 rfl rfl (by kernel_rfl) (by kernel_rfl) (by kernel_rfl) (fun _ _ _ h => h) (wn rfl) (fun w hL => R_nc H18 rfl rfl) hL rfl (P6 22 26 20 6 5 0 rfl rfl rfl rfl rfl rfl) fun a19 H19 => ?_
    clear H18
    refine a_op 7 H19 rfl rfl (by kernel_rfl) (by kernel_rfl) (by kernel_rfl) (fun _ _ _ h => h) (wn rfl) (fun w hL => R_nc H19 rfl rfl) hL rfl (P6 27 22 20 6 5 0 rfl rfl rfl rfl rfl rfl) fun a20 H20 => ?_
    clear H19
    refine a_op 3 H20 rfl rfl (by kernel_rfl) (by kernel_rfl) (by kernel_rfl) (fun _ _ _ h => h) (wn rfl) (fun w hL => R_fa H20 rfl rfl (fr_0 _ _)) hL rfl (P6 23 27 20 6 5 0 rfl rfl rfl rfl rfl rfl) fun a21 H21 => ?_
    clear H20
    refine a_op 8 H21 rfl rfl (by kernel_rfl) (by kernel_rfl) (by kernel_rfl) (fun _ _ _ h => h) (wn rfl) (fun w hL => R_fa H21 rfl rfl (fr_1 _ _)) hL rfl (P6 28 23 20 6 5 0 rfl rfl rfl rfl rfl rfl) fun a22 H22 => ?_
    clear H21
    refine a_op 4 H22 rfl rfl (by kernel_rfl) (by kernel_rfl) (by kernel_rfl) (fun _ _ _ h => h) (wn rfl) (fun w hL => R_ld H22 rfl rfl (ld_str (hL.cell 0))) hL rfl (P6 24 28 20 6 5 0 rfl rfl rfl rfl rfl rfl) fun a23 H23 => ?_
    clear H22
    refine a_op 9 H23 rfl rfl (by kernel_rfl) (by kernel_rfl) (by kernel_rfl) (fun _ _ _ h => h) (wn rfl) (fun w hL => R_ld H23 rfl rfl (ld_int (hL.cell 1))) hL rfl (P6 29 24 20 6 5 0 rfl rfl rfl rfl rfl rfl) fun a24 H24 => ?_
    clear H23
    refine a_op 5 H24 rfl rfl (by kernel_rfl) (by kernel_rfl) (by kernel_rfl) (fun _ _ _ h => h) (wn rfl) (fun w hL => R_len H24 rfl rfl Try.underlying9) hL rfl (P6 25 29 20 6 5 0 rfl rfl rfl rfl rfl rfl) fun a25 H25 => ?_
    clear H24
    refine a_op 10 H25 rfl rfl (by kernel_rfl) (by kernel_rfl) (by kernel_rfl) (fun _ _ _ h => h) (wn rfl) (fun w hL => R_bin H25 rfl rfl rfl (Bi_subI _ _ (by omega) (by omega))) hL rfl (P5 30 20 6 5 0 rfl rfl rfl rfl rfl) fun a26 H26 => ?_
    clear H25
    refine a_op 11 H26 rfl rfl (by kernel_rfl) (by kernel_rfl) (by kernel_rfl) (fun _ _ _ h => h) (wn rfl) (fun w hL => R_bin H26 rfl rfl rfl (B_to (y := true) (B_gt Try.underlying3 _ _) (decide_eq_true (by omega)))) hL rfl (P4 31 6 5 0 rfl rfl rfl rfl) fun a27 H27 => ?_
    clear H26
    refine wpAnyH_done (by kernel_rfl) ?_ _
    repeat (go_not_at_region 6; go_step)
    refine wp_cond_true (H27.ev (x := .tmp 31) rfl) ?_
    repeat (go_not_at_region 6; go_step)
    refine wp_region_lit ?_
    refine h_op H27 rfl (wn rfl) (R_mv H27 rfl rfl) rfl (P3 32 5 0 rfl rfl rfl) fun a28 H28 => ?_
    clear H27
    refine h_op H28 rfl (wn rfl) (R_mv H28 rfl rfl) rfl (P3 33 32 0 rfl rfl rfl) fun a29 H29 => ?_
    clear H28
    refine h_op H29 rfl (wn rfl) (R_nc H29 rfl rfl) rfl (P3 34 33 0 rfl rfl rfl) fun a30 H30 => ?_
    clear H29
    refine h_op H30 rfl (wn rfl) (R_fa H30 rfl rfl (fr_1 _ _)) rfl (P3 35 33 0 rfl rfl rfl) fun a31 H31 => ?_
    clear H30
    refine h_stL ((g, rcells s n 0, 85) :: L) H31 rfl (wn rfl) (R_st H31 rfl rfl rfl (st_int hL rfl)) (hL.put 1 _) fun a32 w32 H32 hL' => ?_
    replace hL := hL'
    clear H31 hL'
    refine h_end ?_
    repeat (go_not_at_region 7; go_step)
    refine wp_region_lit ?_
    refine h_op H32 rfl (wn rfl) (R_mv H32 rfl rfl) rfl (P2 36 0 rfl rfl) fun a33 H33 => ?_
    clear H32
    refine h_op H33 rfl (wn rfl) (R_nc H33 rfl rfl) rfl (P2 37 0 rfl rfl) fun a34 H34 => ?_
    clear H33
    refine h_op H34 rfl (wn rfl) (R_fa H34 rfl rfl (fr_2 _ _)) rfl (P2 38 0 rfl rfl) fun a35 H35 => ?_
    clear H34
    refine h_stL ((g, rcells s n 7, 85) :: L) H35 rfl (wn rfl) (R_st H35 rfl rfl rfl (st_int hL rfl)) (hL.put 2 _) fun a36 w36 H36 hL' => ?_
    replace hL := hL'
    clear H35 hL'
    refine h_end ?_
    repeat (go_not_at_region 8; go_step)
    refine wp_region_lit ?_
    refine h_op H36 rfl (wn rfl) (R_as H36 rfl rfl) rfl (P1 4 rfl) fun a37 H37 => ?_
    clear H36
    refine h_end ?_
    repeat (go_not_at_region 999; go_step)
    exact H37.ret1 rfl rfl ⟨rfl, hL⟩
theorem numE_lt : (numE s n b).1 < 18446744073709551616 := by
  unfold numE
  split
  · show 0 < 18446744073709551616
    decide
  · split
    · rename_i h
      exact rd_lt _ 0 0 _ _ (by decide) (by decide) h
    · show 0 < 18446744073709551616
      decide
set_option maxRecDepth 100000 in
theorem rI64_any (hs : s.size < 140737488351233) (hn : n ≤ s.size) (hL : Live w0 ((g, rcells s n b, 85) :: L) W) : Calls Try.prog 52 #[.pointer (some ⟨g, 0, none⟩)] W fun e W' => e = .returned (.int .i64 (zag (numE s n b).1)) ∧ Live w0 ((g, rcells s (numE s n b).2.1 (numE s n b).2.2, 85) :: L) W' := by
  go_enter Try.func52, Try.ntmps52
  refine wp_fr (n := 6) (m := [(0, _)]) ⟨rfl, rfl, by intro p hp; simp only [List.mem_cons, List.not_mem_nil, or_false] at hp; rcases hp with rfl <;> rfl⟩ fun a0 H0 => ?_
  repeat (go_not_at_region 0; go_step)
  refine wp_region_lit ?_
  refine h_op H0 rfl (wn rfl) (R_as H0 rfl rfl) rfl (P1 0 rfl) fun a1 H1 => ?_
  clear H0
  refine h_end ?_
  repeat (go_not_at_region 1; go_step)
  refine wp_region_lit ?_
  refine h_op H1 rfl (wn rfl) (R_mv H1 rfl rfl) rfl (P1 3 rfl) fun a2 H2 => ?_
  clear H1
  refine h_call H2 rfl (wn rfl) (R_call1 H2 rfl rfl (fun w => by simp [go_sem])) rfl ?_
  refine (inNum_any hs hn hL).mono ?_
  rintro e wx ⟨rfl, hL2⟩
  replace hL := hL2
  clear hL2
  refine ⟨_, rfl, fun a3 HH => ?_⟩
  have H3 := HH _ (P1 4 rfl)
  clear HH H2
  refine h_call H3 rfl (wn rfl) (R_call1 H3 rfl rfl (fun w => by simp [go_sem])) rfl ?_
  refine (rZag_any numE_lt).mono ?_
  rintro e wx ⟨rfl, rfl⟩
  refine ⟨_, rfl, fun a4 HH => ?_⟩
  have H4 := HH _ (P1 5 rfl)
  clear HH H3
  refine h_op H4 rfl (wn rfl) (R_as H4 rfl rfl) rfl (P1 2 rfl) fun a5 H5 => ?_
  clear H4
  refine h_end ?_
  repeat (go_not_at_region 999; go_step)
  exact H5.ret1 rfl rfl ⟨rfl, hL⟩
end
end Go.Proofs.Ytmmhchpilcjflaa
