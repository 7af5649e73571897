/-
  meterref02.Text, Zig, meterref04.num, list: their bytes.
-/
import Derived.Test.YtmmhchpilcjflaaMsgWn
set_option linter.unusedSimpArgs false
set_option linter.unusedVariables false
namespace Go.Proofs.Ytmmhchpilcjflaa
open Go.RowKit
section
variable {w : World}
theorem cvi_u64 (x : Nat) (h : x < 9223372036854775808) : (convert 3 22 (.int .i64 (x : Nat))).run Try.prog w = .ok (.int .u64 (x : Nat)) w := by
  have e : IntKind.u64.wrap (x : Int) = x := u64_id (by omega) (by omega)
  simp [go_sem, e]
theorem cvl_u64 (x : Nat) (h : x < 9223372036854775808) : (convert 2 22 (.int .i64 (x : Nat))).run Try.prog w = .ok (.int .u64 (x : Nat)) w := by
  have e : IntKind.u64.wrap (x : Int) = x := u64_id (by omega) (by omega)
  simp [go_sem, e]
theorem B64_dbl {X Y : Operand} (x : Nat) (h : x < 9223372036854775808) : ((do eqGuard .mul 22 X Y (.int .u64 2) (.int .u64 (x : Nat)); binOp .mul 22 (.int .u64 2) (.int .u64 (x : Nat))) : Sem Value).run Try.prog w = .ok (.int .u64 (2 * x : Nat)) w := by
  have e : IntKind.u64.wrap (2 * (x : Int)) = 2 * (x : Int) := u64_id (by omega) (by omega)
  simp [go_sem, e]
theorem B64_inc {X Y : Operand} (x : Nat) (h : x < 18446744073709551615) : ((do eqGuard .add 22 X Y (.int .u64 (x : Nat)) (.int .u64 1); binOp .add 22 (.int .u64 (x : Nat)) (.int .u64 1)) : Sem Value).run Try.prog w = .ok (.int .u64 (x + 1 : Nat)) w := by
  have e : IntKind.u64.wrap ((x : Int) + 1) = (x : Int) + 1 := u64_id (by omega) (by omega)
  simp [go_sem, e]
theorem Bl_geq {X Y : Operand} (x y : Int) : ((do eqGuard .geq 2 X Y (.int .i64 x) (.int .i64 y); binOp .geq 2 (.int .i64 x) (.int .i64 y)) : Sem Value).run Try.prog w = .ok (.bool (decide (x ≥ y))) w := B_ge Try.underlying2 x y
theorem ng_i64 (x : Int) (h0 : -9223372036854775808 < x) (h1 : x < 9223372036854775808) : (Op.unary .neg (.int .i64 x)).run Try.prog w = .ok (.int .i64 (-x)) w := by
  have e : IntKind.i64.wrap (-x) = -x := i64_id (by omega) (by omega)
  simp [go_sem, e]
theorem B_catL {X Y : Operand} (a b : List Nat) (h : a.length + b.length ≤ 100000) : ((do eqGuard .add 9 X Y (.string (packL a)) (.string (packL b)); binOp .add 9 (.string (packL a)) (.string (packL b))) : Sem Value).run Try.prog w = .ok (.string (packL (a ++ b))) w := by
  rw [← packL_app]
  exact B_cat _ _ (by rw [packL_size, packL_size]; exact h)
end
theorem packL_of (s : ByteArray) : packL (bytesOf s) = s := bytes_inj (packL_bytes bytesOf_lt)
theorem listB_len : ∀ {l : List Int}, l.all inB = true → (listB l).length ≤ 10 * l.length
  | [], _ => by simp [listB]
  | x :: l, h => by
    simp only [List.all_cons, Bool.and_eq_true] at h
    have h1 := listB_len h.2
    have hx : inB x = true := h.1
    unfold inB at hx
    simp only [Bool.and_eq_true, decide_eq_true_eq] at hx
    have h2 := vbytes_le (x := x.toNat) (by omega)
    show (vbytes x.toNat ++ listB l).length ≤ _
    rw [List.length_append, List.length_cons]
    omega
theorem listB_more {l : List Int} {j : Nat} (hj : j < l.length) : listB (l.take (j + 1)) = listB (l.take j) ++ vbytes (l.getD j 0).toNat := by
  unfold listB
  rw [List.take_add_one, List.flatMap_append, List.getElem?_eq_getElem hj, List.getD_eq_getElem?_getD, List.getElem?_eq_getElem hj]
  simp
section
variable {w0 W : World} {L : List Blk} {l : List Int} {v : Value}
set_option maxRecDepth 100000 in
theorem rnum_any {n : Nat} (hn : n < 9223372036854775808) : Calls Try.prog 37 #[.int .i64 (n : Nat)] W fun e W' => e = .returned (.string (packL (vbytes n))) ∧ Below W.heap.size W W' := by
  have hL := Live.init W
  go_enter Try.func37, Try.ntmps37
  refine wp_fr (n := 6) (m := [(0, _)]) ⟨rfl, rfl, by intro p hp; simp only [List.mem_cons, List.not_mem_nil, or_false] at hp; rcases hp with rfl <;> rfl⟩ fun a0 H0 => ?_
  repeat (go_not_at_region 0; go_step)
  refine wp_region_lit ?_
  refine h_op (m' := [(0, _)]) H0 rfl (wn rfl) (R_as H0 rfl rfl) rfl (.cons rfl .nil) fun a1 H1 => ?_
  clear H0
  refine h_end ?_
  repeat (go_not_at_region 1; go_step)
  refine wp_region_lit ?_
  refine h_op (m' := [(3, _)]) H1 rfl (wn rfl) (R_mv H1 rfl rfl) rfl (.cons rfl .nil) fun a2 H2 => ?_
  clear H1
  refine h_op (m' := [(4, _)]) H2 rfl (wn rfl) (R_cv H2 rfl rfl (cvi_u64 _ hn)) rfl (.cons rfl .nil) fun a3 H3 => ?_
  clear H2
  refine h_call H3 rfl (wn rfl) (R_call1 H3 rfl rfl (fun w => by simp [go_sem])) rfl ?_
  refine (rNum_any (n) (n) (Nat.le_refl _) (by omega) _).mono ?_
  rintro e wx ⟨rfl, hb⟩
  replace hL := hL.call hb
  clear hb
  refine ⟨_, rfl, fun a4 HH => ?_⟩
  have H4 := HH [(5, _)] (.cons rfl .nil)
  clear HH H3
  refine h_op (m' := [(2, _)]) H4 rfl (wn rfl) (R_as H4 rfl rfl) rfl (.cons rfl .nil) fun a5 H5 => ?_
  clear H4
  refine h_end ?_
  repeat (go_not_at_region 999; go_step)
  exact H5.ret1 rfl rfl ⟨rfl, hL.1⟩
theorem rnum_in {x : Int} (hx : inB x = true) : Calls Try.prog 37 #[.int .i64 x] W fun e W' => e = .returned (.string (packL (vbytes x.toNat))) ∧ Below W.heap.size W W' := by
  unfold inB at hx
  simp only [Bool.and_eq_true, decide_eq_true_eq] at hx
  have h := rnum_any (W := W) (n := x.toNat) (by omega)
  rw [show ((x.toNat : Nat) : Int) = x by omega] at h
  exact h
set_option maxRecDepth 100000 in
theorem rText_any {s : ByteArray} (hs : s.size ≤ 50000) : Calls Try.prog 40 #[.string s] W fun e W' => e = .returned (.string (packL (vbytes s.size ++ bytesOf s))) ∧ Below W.heap.size W W' := by
  have hL := Live.init W
  have hcat : packL (vbytes s.size) ++ s = packL (vbytes s.size ++ bytesOf s) := by rw [← packL_app, packL_of]
  have hlen := vbytes_le (x := s.size) (by omega)
  go_enter Try.func40, Try.ntmps40
  refine wp_fr (n := 9) (m := [(0, _)]) ⟨rfl, rfl, by intro p hp; simp only [List.mem_cons, List.not_mem_nil, or_false] at hp; rcases hp with rfl <;> rfl⟩ fun a0 H0 => ?_
  repeat (go_not_at_region 0; go_step)
  refine wp_region_lit ?_
  refine h_op (m' := [(0, _)]) H0 rfl (wn rfl) (R_as H0 rfl rfl) rfl (.cons rfl .nil) fun a1 H1 => ?_
  clear H0
  refine h_end ?_
  repeat (go_not_at_region 1; go_step)
  refine wp_region_lit ?_
  refine h_op (m' := [(3, _), (0, _)]) H1 rfl (wn rfl) (R_mv H1 rfl rfl) rfl (.cons rfl (.cons rfl .nil)) fun a2 H2 => ?_
  clear H1
  refine h_op (m' := [(4, _), (0, _)]) H2 rfl (wn rfl) (R_len H2 rfl rfl Try.underlying9) rfl (.cons rfl (.cons rfl .nil)) fun a3 H3 => ?_
  clear H2
  refine h_op (m' := [(5, _), (0, _)]) H3 rfl (wn rfl) (R_cv H3 rfl rfl (cvi_u64 _ (by omega))) rfl (.cons rfl (.cons rfl .nil)) fun a4 H4 => ?_
  clear H3
  refine h_call H4 rfl (wn rfl) (R_call1 H4 rfl rfl (fun w => by simp [go_sem])) rfl ?_
  refine (rNum_any (s.size) (s.size) (Nat.le_refl _) (by omega) _).mono ?_
  rintro e wx ⟨rfl, hb⟩
  replace hL := hL.call hb
  clear hb
  refine ⟨_, rfl, fun a5 HH => ?_⟩
  have H5 := HH [(6, _), (0, _)] (.cons rfl (.cons rfl .nil))
  clear HH H4
  refine h_op (m' := [(7, _), (6, _)]) H5 rfl (wn rfl) (R_mv H5 rfl rfl) rfl (.cons rfl (.cons rfl .nil)) fun a6 H6 => ?_
  clear H5
  refine h_op (m' := [(8, _)]) H6 rfl (wn rfl) (R_bin H6 rfl rfl rfl (B_cat _ _ (by rw [packL_size]; omega))) rfl (.cons rfl .nil) fun a7 H7 => ?_
  clear H6
  refine h_op (m' := [(2, _)]) H7 rfl (wn rfl) (R_as H7 rfl rfl) rfl (.cons rfl .nil) fun a8 H8 => ?_
  clear H7
  refine h_end ?_
  repeat (go_not_at_region 999; go_step)
  exact H8.ret1 rfl rfl ⟨congrArg (fun s => Ending.returned (.string s)) hcat, hL.1⟩
set_option maxRecDepth 100000 in
theorem rZig_any {n : Int} (h0 : -9223372036854775808 ≤ n) (h1 : n < 9223372036854775808) : Calls Try.prog 42 #[.int .i64 n] W fun e W' => e = .returned (.int .u64 (zig n : Nat)) ∧ W' = W := by
  go_enter Try.func42, Try.ntmps42
  refine wp_fr (n := 14) (m := [(0, _)]) ⟨rfl, rfl, by intro p hp; simp only [List.mem_cons, List.not_mem_nil, or_false] at hp; rcases hp with rfl <;> rfl⟩ fun a0 H0 => ?_
  repeat (go_not_at_region 0; go_step)
  refine wp_region_lit ?_
  refine h_op (m' := [(0, _)]) H0 rfl (wn rfl) (R_as H0 rfl rfl) rfl (.cons rfl .nil) fun a1 H1 => ?_
  clear H0
  refine h_end ?_
  by_cases hn : 0 ≤ n
  · obtain ⟨x, rfl⟩ : ∃ x : Nat, n = x := ⟨n.toNat, by omega⟩
    have hz : zig (x : Int) = 2 * x := by unfold zig; rw [if_pos hn]; omega
    repeat (go_not_at_region 1; go_step)
    refine wp_region_lit ?_
    refine h_op (m' := [(3, _), (0, _)]) H1 rfl (wn rfl) (R_mv H1 rfl rfl) rfl (.cons rfl (.cons rfl .nil)) fun a2 H2 => ?_
    clear H1
    refine h_op (m' := [(4, _), (0, _)]) H2 rfl (wn rfl) (R_bin H2 rfl rfl rfl (B_to (y := true) (Bl_geq _ _) (decide_eq_true (by omega)))) rfl (.cons rfl (.cons rfl .nil)) fun a3 H3 => ?_
    clear H2
    refine h_end ?_
    repeat (go_not_at_region 2; go_step)
    refine wp_cond_true (H3.ev (x := .tmp 4) rfl) ?_
    repeat (go_not_at_region 2; go_step)
    refine wp_region_lit ?_
    refine h_op (m' := [(5, _)]) H3 rfl (wn rfl) (R_mv H3 rfl rfl) rfl (.cons rfl .nil) fun a4 H4 => ?_
    clear H3
    refine h_op (m' := [(6, _)]) H4 rfl (wn rfl) (R_cv H4 rfl rfl (cvl_u64 _ (by omega))) rfl (.cons rfl .nil) fun a5 H5 => ?_
    clear H4
    refine h_op (m' := [(7, _)]) H5 rfl (wn rfl) (R_bin H5 rfl rfl rfl (B64_dbl _ (by omega))) rfl (.cons rfl .nil) fun a6 H6 => ?_
    clear H5
    refine h_op (m' := [(2, _)]) H6 rfl (wn rfl) (R_as H6 rfl rfl) rfl (.cons rfl .nil) fun a7 H7 => ?_
    clear H6
    refine h_end ?_
    repeat (go_not_at_region 999; go_step)
    rw [hz]
    exact H7.ret1 rfl rfl ⟨rfl, rfl⟩
  · obtain ⟨x, hx⟩ : ∃ x : Nat, n + 1 = -(x : Int) := ⟨(-(n + 1)).toNat, by omega⟩
    have hz : zig n = 2 * x + 1 := by unfold zig; rw [if_neg hn]; omega
    repeat (go_not_at_region 1; go_step)
    refine wp_region_lit ?_
    refine h_op (m' := [(3, _), (0, _)]) H1 rfl (wn rfl) (R_mv H1 rfl rfl) rfl (.cons rfl (.cons rfl .nil)) fun a2 H2 => ?_
    clear H1
    refine h_op (m' := [(4, _), (0, _)]) H2 rfl (wn rfl) (R_bin H2 rfl rfl rfl (B_to (y := false) (Bl_geq _ _) (decide_eq_false (by omega)))) rfl (.cons rfl (.cons rfl .nil)) fun a3 H3 => ?_
    clear H2
    refine h_end ?_
    repeat (go_not_at_region 3; go_step)
    refine wp_cond_false (H3.ev (x := .tmp 4) rfl) ?_
    repeat (go_not_at_region 3; go_step)
    refine wp_region_lit ?_
    refine h_op (m' := [(8, _)]) H3 rfl (wn rfl) (R_mv H3 rfl rfl) rfl (.cons rfl .nil) fun a4 H4 => ?_
    clear H3
    refine h_op (m' := [(9, _)]) H4 rfl (wn rfl) (R_bin H4 rfl rfl rfl (B_add Try.underlying2 _ _ (by omega) (by omega))) rfl (.cons rfl .nil) fun a5 H5 => ?_
    clear H4
    refine h_op (m' := [(10, _)]) H5 rfl (wn rfl) (R_un H5 rfl rfl (by rw [hx]; exact ng_i64 _ (by omega) (by omega))) rfl (.cons rfl .nil) fun a6 H6 => ?_
    clear H5
    refine h_op (m' := [(11, _)]) H6 rfl (wn rfl) (R_cv H6 rfl rfl (by rw [Int.neg_neg]; exact cvl_u64 x (by omega))) rfl (.cons rfl .nil) fun a7 H7 => ?_
    clear H6
    refine h_op (m' := [(12, _)]) H7 rfl (wn rfl) (R_bin H7 rfl rfl rfl (B64_dbl _ (by omega))) rfl (.cons rfl .nil) fun a8 H8 => ?_
    clear H7
    refine h_op (m' := [(13, _)]) H8 rfl (wn rfl) (R_bin H8 rfl rfl rfl (B64_inc _ (by omega))) rfl (.cons rfl .nil) fun a9 H9 => ?_
    clear H8
    refine h_op (m' := [(2, _)]) H9 rfl (wn rfl) (R_as H9 rfl rfl) rfl (.cons rfl .nil) fun a10 H10 => ?_
    clear H9
    refine h_end ?_
    repeat (go_not_at_region 999; go_step)
    rw [hz]
    exact H10.ret1 rfl rfl ⟨rfl, rfl⟩
set_option maxRecDepth 100000 in
theorem rlist_any (hv : Rd W v l) (hb : l.all inB = true) (hl : l.length ≤ 1024) : Calls Try.prog 38 #[v] W fun e W' => e = .returned (.string (packL (vbytes l.length ++ listB l))) ∧ Below W.heap.size W W' := by
  have hL := Live.init W
  obtain ⟨A, c, rfl⟩ := hv.slc
  have K1 : ∀ {w}, Below W.heap.size W w → Rd w (.slice A l.length c) l := fun hb => hv.kept fun k hk => hb.block k hk
  have hlen := vbytes_le (x := l.length) (by omega)
  go_enter Try.func38, Try.ntmps38
  refine wp_fr (n := 22) (m := [(0, _)]) ⟨rfl, rfl, by intro p hp; simp only [List.mem_cons, List.not_mem_nil, or_false] at hp; rcases hp with rfl <;> rfl⟩ fun a0 H0 => ?_
  repeat (go_not_at_region 0; go_step)
  refine wp_region_lit ?_
  refine h_op (m' := [(0, _)]) H0 rfl (wn rfl) (R_as H0 rfl rfl) rfl (.cons rfl .nil) fun a1 H1 => ?_
  clear H0
  refine h_end ?_
  repeat (go_not_at_region 1; go_step)
  refine wp_region_lit ?_
  refine h_op (m' := [(5, _), (0, _)]) H1 rfl (wn rfl) (R_mv H1 rfl rfl) rfl (.cons rfl (.cons rfl .nil)) fun a2 H2 => ?_
  clear H1
  refine h_op (m' := [(6, _), (0, _)]) H2 rfl (wn rfl) (R_lenS H2 rfl rfl Try.underlying25) rfl (.cons rfl (.cons rfl .nil)) fun a3 H3 => ?_
  clear H2
  refine h_call H3 rfl (wn rfl) (R_call1 H3 rfl rfl (fun w => by simp [go_sem])) rfl ?_
  refine (rnum_any (n := l.length) (by omega)).mono ?_
  rintro e wx ⟨rfl, hb⟩
  replace hL := hL.call hb
  clear hb
  refine ⟨_, rfl, fun a4 HH => ?_⟩
  have H4 := HH [(7, _), (0, _)] (.cons rfl (.cons rfl .nil))
  clear HH H3
  refine h_op (m' := [(3, _), (0, _)]) H4 rfl (wn rfl) (R_as H4 rfl rfl) rfl (.cons rfl (.cons rfl .nil)) fun a5 H5 => ?_
  clear H4
  refine h_end ?_
  repeat (go_not_at_region 2; go_step)
  refine wp_region_lit ?_
  refine h_op (m' := [(4, _), (3, _), (0, _)]) H5 rfl (wn rfl) (R_as H5 rfl rfl) rfl (.cons rfl (.cons rfl (.cons rfl .nil))) fun a6 H6 => ?_
  clear H5
  refine h_end ?_
  repeat (go_not_at_region 3; go_step)
  obtain ⟨I, hI⟩ : ∃ I : Nat → Act → World → Prop, ∀ n a' w', I n a' w' ↔ ∃ j : Nat, n = l.length - j ∧ j ≤ l.length ∧ Fr a' 22 [(0, .slice A l.length c), (3, .string (packL (vbytes l.length ++ listB (l.take j)))), (4, .int .i64 (j : Nat))] ∧ Live W [] w' := ⟨_, fun _ _ _ => Iff.rfl⟩
  have HI := Lib.hid hI
  clear hI
  refine wp_loop_ghost I l.length ((HI.out _ _ _).2 ⟨0, rfl, Nat.zero_le _, ?_, hL⟩) ?_
  · have e : vbytes l.length = vbytes l.length ++ listB (l.take 0) := by simp [listB]
    rw [← e]
    exact H6.pick _ (.cons rfl (.cons rfl (.cons rfl .nil)))
  clear hL
  intro n a1 w1 hi
  obtain ⟨j, rfl, hj, H0, hL⟩ := (HI.out _ _ _).1 hi
  clear hi
  by_cases hjl : j < l.length
  · repeat (go_not_at_region 3; go_step)
    refine wp_region_lit ?_
    refine h_op (m' := [(8, _), (0, _), (3, _), (4, _)]) H0 rfl (wn rfl) (R_mv H0 rfl rfl) rfl (.cons rfl (.cons rfl (.cons rfl (.cons rfl .nil)))) fun a1 H1 => ?_
    clear H0
    refine h_op (m' := [(9, _), (8, _), (0, _), (3, _), (4, _)]) H1 rfl (wn rfl) (R_mv H1 rfl rfl) rfl (.cons rfl (.cons rfl (.cons rfl (.cons rfl (.cons rfl .nil))))) fun a2 H2 => ?_
    clear H1
    refine h_op (m' := [(10, _), (8, _), (0, _), (3, _), (4, _)]) H2 rfl (wn rfl) (R_lenS H2 rfl rfl Try.underlying25) rfl (.cons rfl (.cons rfl (.cons rfl (.cons rfl (.cons rfl .nil))))) fun a3 H3 => ?_
    clear H2
    refine h_op (m' := [(11, _), (0, _), (3, _), (4, _)]) H3 rfl (wn rfl) (R_bin H3 rfl rfl rfl (B_to (y := true) (B_lt Try.underlying3 _ _) (decide_eq_true (by omega)))) rfl (.cons rfl (.cons rfl (.cons rfl (.cons rfl .nil)))) fun a4 H4 => ?_
    clear H3
    refine h_end ?_
    repeat (go_not_at_region 5; go_step)
    refine wp_cond_true (H4.ev (x := .tmp 11) rfl) ?_
    obtain ⟨ad, rfl, hx⟩ := (K1 hL.1).elem hjl
    have hbj : inB (l.getD j 0) = true := by
      rw [List.getD_eq_getElem?_getD, List.getElem?_eq_getElem hjl]
      exact List.all_eq_true.1 hb _ (List.getElem_mem _)
    have ht : (l.take j).all inB = true := List.all_eq_true.2 fun x hx => List.all_eq_true.1 hb x (List.mem_of_mem_take hx)
    have hlB := listB_len ht
    have hlt : (l.take j).length ≤ 1024 := by rw [List.length_take]; omega
    have hvb : (vbytes (l.getD j 0).toNat).length ≤ 10 := vbytes_le (by unfold inB at hbj; simp only [Bool.and_eq_true, decide_eq_true_eq] at hbj; omega)
    repeat (go_not_at_region 5; go_step)
    refine wp_region_lit ?_
    refine h_op (m' := [(14, _), (0, _), (3, _), (4, _)]) H4 rfl (wn rfl) (R_mv H4 rfl rfl) rfl (.cons rfl (.cons rfl (.cons rfl (.cons rfl .nil)))) fun a5 H5 => ?_
    clear H4
    refine h_op (m' := [(15, _), (14, _), (0, _), (3, _), (4, _)]) H5 rfl (wn rfl) (R_mv H5 rfl rfl) rfl (.cons rfl (.cons rfl (.cons rfl (.cons rfl (.cons rfl .nil))))) fun a6 H6 => ?_
    clear H5
    refine h_op (m' := [(16, _), (15, _), (14, _), (0, _), (3, _), (4, _)]) H6 rfl (wn rfl) (R_mv H6 rfl rfl) rfl (.cons rfl (.cons rfl (.cons rfl (.cons rfl (.cons rfl (.cons rfl .nil)))))) fun a7 H7 => ?_
    clear H6
    refine h_op (m' := [(17, _), (14, _), (0, _), (3, _), (4, _)]) H7 rfl (wn rfl) (R_ixa H7 rfl rfl rfl (ix_at hjl)) rfl (.cons rfl (.cons rfl (.cons rfl (.cons rfl (.cons rfl .nil))))) fun a8 H8 => ?_
    clear H7
    refine h_op (m' := [(18, _), (14, _), (0, _), (3, _), (4, _)]) H8 rfl (wn rfl) (R_ld H8 rfl rfl (ld_int hx)) rfl (.cons rfl (.cons rfl (.cons rfl (.cons rfl (.cons rfl .nil))))) fun a9 H9 => ?_
    clear H8
    refine h_call H9 rfl (wn rfl) (R_call1 H9 rfl rfl (fun w => by simp [go_sem])) rfl ?_
    refine (rnum_in hbj).mono ?_
    rintro e wx ⟨rfl, hb⟩
    replace hL := hL.call hb
    clear hb
    refine ⟨_, rfl, fun a10 HH => ?_⟩
    have H10 := HH [(19, _), (14, _), (0, _), (3, _), (4, _)] (.cons rfl (.cons rfl (.cons rfl (.cons rfl (.cons rfl .nil)))))
    clear HH H9
    refine h_op (m' := [(20, _), (0, _), (3, _), (4, _)]) H10 rfl (wn rfl) (R_bin H10 rfl rfl rfl (B_catL _ _ (by rw [List.length_append]; omega))) rfl (.cons rfl (.cons rfl (.cons rfl (.cons rfl .nil)))) fun a11 H11 => ?_
    clear H10
    refine h_op (m' := [(3, _), (0, _), (4, _)]) H11 rfl (wn rfl) (R_as H11 rfl rfl) rfl (.cons rfl (.cons rfl (.cons rfl .nil))) fun a12 H12 => ?_
    clear H11
    refine h_end ?_
    repeat (go_not_at_region 4; go_step)
    refine wp_region_lit ?_
    refine h_op (m' := [(12, _), (3, _), (0, _), (4, _)]) H12 rfl (wn rfl) (R_mv H12 rfl rfl) rfl (.cons rfl (.cons rfl (.cons rfl (.cons rfl .nil)))) fun a13 H13 => ?_
    clear H12
    refine h_op (m' := [(13, _), (3, _), (0, _), (4, _)]) H13 rfl (wn rfl) (R_bin H13 rfl rfl rfl (B_add Try.underlying3 _ _ (by omega) (by omega))) rfl (.cons rfl (.cons rfl (.cons rfl (.cons rfl .nil)))) fun a14 H14 => ?_
    clear H13
    refine h_op (m' := [(4, _), (3, _), (0, _)]) H14 rfl (wn rfl) (R_as H14 rfl rfl) rfl (.cons rfl (.cons rfl (.cons rfl .nil))) fun a15 H15 => ?_
    clear H14
    refine h_end ?_
    repeat (go_not_at_region 999; go_step)
    refine ⟨l.length - (j + 1), by omega, (HI.out _ _ _).2 ⟨j + 1, rfl, hjl, ?_, hL⟩⟩
    rw [listB_more hjl, ← List.append_assoc]
    exact H15.pick _ (.cons rfl (.cons rfl (.cons rfl .nil)))
  · repeat (go_not_at_region 3; go_step)
    refine wp_region_lit ?_
    refine h_op (m' := [(8, _), (0, _), (3, _), (4, _)]) H0 rfl (wn rfl) (R_mv H0 rfl rfl) rfl (.cons rfl (.cons rfl (.cons rfl (.cons rfl .nil)))) fun a1 H1 => ?_
    clear H0
    refine h_op (m' := [(9, _), (8, _), (0, _), (3, _), (4, _)]) H1 rfl (wn rfl) (R_mv H1 rfl rfl) rfl (.cons rfl (.cons rfl (.cons rfl (.cons rfl (.cons rfl .nil))))) fun a2 H2 => ?_
    clear H1
    refine h_op (m' := [(10, _), (8, _), (0, _), (3, _), (4, _)]) H2 rfl (wn rfl) (R_lenS H2 rfl rfl Try.underlying25) rfl (.cons rfl (.cons rfl (.cons rfl (.cons rfl (.cons rfl .nil))))) fun a3 H3 => ?_
    clear H2
    refine h_op (m' := [(11, _), (0, _), (3, _), (4, _)]) H3 rfl (wn rfl) (R_bin H3 rfl rfl rfl (B_to (y := false) (B_lt Try.underlying3 _ _) (decide_eq_false (by omega)))) rfl (.cons rfl (.cons rfl (.cons rfl (.cons rfl .nil)))) fun a4 H4 => ?_
    clear H3
    refine h_end ?_
    repeat (go_not_at_region 6; go_step)
    refine wp_cond_false (H4.ev (x := .tmp 11) rfl) ?_
    obtain rfl : j = l.length := by omega
    rw [List.take_length] at H4
    repeat (go_not_at_region 6; go_step)
    refine wp_region_lit ?_
    refine h_op (m' := [(21, _)]) H4 rfl (wn rfl) (R_mv H4 rfl rfl) rfl (.cons rfl .nil) fun a5 H5 => ?_
    clear H4
    refine h_op (m' := [(2, _)]) H5 rfl (wn rfl) (R_as H5 rfl rfl) rfl (.cons rfl .nil) fun a6 H6 => ?_
    clear H5
    refine h_end ?_
    repeat (go_not_at_region 999; go_step)
    exact H6.ret1 rfl rfl ⟨rfl, hL.1⟩
end
end Go.Proofs.Ytmmhchpilcjflaa
