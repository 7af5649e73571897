/-
  The document's bytes of an item's message, and Put.
-/
import Derived.Test.YthkeiclhllikjaaGreatRfB
set_option linter.unusedSimpArgs false
set_option linter.unusedVariables false
namespace Go.Proofs.YthkeiclhllikjaaGreat.R
open Go.RowKit
def itemOut (m : PMsg) : List Nat := vbytes m.isrc.toNat ++ vbytes m.iseq.toNat ++ vbytes m.ilow.toNat ++ [m.ikind] ++ (vbytes m.ikey.size ++ bytesOf m.ikey) ++ vbytes m.ipart.toNat ++ vbytes (zig m.iat) ++ vbytes (zig m.iN)
theorem rNum_b {n : Nat} (hn : n < 18446744073709551616) (W : World) : Calls Tryz.prog 69 #[.int .u64 (n : Nat)] W fun e W' => e = .returned (.string (packL (vbytes n))) ∧ Below W.heap.size W W' := rNum_any n n (Nat.le_refl _) hn W
theorem rZig_b {n : Int} (h0 : -9223372036854775808 ≤ n) (h1 : n < 9223372036854775808) (W : World) : Calls Tryz.prog 70 #[.int .i64 n] W fun e W' => e = .returned (.int .u64 (zig n : Nat)) ∧ Below W.heap.size W W' := by
 refine (rZig_any h0 h1).mono ?_
 rintro e W' ⟨rfl, rfl⟩
 exact ⟨rfl, Below.refl _ _⟩
theorem in_small {x : Int} (h : inB x = true) : (vbytes x.toNat).length ≤ 10 := by
 unfold inB at h
 simp only [Bool.and_eq_true, decide_eq_true_eq] at h
 exact vbytes_le (by omega)
section
variable {W : World} {m : PMsg}
set_option maxHeartbeats 16000000 in
set_option maxRecDepth 100000 in
theorem rItem_any (h0 : inB m.isrc = true) (h1 : inB m.iseq = true) (h2 : inB m.ilow = true) (h3 : m.ikind < 256) (h4 : m.ikey.size ≤ 50000) (h5 : inB m.ipart = true) (h60 : -9223372036854775808 ≤ m.iat) (h61 : m.iat < 9223372036854775808) (h70 : -9223372036854775808 ≤ m.iN) (h71 : m.iN < 9223372036854775808) :
  Calls Tryz.prog 67 #[.agg (icells m)] W fun e W' => e = .returned (.string (packL (itemOut m))) ∧ Below W.heap.size W W' := by
 have hL := (Live.init W).alloc (icells m) 33
 have z0 := in_small h0
 have z1 := in_small h1
 have z2 := in_small h2
 have z4 := vbytes_le (x := m.ikey.size) (by omega)
 have z5 := in_small h5
 have z6 := vbytes_le (zig_lt h60 h61)
 have z7 := vbytes_le (zig_lt h70 h71)
 have q0 := fun w => rnum_in (W := w) h0
 have q1 := fun w => rnum_in (W := w) h1
 have q2 := fun w => rnum_in (W := w) h2
 have q4 := fun w => rText_any (W := w) h4
 have q5 := fun w => rnum_in (W := w) h5
 have q6 := rZig_b h60 h61
 have q7 := rZig_b h70 h71
 have q8 := rNum_b (zig_lt h60 h61)
 have q9 := rNum_b (zig_lt h70 h71)
 have s4 : (packL (vbytes m.ikey.size ++ bytesOf m.ikey)).size ≤ 60000 := by rw [packL_size, List.length_append, bytes_size]; omega
 have hcat : packL (itemOut m) = packL (vbytes m.isrc.toNat) ++ packL (vbytes m.iseq.toNat) ++ packL (vbytes m.ilow.toNat) ++ packL [m.ikind] ++ packL (vbytes m.ikey.size ++ bytesOf m.ikey) ++ packL (vbytes m.ipart.toNat) ++ packL (vbytes (zig m.iat)) ++ packL (vbytes (zig m.iN)) := by
  unfold itemOut
  simp only [packL_app]
 rw [hcat]
 rw [← packL_size] at z0 z1 z2 z5 z6 z7
 have hcv : ∀ {w : World} {L : List Blk} {g : Nat}, Live W ((g, #[.int .u8 (m.ikind : Nat)], 5) :: L) w → (convert 72 9 (.slice (some ⟨g, 0, none⟩) 1 1)).run Tryz.prog w = .ok (.string (packL [m.ikind])) w := fun h => cv_u8 h3 h
 have z3 : (packL [m.ikind]).size ≤ 10 := by rw [packL_size]; show 1 ≤ 10; decide
 clear hcat z4
 generalize packL (vbytes m.isrc.toNat) = s0 at *
 generalize packL (vbytes m.iseq.toNat) = s1 at *
 generalize packL (vbytes m.ilow.toNat) = s2 at *
 generalize packL [m.ikind] = s3 at *
 generalize packL (vbytes m.ikey.size ++ bytesOf m.ikey) = t4 at *
 generalize packL (vbytes m.ipart.toNat) = s5 at *
 generalize packL (vbytes (zig m.iat)) = s6 at *
 generalize packL (vbytes (zig m.iN)) = s7 at *
 have c1 : s0.size + s1.size ≤ 100000 := by omega
 have c2 : (s0 ++ s1).size + s2.size ≤ 100000 := by rw [ByteArray.size_append]; omega
 have c3 : (s0 ++ s1 ++ s2).size + s3.size ≤ 100000 := by simp only [ByteArray.size_append]; omega
 have c4 : (s0 ++ s1 ++ s2 ++ s3).size + t4.size ≤ 100000 := by simp only [ByteArray.size_append]; omega
 have c5 : (s0 ++ s1 ++ s2 ++ s3 ++ t4).size + s5.size ≤ 100000 := by simp only [ByteArray.size_append]; omega
 have c6 : (s0 ++ s1 ++ s2 ++ s3 ++ t4 ++ s5).size + s6.size ≤ 100000 := by simp only [ByteArray.size_append]; omega
 have c7 : (s0 ++ s1 ++ s2 ++ s3 ++ t4 ++ s5 ++ s6).size + s7.size ≤ 100000 := by simp only [ByteArray.size_append]; omega
 clear z0 z1 z2 z3 z5 z6 z7 s4
 go_enter Tryz.func67, Tryz.ntmps67
 refine wp_fr (n := 37) (m := [(0, _)]) ⟨rfl, rfl, by intro p hp; simp only [List.mem_cons, List.not_mem_nil, or_false] at hp; rcases hp with rfl <;> rfl⟩ fun a0 H0 => ?_
 repeat (go_not_at_region 0; go_step)
 refine wp_region_lit ?_
 refine h_o H0 rfl (R_box H0 rfl rfl bx_item) (P1 1 rfl) fun _ H1 => ?_
 refine h_o H1 rfl (R_as H1 rfl rfl) (P1 1 rfl) fun _ H2 => ?_
 refine h_end ?_
 generalize hw : W.alloc (.cells (icells m) 33) = w at *
 repeat (go_not_at_region 1; go_step)
 refine wp_region_held_drew (S := fun w' => Live W [(W.heap.size, icells m, 33)] w') (by kernel_rfl) hL.drew (fun hL' => ?_)
 replace hL := hL'
 clear hL'
 refine dag_cut (fun a' w' => Fr a' 37 [(2, .string (s0 ++ s1 ++ s2 ++ s3 ++ t4 ++ s5 ++ s6 ++ s7))] ∧ Live W [(W.heap.size, icells m, 33)] w') 0 #[true, true, true, true, true, true, true, true, true, true, true, true, true, true, true, true, true, true, true, true, true, true, true, true, true, true, true, true, true, true, true, true, true, true, true] ?_ (fun hS0 => ?_)
 ·rintro a0 w0 ⟨H0, hL⟩
  refine wpAnyH_done (by kernel_rfl) ?_ _
  repeat (go_not_at_region 999; go_step)
  exact H0.ret1 rfl rfl ⟨rfl, hL.1⟩
 refine dag_cut (fun a' w' => Fr a' 37 [(31, .string (s0 ++ s1 ++ s2 ++ s3 ++ t4 ++ s5 ++ s6)), (34, .int .u64 (zig m.iN : Nat))] ∧ Live W [(W.heap.size, icells m, 33)] w') 3 #[true, true, true, true, true, true, true, true, true, true, true, true, true, true, true, true, true, true, true, true, true, true, true, true, true, true, true, true, true, true, true, true, false, false, false] ?_ (fun hS1 => ?_)
 ·rintro a0 w0 ⟨H0, hL⟩
  refine a_all1 32 (by kernel_rfl) ?_
  refine o_callB 32 H0 rfl rfl (wn rfl) (R_call1 H0 rfl rfl (fun w => by simp [go_sem])) rfl hL (q9 _) (P2 35 31 rfl rfl) fun a1 w1 H1 hL' => ⟨hL', ?_⟩
  replace hL := hL'
  refine a_opZ 33 H1 rfl rfl (by kernel_rfl) (wn rfl) (fun w hL => R_bin H1 rfl rfl rfl (B_cat _ _ c7)) hL rfl (P1 36 rfl) fun _ H2 => ?_
  refine a_opZ 34 H2 rfl rfl (by kernel_rfl) (wn rfl) (fun w hL => R_as H2 rfl rfl) hL rfl (P1 2 rfl) fun _ H3 => ?_
  exact dag_use hS0 (by kernel_rfl) (by kernel_rfl) ⟨H3.pick _ (.cons rfl .nil), hL⟩
 refine dag_cut (fun a' w' => Fr a' 37 [(31, .string (s0 ++ s1 ++ s2 ++ s3 ++ t4 ++ s5 ++ s6)), (33, .int .i64 m.iN)] ∧ Live W [(W.heap.size, icells m, 33)] w') 4 #[true, true, true, true, true, true, true, true, true, true, true, true, true, true, true, true, true, true, true, true, true, true, true, true, true, true, true, true, true, true, true, false, false, false, false] ?_ (fun hS2 => ?_)
 ·rintro a0 w0 ⟨H0, hL⟩
  refine a_all1 31 (by kernel_rfl) ?_
  refine o_callB 31 H0 rfl rfl (wn rfl) (R_call1 H0 rfl rfl (fun w => by simp [go_sem])) rfl hL (q7 _) (P2 34 31 rfl rfl) fun a1 w1 H1 hL' => ⟨hL', ?_⟩
  replace hL := hL'
  exact dag_use hS1 (by kernel_rfl) (by kernel_rfl) ⟨H1.pick _ (.cons rfl (.cons rfl .nil)), hL⟩
 refine dag_cut (fun a' w' => Fr a' 37 [(26, .string (s0 ++ s1 ++ s2 ++ s3 ++ t4 ++ s5)), (29, .int .u64 (zig m.iat : Nat)), (33, .int .i64 m.iN)] ∧ Live W [(W.heap.size, icells m, 33)] w') 6 #[true, true, true, true, true, true, true, true, true, true, true, true, true, true, true, true, true, true, true, true, true, true, true, true, true, true, true, false, false, true, true, false, false, false, false] ?_ (fun hS3 => ?_)
 ·rintro a0 w0 ⟨H0, hL⟩
  refine a_all1 27 (by kernel_rfl) ?_
  refine o_callB 27 H0 rfl rfl (wn rfl) (R_call1 H0 rfl rfl (fun w => by simp [go_sem])) rfl hL (q8 _) (P3 30 26 33 rfl rfl rfl) fun a1 w1 H1 hL' => ⟨hL', ?_⟩
  replace hL := hL'
  refine a_opZ 28 H1 rfl rfl (by kernel_rfl) (wn rfl) (fun w hL => R_bin H1 rfl rfl rfl (B_cat _ _ c6)) hL rfl (P2 31 33 rfl rfl) fun _ H2 => ?_
  exact dag_use hS2 (by kernel_rfl) (by kernel_rfl) ⟨H2.pick _ (.cons rfl (.cons rfl .nil)), hL⟩
 refine dag_cut (fun a' w' => Fr a' 37 [(26, .string (s0 ++ s1 ++ s2 ++ s3 ++ t4 ++ s5)), (28, .int .i64 m.iat), (33, .int .i64 m.iN)] ∧ Live W [(W.heap.size, icells m, 33)] w') 7 #[true, true, true, true, true, true, true, true, true, true, true, true, true, true, true, true, true, true, true, true, true, true, true, true, true, true, false, false, false, true, true, false, false, false, false] ?_ (fun hS4 => ?_)
 ·rintro a0 w0 ⟨H0, hL⟩
  refine a_all1 26 (by kernel_rfl) ?_
  refine o_callB 26 H0 rfl rfl (wn rfl) (R_call1 H0 rfl rfl (fun w => by simp [go_sem])) rfl hL (q6 _) (P3 29 26 33 rfl rfl rfl) fun a1 w1 H1 hL' => ⟨hL', ?_⟩
  replace hL := hL'
  exact dag_use hS3 (by kernel_rfl) (by kernel_rfl) ⟨H1.pick _ (.cons rfl (.cons rfl (.cons rfl .nil))), hL⟩
 refine dag_cut (fun a' w' => ∃ g, Fr a' 37 [(13, .string (s0 ++ s1 ++ s2)), (16, .slice (some ⟨g, 0, none⟩) 1 1), (21, .string t4), (25, .string s5), (30, .string s6), (35, .string s7)] ∧ Live W ((g, #[.int .u8 (m.ikind : Nat)], 5) :: [(W.heap.size, icells m, 33)]) w') 7 #[true, true, true, true, true, true, true, true, true, true, true, true, true, true, false, false, true, true, true, false, true, true, true, false, true, true, true, true, false, true, true, true, true, false, false] ?_ (fun hS5 => ?_)
 ·rintro a0 w0 ⟨g, H0, hL⟩
  refine a_all1 14 (by kernel_rfl) ?_
  refine o_op 14 H0 rfl rfl (wn rfl) (R_cv H0 rfl rfl (hcv hL)) rfl (P6 17 13 21 25 30 35 rfl rfl rfl rfl rfl rfl) fun _ H1 => ?_
  refine ⟨hL.tail, ?_⟩
  refine a_opZ 15 H1 rfl rfl (by kernel_rfl) (wn rfl) (fun w hL => R_bin H1 rfl rfl rfl (B_cat _ _ c3)) hL.tail rfl (P5 18 21 25 30 35 rfl rfl rfl rfl rfl) fun _ H2 => ?_
  refine a_opZ 19 H2 rfl rfl (by kernel_rfl) (wn rfl) (fun w hL => R_bin H2 rfl rfl rfl (B_cat _ _ c4)) hL.tail rfl (P4 22 25 30 35 rfl rfl rfl rfl) fun _ H3 => ?_
  refine a_opZ 23 H3 rfl rfl (by kernel_rfl) (wn rfl) (fun w hL => R_bin H3 rfl rfl rfl (B_cat _ _ c5)) hL.tail rfl (P3 26 30 35 rfl rfl rfl) fun _ H4 => ?_
  refine a_opZ 28 H4 rfl rfl (by kernel_rfl) (wn rfl) (fun w hL => R_bin H4 rfl rfl rfl (B_cat _ _ c6)) hL.tail rfl (P2 31 35 rfl rfl) fun _ H5 => ?_
  refine a_opZ 33 H5 rfl rfl (by kernel_rfl) (wn rfl) (fun w hL => R_bin H5 rfl rfl rfl (B_cat _ _ c7)) hL.tail rfl (P1 36 rfl) fun _ H6 => ?_
  refine a_opZ 34 H6 rfl rfl (by kernel_rfl) (wn rfl) (fun w hL => R_as H6 rfl rfl) hL.tail rfl (P1 2 rfl) fun _ H7 => ?_
  exact dag_use hS0 (by kernel_rfl) (by kernel_rfl) ⟨H7.pick _ (.cons rfl .nil), hL.tail⟩
 refine dag_cut (fun a' w' => ∃ g, Fr a' 37 [(13, .string (s0 ++ s1 ++ s2)), (16, .slice (some ⟨g, 0, none⟩) 1 1), (21, .string t4), (25, .string s5), (30, .string s6), (34, .int .u64 (zig m.iN : Nat))] ∧ Live W ((g, #[.int .u8 (m.ikind : Nat)], 5) :: [(W.heap.size, icells m, 33)]) w') 8 #[true, true, true, true, true, true, true, true, true, true, true, true, true, true, false, false, true, true, true, false, true, true, true, false, true, true, true, true, false, true, true, true, false, false, false] ?_ (fun hS6 => ?_)
 ·rintro a0 w0 ⟨g, H0, hL⟩
  refine a_all2 14 32 (by kernel_rfl) ?_ ?_
  ·refine o_op (m' := [(17, _), (13, _), (21, _), (25, _), (30, _), (34, _)]) 14 H0 rfl rfl (wn rfl) (R_cv H0 rfl rfl (hcv hL)) rfl (.cons rfl (.cons rfl (.cons rfl (.cons rfl (.cons rfl (.cons rfl .nil)))))) fun a1 H1 => ?_
   refine ⟨hL.tail, ?_⟩
   refine a_opZ 15 H1 rfl rfl (by kernel_rfl) (wn rfl) (fun w hL => R_bin H1 rfl rfl rfl (B_cat _ _ c3)) hL.tail rfl (P5 18 21 25 30 34 rfl rfl rfl rfl rfl) fun _ H2 => ?_
   refine a_opZ 19 H2 rfl rfl (by kernel_rfl) (wn rfl) (fun w hL => R_bin H2 rfl rfl rfl (B_cat _ _ c4)) hL.tail rfl (P4 22 25 30 34 rfl rfl rfl rfl) fun _ H3 => ?_
   refine a_opZ 23 H3 rfl rfl (by kernel_rfl) (wn rfl) (fun w hL => R_bin H3 rfl rfl rfl (B_cat _ _ c5)) hL.tail rfl (P3 26 30 34 rfl rfl rfl) fun _ H4 => ?_
   refine a_opZ 28 H4 rfl rfl (by kernel_rfl) (wn rfl) (fun w hL => R_bin H4 rfl rfl rfl (B_cat _ _ c6)) hL.tail rfl (P2 31 34 rfl rfl) fun _ H5 => ?_
   exact dag_use hS1 (by kernel_rfl) (by kernel_rfl) ⟨H5.pick _ (.cons rfl (.cons rfl .nil)), hL.tail⟩
  ·refine o_callB (m' := [(35, _), (13, _), (16, _), (21, _), (25, _), (30, _)]) 32 H0 rfl rfl (wn rfl) (R_call1 H0 rfl rfl (fun w => by simp [go_sem])) rfl hL (q9 _) (.cons rfl (.cons rfl (.cons rfl (.cons rfl (.cons rfl (.cons rfl .nil)))))) fun a1 w1 H1 hL' => ⟨hL'.tail, ?_⟩
   replace hL := hL'
   exact dag_use hS5 (by kernel_rfl) (by kernel_rfl) ⟨_, H1.pick _ (.cons rfl (.cons rfl (.cons rfl (.cons rfl (.cons rfl (.cons rfl .nil)))))), hL⟩
 refine dag_cut (fun a' w' => Fr a' 37 [(13, .string (s0 ++ s1 ++ s2)), (15, .int .u8 (m.ikind : Nat)), (21, .string t4), (25, .string s5), (30, .string s6), (35, .string s7)] ∧ Live W [(W.heap.size, icells m, 33)] w') 8 #[true, true, true, true, true, true, true, true, true, true, true, true, true, false, false, false, true, true, true, false, true, true, true, false, true, true, true, true, false, true, true, true, true, false, false] ?_ (fun hS7 => ?_)
 ·rintro a0 w0 ⟨H0, hL⟩
  refine a_all1 13 (by kernel_rfl) ?_
  refine o_op 13 H0 rfl rfl (wn rfl) (R_bs1 H0 rfl rfl (bs_u8 _)) rfl (P6 16 13 21 25 30 35 rfl rfl rfl rfl rfl rfl) fun _ H1 => ?_
  replace hL := hL.alloc #[.int .u8 (m.ikind : Nat)] 5
  refine ⟨hL.tail, ?_⟩
  exact dag_use hS5 (by kernel_rfl) (by kernel_rfl) ⟨_, H1.pick _ (.cons rfl (.cons rfl (.cons rfl (.cons rfl (.cons rfl (.cons rfl .nil)))))), hL⟩
 refine dag_cut (fun a' w' => Fr a' 37 [(22, .string (s0 ++ s1 ++ s2 ++ s3 ++ t4)), (24, .int .i64 m.ipart), (28, .int .i64 m.iat), (33, .int .i64 m.iN)] ∧ Live W [(W.heap.size, icells m, 33)] w') 9 #[true, true, true, true, true, true, true, true, true, true, true, true, true, true, true, true, true, true, true, true, true, true, false, false, true, true, false, false, false, true, true, false, false, false, false] ?_ (fun hS8 => ?_)
 ·rintro a0 w0 ⟨H0, hL⟩
  refine a_all1 22 (by kernel_rfl) ?_
  refine o_callB 22 H0 rfl rfl (wn rfl) (R_call1 H0 rfl rfl (fun w => by simp [go_sem])) rfl hL (q5 _) (P4 25 22 28 33 rfl rfl rfl rfl) fun a1 w1 H1 hL' => ⟨hL', ?_⟩
  replace hL := hL'
  refine a_opZ 23 H1 rfl rfl (by kernel_rfl) (wn rfl) (fun w hL => R_bin H1 rfl rfl rfl (B_cat _ _ c5)) hL rfl (P3 26 28 33 rfl rfl rfl) fun _ H2 => ?_
  exact dag_use hS4 (by kernel_rfl) (by kernel_rfl) ⟨H2.pick _ (.cons rfl (.cons rfl (.cons rfl .nil))), hL⟩
 refine dag_cut (fun a' w' => ∃ g, Fr a' 37 [(13, .string (s0 ++ s1 ++ s2)), (16, .slice (some ⟨g, 0, none⟩) 1 1), (21, .string t4), (25, .string s5), (30, .string s6), (33, .int .i64 m.iN)] ∧ Live W ((g, #[.int .u8 (m.ikind : Nat)], 5) :: [(W.heap.size, icells m, 33)]) w') 9 #[true, true, true, true, true, true, true, true, true, true, true, true, true, true, false, false, true, true, true, false, true, true, true, false, true, true, true, true, false, true, true, false, false, false, false] ?_ (fun hS9 => ?_)
 ·rintro a0 w0 ⟨g, H0, hL⟩
  refine a_all2 14 31 (by kernel_rfl) ?_ ?_
  ·refine o_op (m' := [(17, _), (13, _), (21, _), (25, _), (30, _), (33, _)]) 14 H0 rfl rfl (wn rfl) (R_cv H0 rfl rfl (hcv hL)) rfl (.cons rfl (.cons rfl (.cons rfl (.cons rfl (.cons rfl (.cons rfl .nil)))))) fun a1 H1 => ?_
   refine ⟨hL.tail, ?_⟩
   refine a_opZ 15 H1 rfl rfl (by kernel_rfl) (wn rfl) (fun w hL => R_bin H1 rfl rfl rfl (B_cat _ _ c3)) hL.tail rfl (P5 18 21 25 30 33 rfl rfl rfl rfl rfl) fun _ H2 => ?_
   refine a_opZ 19 H2 rfl rfl (by kernel_rfl) (wn rfl) (fun w hL => R_bin H2 rfl rfl rfl (B_cat _ _ c4)) hL.tail rfl (P4 22 25 30 33 rfl rfl rfl rfl) fun _ H3 => ?_
   refine a_opZ 23 H3 rfl rfl (by kernel_rfl) (wn rfl) (fun w hL => R_bin H3 rfl rfl rfl (B_cat _ _ c5)) hL.tail rfl (P3 26 30 33 rfl rfl rfl) fun _ H4 => ?_
   refine a_opZ 28 H4 rfl rfl (by kernel_rfl) (wn rfl) (fun w hL => R_bin H4 rfl rfl rfl (B_cat _ _ c6)) hL.tail rfl (P2 31 33 rfl rfl) fun _ H5 => ?_
   exact dag_use hS2 (by kernel_rfl) (by kernel_rfl) ⟨H5.pick _ (.cons rfl (.cons rfl .nil)), hL.tail⟩
  ·refine o_callB (m' := [(34, _), (13, _), (16, _), (21, _), (25, _), (30, _)]) 31 H0 rfl rfl (wn rfl) (R_call1 H0 rfl rfl (fun w => by simp [go_sem])) rfl hL (q7 _) (.cons rfl (.cons rfl (.cons rfl (.cons rfl (.cons rfl (.cons rfl .nil)))))) fun a1 w1 H1 hL' => ⟨hL'.tail, ?_⟩
   replace hL := hL'
   exact dag_use hS6 (by kernel_rfl) (by kernel_rfl) ⟨_, H1.pick _ (.cons rfl (.cons rfl (.cons rfl (.cons rfl (.cons rfl (.cons rfl .nil)))))), hL⟩
 refine dag_cut (fun a' w' => Fr a' 37 [(13, .string (s0 ++ s1 ++ s2)), (15, .int .u8 (m.ikind : Nat)), (21, .string t4), (25, .string s5), (30, .string s6), (34, .int .u64 (zig m.iN : Nat))] ∧ Live W [(W.heap.size, icells m, 33)] w') 9 #[true, true, true, true, true, true, true, true, true, true, true, true, true, false, false, false, true, true, true, false, true, true, true, false, true, true, true, true, false, true, true, true, false, false, false] ?_ (fun hS10 => ?_)
 ·rintro a0 w0 ⟨H0, hL⟩
  refine a_all2 13 32 (by kernel_rfl) ?_ ?_
  ·refine o_op (m' := [(16, _), (13, _), (21, _), (25, _), (30, _), (34, _)]) 13 H0 rfl rfl (wn rfl) (R_bs1 H0 rfl rfl (bs_u8 _)) rfl (.cons rfl (.cons rfl (.cons rfl (.cons rfl (.cons rfl (.cons rfl .nil)))))) fun a1 H1 => ?_
   replace hL := hL.alloc #[.int .u8 (m.ikind : Nat)] 5
   refine ⟨hL.tail, ?_⟩
   exact dag_use hS6 (by kernel_rfl) (by kernel_rfl) ⟨_, H1.pick _ (.cons rfl (.cons rfl (.cons rfl (.cons rfl (.cons rfl (.cons rfl .nil)))))), hL⟩
  ·refine o_callB (m' := [(35, _), (13, _), (15, _), (21, _), (25, _), (30, _)]) 32 H0 rfl rfl (wn rfl) (R_call1 H0 rfl rfl (fun w => by simp [go_sem])) rfl hL (q9 _) (.cons rfl (.cons rfl (.cons rfl (.cons rfl (.cons rfl (.cons rfl .nil)))))) fun a1 w1 H1 hL' => ⟨hL', ?_⟩
   replace hL := hL'
   exact dag_use hS7 (by kernel_rfl) (by kernel_rfl) ⟨H1.pick _ (.cons rfl (.cons rfl (.cons rfl (.cons rfl (.cons rfl (.cons rfl .nil)))))), hL⟩
 refine dag_cut (fun a' w' => ∃ g, Fr a' 37 [(13, .string (s0 ++ s1 ++ s2)), (16, .slice (some ⟨g, 0, none⟩) 1 1), (21, .string t4), (25, .string s5), (29, .int .u64 (zig m.iat : Nat)), (33, .int .i64 m.iN)] ∧ Live W ((g, #[.int .u8 (m.ikind : Nat)], 5) :: [(W.heap.size, icells m, 33)]) w') 10 #[true, true, true, true, true, true, true, true, true, true, true, true, true, true, false, false, true, true, true, false, true, true, true, false, true, true, true, false, false, true, true, false, false, false, false] ?_ (fun hS11 => ?_)
 ·rintro a0 w0 ⟨g, H0, hL⟩
  refine a_all2 14 27 (by kernel_rfl) ?_ ?_
  ·refine o_op (m' := [(17, _), (13, _), (21, _), (25, _), (29, _), (33, _)]) 14 H0 rfl rfl (wn rfl) (R_cv H0 rfl rfl (hcv hL)) rfl (.cons rfl (.cons rfl (.cons rfl (.cons rfl (.cons rfl (.cons rfl .nil)))))) fun a1 H1 => ?_
   refine ⟨hL.tail, ?_⟩
   refine a_opZ 15 H1 rfl rfl (by kernel_rfl) (wn rfl) (fun w hL => R_bin H1 rfl rfl rfl (B_cat _ _ c3)) hL.tail rfl (P5 18 21 25 29 33 rfl rfl rfl rfl rfl) fun _ H2 => ?_
   refine a_opZ 19 H2 rfl rfl (by kernel_rfl) (wn rfl) (fun w hL => R_bin H2 rfl rfl rfl (B_cat _ _ c4)) hL.tail rfl (P4 22 25 29 33 rfl rfl rfl rfl) fun _ H3 => ?_
   refine a_opZ 23 H3 rfl rfl (by kernel_rfl) (wn rfl) (fun w hL => R_bin H3 rfl rfl rfl (B_cat _ _ c5)) hL.tail rfl (P3 26 29 33 rfl rfl rfl) fun _ H4 => ?_
   exact dag_use hS3 (by kernel_rfl) (by kernel_rfl) ⟨H4.pick _ (.cons rfl (.cons rfl (.cons rfl .nil))), hL.tail⟩
  ·refine o_callB (m' := [(30, _), (13, _), (16, _), (21, _), (25, _), (33, _)]) 27 H0 rfl rfl (wn rfl) (R_call1 H0 rfl rfl (fun w => by simp [go_sem])) rfl hL (q8 _) (.cons rfl (.cons rfl (.cons rfl (.cons rfl (.cons rfl (.cons rfl .nil)))))) fun a1 w1 H1 hL' => ⟨hL'.tail, ?_⟩
   replace hL := hL'
   exact dag_use hS9 (by kernel_rfl) (by kernel_rfl) ⟨_, H1.pick _ (.cons rfl (.cons rfl (.cons rfl (.cons rfl (.cons rfl (.cons rfl .nil)))))), hL⟩
 refine dag_cut (fun a' w' => Fr a' 37 [(13, .string (s0 ++ s1 ++ s2)), (15, .int .u8 (m.ikind : Nat)), (21, .string t4), (25, .string s5), (30, .string s6), (33, .int .i64 m.iN)] ∧ Live W [(W.heap.size, icells m, 33)] w') 10 #[true, true, true, true, true, true, true, true, true, true, true, true, true, false, false, false, true, true, true, false, true, true, true, false, true, true, true, true, false, true, true, false, false, false, false] ?_ (fun hS12 => ?_)
 ·rintro a0 w0 ⟨H0, hL⟩
  refine a_all2 13 31 (by kernel_rfl) ?_ ?_
  ·refine o_op (m' := [(16, _), (13, _), (21, _), (25, _), (30, _), (33, _)]) 13 H0 rfl rfl (wn rfl) (R_bs1 H0 rfl rfl (bs_u8 _)) rfl (.cons rfl (.cons rfl (.cons rfl (.cons rfl (.cons rfl (.cons rfl .nil)))))) fun a1 H1 => ?_
   replace hL := hL.alloc #[.int .u8 (m.ikind : Nat)] 5
   refine ⟨hL.tail, ?_⟩
   exact dag_use hS9 (by kernel_rfl) (by kernel_rfl) ⟨_, H1.pick _ (.cons rfl (.cons rfl (.cons rfl (.cons rfl (.cons rfl (.cons rfl .nil)))))), hL⟩
  ·refine o_callB (m' := [(34, _), (13, _), (15, _), (21, _), (25, _), (30, _)]) 31 H0 rfl rfl (wn rfl) (R_call1 H0 rfl rfl (fun w => by simp [go_sem])) rfl hL (q7 _) (.cons rfl (.cons rfl (.cons rfl (.cons rfl (.cons rfl (.cons rfl .nil)))))) fun a1 w1 H1 hL' => ⟨hL', ?_⟩
   replace hL := hL'
   exact dag_use hS10 (by kernel_rfl) (by kernel_rfl) ⟨H1.pick _ (.cons rfl (.cons rfl (.cons rfl (.cons rfl (.cons rfl (.cons rfl .nil)))))), hL⟩
 refine dag_cut (fun a' w' => Fr a' 37 [(18, .string (s0 ++ s1 ++ s2 ++ s3)), (20, .string m.ikey), (24, .int .i64 m.ipart), (28, .int .i64 m.iat), (33, .int .i64 m.iN)] ∧ Live W [(W.heap.size, icells m, 33)] w') 11 #[true, true, true, true, true, true, true, true, true, true, true, true, true, true, true, true, true, true, false, false, true, true, false, false, true, true, false, false, false, true, true, false, false, false, false] ?_ (fun hS13 => ?_)
 ·rintro a0 w0 ⟨H0, hL⟩
  refine a_all1 18 (by kernel_rfl) ?_
  refine o_callB 18 H0 rfl rfl (wn rfl) (R_call1 H0 rfl rfl (fun w => by simp [go_sem])) rfl hL (q4 _) (P5 21 18 24 28 33 rfl rfl rfl rfl rfl) fun a1 w1 H1 hL' => ⟨hL', ?_⟩
  replace hL := hL'
  refine a_opZ 19 H1 rfl rfl (by kernel_rfl) (wn rfl) (fun w hL => R_bin H1 rfl rfl rfl (B_cat _ _ c4)) hL rfl (P4 22 24 28 33 rfl rfl rfl rfl) fun _ H2 => ?_
  exact dag_use hS8 (by kernel_rfl) (by kernel_rfl) ⟨H2.pick _ (.cons rfl (.cons rfl (.cons rfl (.cons rfl .nil)))), hL⟩
 refine dag_cut (fun a' w' => ∃ g, Fr a' 37 [(13, .string (s0 ++ s1 ++ s2)), (16, .slice (some ⟨g, 0, none⟩) 1 1), (21, .string t4), (25, .string s5), (28, .int .i64 m.iat), (33, .int .i64 m.iN)] ∧ Live W ((g, #[.int .u8 (m.ikind : Nat)], 5) :: [(W.heap.size, icells m, 33)]) w') 11 #[true, true, true, true, true, true, true, true, true, true, true, true, true, true, false, false, true, true, true, false, true, true, true, false, true, true, false, false, false, true, true, false, false, false, false] ?_ (fun hS14 => ?_)
 ·rintro a0 w0 ⟨g, H0, hL⟩
  refine a_all2 14 26 (by kernel_rfl) ?_ ?_
  ·refine o_op (m' := [(17, _), (13, _), (21, _), (25, _), (28, _), (33, _)]) 14 H0 rfl rfl (wn rfl) (R_cv H0 rfl rfl (hcv hL)) rfl (.cons rfl (.cons rfl (.cons rfl (.cons rfl (.cons rfl (.cons rfl .nil)))))) fun a1 H1 => ?_
   refine ⟨hL.tail, ?_⟩
   refine a_opZ 15 H1 rfl rfl (by kernel_rfl) (wn rfl) (fun w hL => R_bin H1 rfl rfl rfl (B_cat _ _ c3)) hL.tail rfl (P5 18 21 25 28 33 rfl rfl rfl rfl rfl) fun _ H2 => ?_
   refine a_opZ 19 H2 rfl rfl (by kernel_rfl) (wn rfl) (fun w hL => R_bin H2 rfl rfl rfl (B_cat _ _ c4)) hL.tail rfl (P4 22 25 28 33 rfl rfl rfl rfl) fun _ H3 => ?_
   refine a_opZ 23 H3 rfl rfl (by kernel_rfl) (wn rfl) (fun w hL => R_bin H3 rfl rfl rfl (B_cat _ _ c5)) hL.tail rfl (P3 26 28 33 rfl rfl rfl) fun _ H4 => ?_
   exact dag_use hS4 (by kernel_rfl) (by kernel_rfl) ⟨H4.pick _ (.cons rfl (.cons rfl (.cons rfl .nil))), hL.tail⟩
  ·refine o_callB (m' := [(29, _), (13, _), (16, _), (21, _), (25, _), (33, _)]) 26 H0 rfl rfl (wn rfl) (R_call1 H0 rfl rfl (fun w => by simp [go_sem])) rfl hL (q6 _) (.cons rfl (.cons rfl (.cons rfl (.cons rfl (.cons rfl (.cons rfl .nil)))))) fun a1 w1 H1 hL' => ⟨hL'.tail, ?_⟩
   replace hL := hL'
   exact dag_use hS11 (by kernel_rfl) (by kernel_rfl) ⟨_, H1.pick _ (.cons rfl (.cons rfl (.cons rfl (.cons rfl (.cons rfl (.cons rfl .nil)))))), hL⟩
 refine dag_cut (fun a' w' => Fr a' 37 [(13, .string (s0 ++ s1 ++ s2)), (15, .int .u8 (m.ikind : Nat)), (21, .string t4), (25, .string s5), (29, .int .u64 (zig m.iat : Nat)), (33, .int .i64 m.iN)] ∧ Live W [(W.heap.size, icells m, 33)] w') 11 #[true, true, true, true, true, true, true, true, true, true, true, true, true, false, false, false, true, true, true, false, true, true, true, false, true, true, true, false, false, true, true, false, false, false, false] ?_ (fun hS15 => ?_)
 ·rintro a0 w0 ⟨H0, hL⟩
  refine a_all2 13 27 (by kernel_rfl) ?_ ?_
  ·refine o_op (m' := [(16, _), (13, _), (21, _), (25, _), (29, _), (33, _)]) 13 H0 rfl rfl (wn rfl) (R_bs1 H0 rfl rfl (bs_u8 _)) rfl (.cons rfl (.cons rfl (.cons rfl (.cons rfl (.cons rfl (.cons rfl .nil)))))) fun a1 H1 => ?_
   replace hL := hL.alloc #[.int .u8 (m.ikind : Nat)] 5
   refine ⟨hL.tail, ?_⟩
   exact dag_use hS11 (by kernel_rfl) (by kernel_rfl) ⟨_, H1.pick _ (.cons rfl (.cons rfl (.cons rfl (.cons rfl (.cons rfl (.cons rfl .nil)))))), hL⟩
  ·refine o_callB (m' := [(30, _), (13, _), (15, _), (21, _), (25, _), (33, _)]) 27 H0 rfl rfl (wn rfl) (R_call1 H0 rfl rfl (fun w => by simp [go_sem])) rfl hL (q8 _) (.cons rfl (.cons rfl (.cons rfl (.cons rfl (.cons rfl (.cons rfl .nil)))))) fun a1 w1 H1 hL' => ⟨hL', ?_⟩
   replace hL := hL'
   exact dag_use hS12 (by kernel_rfl) (by kernel_rfl) ⟨H1.pick _ (.cons rfl (.cons rfl (.cons rfl (.cons rfl (.cons rfl (.cons rfl .nil)))))), hL⟩
 refine dag_cut (fun a' w' => ∃ g, Fr a' 37 [(13, .string (s0 ++ s1 ++ s2)), (16, .slice (some ⟨g, 0, none⟩) 1 1), (21, .string t4), (24, .int .i64 m.ipart), (28, .int .i64 m.iat), (33, .int .i64 m.iN)] ∧ Live W ((g, #[.int .u8 (m.ikind : Nat)], 5) :: [(W.heap.size, icells m, 33)]) w') 12 #[true, true, true, true, true, true, true, true, true, true, true, true, true, true, false, false, true, true, true, false, true, true, false, false, true, true, false, false, false, true, true, false, false, false, false] ?_ (fun hS16 => ?_)
 ·rintro a0 w0 ⟨g, H0, hL⟩
  refine a_all2 14 22 (by kernel_rfl) ?_ ?_
  ·refine o_op (m' := [(17, _), (13, _), (21, _), (24, _), (28, _), (33, _)]) 14 H0 rfl rfl (wn rfl) (R_cv H0 rfl rfl (hcv hL)) rfl (.cons rfl (.cons rfl (.cons rfl (.cons rfl (.cons rfl (.cons rfl .nil)))))) fun a1 H1 => ?_
   refine ⟨hL.tail, ?_⟩
   refine a_opZ 15 H1 rfl rfl (by kernel_rfl) (wn rfl) (fun w hL => R_bin H1 rfl rfl rfl (B_cat _ _ c3)) hL.tail rfl (P5 18 21 24 28 33 rfl rfl rfl rfl rfl) fun _ H2 => ?_
   refine a_opZ 19 H2 rfl rfl (by kernel_rfl) (wn rfl) (fun w hL => R_bin H2 rfl rfl rfl (B_cat _ _ c4)) hL.tail rfl (P4 22 24 28 33 rfl rfl rfl rfl) fun _ H3 => ?_
   exact dag_use hS8 (by kernel_rfl) (by kernel_rfl) ⟨H3.pick _ (.cons rfl (.cons rfl (.cons rfl (.cons rfl .nil)))), hL.tail⟩
  ·refine o_callB (m' := [(25, _), (13, _), (16, _), (21, _), (28, _), (33, _)]) 22 H0 rfl rfl (wn rfl) (R_call1 H0 rfl rfl (fun w => by simp [go_sem])) rfl hL (q5 _) (.cons rfl (.cons rfl (.cons rfl (.cons rfl (.cons rfl (.cons rfl .nil)))))) fun a1 w1 H1 hL' => ⟨hL'.tail, ?_⟩
   replace hL := hL'
   exact dag_use hS14 (by kernel_rfl) (by kernel_rfl) ⟨_, H1.pick _ (.cons rfl (.cons rfl (.cons rfl (.cons rfl (.cons rfl (.cons rfl .nil)))))), hL⟩
 refine dag_cut (fun a' w' => Fr a' 37 [(13, .string (s0 ++ s1 ++ s2)), (15, .int .u8 (m.ikind : Nat)), (21, .string t4), (25, .string s5), (28, .int .i64 m.iat), (33, .int .i64 m.iN)] ∧ Live W [(W.heap.size, icells m, 33)] w') 12 #[true, true, true, true, true, true, true, true, true, true, true, true, true, false, false, false, true, true, true, false, true, true, true, false, true, true, false, false, false, true, true, false, false, false, false] ?_ (fun hS17 => ?_)
 ·rintro a0 w0 ⟨H0, hL⟩
  refine a_all2 13 26 (by kernel_rfl) ?_ ?_
  ·refine o_op (m' := [(16, _), (13, _), (21, _), (25, _), (28, _), (33, _)]) 13 H0 rfl rfl (wn rfl) (R_bs1 H0 rfl rfl (bs_u8 _)) rfl (.cons rfl (.cons rfl (.cons rfl (.cons rfl (.cons rfl (.cons rfl .nil)))))) fun a1 H1 => ?_
   replace hL := hL.alloc #[.int .u8 (m.ikind : Nat)] 5
   refine ⟨hL.tail, ?_⟩
   exact dag_use hS14 (by kernel_rfl) (by kernel_rfl) ⟨_, H1.pick _ (.cons rfl (.cons rfl (.cons rfl (.cons rfl (.cons rfl (.cons rfl .nil)))))), hL⟩
  ·refine o_callB (m' := [(29, _), (13, _), (15, _), (21, _), (25, _), (33, _)]) 26 H0 rfl rfl (wn rfl) (R_call1 H0 rfl rfl (fun w => by simp [go_sem])) rfl hL (q6 _) (.cons rfl (.cons rfl (.cons rfl (.cons rfl (.cons rfl (.cons rfl .nil)))))) fun a1 w1 H1 hL' => ⟨hL', ?_⟩
   replace hL := hL'
   exact dag_use hS15 (by kernel_rfl) (by kernel_rfl) ⟨H1.pick _ (.cons rfl (.cons rfl (.cons rfl (.cons rfl (.cons rfl (.cons rfl .nil)))))), hL⟩
 refine dag_cut (fun a' w' => ∃ g, Fr a' 37 [(13, .string (s0 ++ s1 ++ s2)), (16, .slice (some ⟨g, 0, none⟩) 1 1), (20, .string m.ikey), (24, .int .i64 m.ipart), (28, .int .i64 m.iat), (33, .int .i64 m.iN)] ∧ Live W ((g, #[.int .u8 (m.ikind : Nat)], 5) :: [(W.heap.size, icells m, 33)]) w') 13 #[true, true, true, true, true, true, true, true, true, true, true, true, true, true, false, false, true, true, false, false, true, true, false, false, true, true, false, false, false, true, true, false, false, false, false] ?_ (fun hS18 => ?_)
 ·rintro a0 w0 ⟨g, H0, hL⟩
  refine a_all2 14 18 (by kernel_rfl) ?_ ?_
  ·refine o_op (m' := [(17, _), (13, _), (20, _), (24, _), (28, _), (33, _)]) 14 H0 rfl rfl (wn rfl) (R_cv H0 rfl rfl (hcv hL)) rfl (.cons rfl (.cons rfl (.cons rfl (.cons rfl (.cons rfl (.cons rfl .nil)))))) fun a1 H1 => ?_
   refine ⟨hL.tail, ?_⟩
   refine a_opZ 15 H1 rfl rfl (by kernel_rfl) (wn rfl) (fun w hL => R_bin H1 rfl rfl rfl (B_cat _ _ c3)) hL.tail rfl (P5 18 20 24 28 33 rfl rfl rfl rfl rfl) fun _ H2 => ?_
   exact dag_use hS13 (by kernel_rfl) (by kernel_rfl) ⟨H2.pick _ (.cons rfl (.cons rfl (.cons rfl (.cons rfl (.cons rfl .nil))))), hL.tail⟩
  ·refine o_callB (m' := [(21, _), (13, _), (16, _), (24, _), (28, _), (33, _)]) 18 H0 rfl rfl (wn rfl) (R_call1 H0 rfl rfl (fun w => by simp [go_sem])) rfl hL (q4 _) (.cons rfl (.cons rfl (.cons rfl (.cons rfl (.cons rfl (.cons rfl .nil)))))) fun a1 w1 H1 hL' => ⟨hL'.tail, ?_⟩
   replace hL := hL'
   exact dag_use hS16 (by kernel_rfl) (by kernel_rfl) ⟨_, H1.pick _ (.cons rfl (.cons rfl (.cons rfl (.cons rfl (.cons rfl (.cons rfl .nil)))))), hL⟩
 refine dag_cut (fun a' w' => Fr a' 37 [(13, .string (s0 ++ s1 ++ s2)), (15, .int .u8 (m.ikind : Nat)), (21, .string t4), (24, .int .i64 m.ipart), (28, .int .i64 m.iat), (33, .int .i64 m.iN)] ∧ Live W [(W.heap.size, icells m, 33)] w') 13 #[true, true, true, true, true, true, true, true, true, true, true, true, true, false, false, false, true, true, true, false, true, true, false, false, true, true, false, false, false, true, true, false, false, false, false] ?_ (fun hS19 => ?_)
 ·rintro a0 w0 ⟨H0, hL⟩
  refine a_all2 13 22 (by kernel_rfl) ?_ ?_
  ·refine o_op (m' := [(16, _), (13, _), (21, _), (24, _), (28, _), (33, _)]) 13 H0 rfl rfl (wn rfl) (R_bs1 H0 rfl rfl (bs_u8 _)) rfl (.cons rfl (.cons rfl (.cons rfl (.cons rfl (.cons rfl (.cons rfl .nil)))))) fun a1 H1 => ?_
   replace hL := hL.alloc #[.int .u8 (m.ikind : Nat)] 5
   refine ⟨hL.tail, ?_⟩
   exact dag_use hS16 (by kernel_rfl) (by kernel_rfl) ⟨_, H1.pick _ (.cons rfl (.cons rfl (.cons rfl (.cons rfl (.cons rfl (.cons rfl .nil)))))), hL⟩
  ·refine o_callB (m' := [(25, _), (13, _), (15, _), (21, _), (28, _), (33, _)]) 22 H0 rfl rfl (wn rfl) (R_call1 H0 rfl rfl (fun w => by simp [go_sem])) rfl hL (q5 _) (.cons rfl (.cons rfl (.cons rfl (.cons rfl (.cons rfl (.cons rfl .nil)))))) fun a1 w1 H1 hL' => ⟨hL', ?_⟩
   replace hL := hL'
   exact dag_use hS17 (by kernel_rfl) (by kernel_rfl) ⟨H1.pick _ (.cons rfl (.cons rfl (.cons rfl (.cons rfl (.cons rfl (.cons rfl .nil)))))), hL⟩
 refine dag_cut (fun a' w' => Fr a' 37 [(9, .string (s0 ++ s1)), (11, .int .i64 m.ilow), (17, .string s3), (20, .string m.ikey), (24, .int .i64 m.ipart), (28, .int .i64 m.iat), (33, .int .i64 m.iN)] ∧ Live W [(W.heap.size, icells m, 33)] w') 14 #[true, true, true, true, true, true, true, true, true, false, false, true, true, true, true, false, true, true, false, false, true, true, false, false, true, true, false, false, false, true, true, false, false, false, false] ?_ (fun hS20 => ?_)
 ·rintro a0 w0 ⟨H0, hL⟩
  refine a_all1 9 (by kernel_rfl) ?_
  refine o_callB 9 H0 rfl rfl (wn rfl) (R_call1 H0 rfl rfl (fun w => by simp [go_sem])) rfl hL (q2 _) (P7 12 9 17 20 24 28 33 rfl rfl rfl rfl rfl rfl rfl) fun a1 w1 H1 hL' => ⟨hL', ?_⟩
  replace hL := hL'
  refine a_opZ 10 H1 rfl rfl (by kernel_rfl) (wn rfl) (fun w hL => R_bin H1 rfl rfl rfl (B_cat _ _ c2)) hL rfl (P6 13 17 20 24 28 33 rfl rfl rfl rfl rfl rfl) fun _ H2 => ?_
  refine a_opZ 15 H2 rfl rfl (by kernel_rfl) (wn rfl) (fun w hL => R_bin H2 rfl rfl rfl (B_cat _ _ c3)) hL rfl (P5 18 20 24 28 33 rfl rfl rfl rfl rfl) fun _ H3 => ?_
  exact dag_use hS13 (by kernel_rfl) (by kernel_rfl) ⟨H3.pick _ (.cons rfl (.cons rfl (.cons rfl (.cons rfl (.cons rfl .nil))))), hL⟩
 refine dag_cut (fun a' w' => Fr a' 37 [(13, .string (s0 ++ s1 ++ s2)), (15, .int .u8 (m.ikind : Nat)), (20, .string m.ikey), (24, .int .i64 m.ipart), (28, .int .i64 m.iat), (33, .int .i64 m.iN)] ∧ Live W [(W.heap.size, icells m, 33)] w') 14 #[true, true, true, true, true, true, true, true, true, true, true, true, true, false, false, false, true, true, false, false, true, true, false, false, true, true, false, false, false, true, true, false, false, false, false] ?_ (fun hS21 => ?_)
 ·rintro a0 w0 ⟨H0, hL⟩
  refine a_all2 13 18 (by kernel_rfl) ?_ ?_
  ·refine o_op (m' := [(16, _), (13, _), (20, _), (24, _), (28, _), (33, _)]) 13 H0 rfl rfl (wn rfl) (R_bs1 H0 rfl rfl (bs_u8 _)) rfl (.cons rfl (.cons rfl (.cons rfl (.cons rfl (.cons rfl (.cons rfl .nil)))))) fun a1 H1 => ?_
   replace hL := hL.alloc #[.int .u8 (m.ikind : Nat)] 5
   refine ⟨hL.tail, ?_⟩
   exact dag_use hS18 (by kernel_rfl) (by kernel_rfl) ⟨_, H1.pick _ (.cons rfl (.cons rfl (.cons rfl (.cons rfl (.cons rfl (.cons rfl .nil)))))), hL⟩
  ·refine o_callB (m' := [(21, _), (13, _), (15, _), (24, _), (28, _), (33, _)]) 18 H0 rfl rfl (wn rfl) (R_call1 H0 rfl rfl (fun w => by simp [go_sem])) rfl hL (q4 _) (.cons rfl (.cons rfl (.cons rfl (.cons rfl (.cons rfl (.cons rfl .nil)))))) fun a1 w1 H1 hL' => ⟨hL', ?_⟩
   replace hL := hL'
   exact dag_use hS19 (by kernel_rfl) (by kernel_rfl) ⟨H1.pick _ (.cons rfl (.cons rfl (.cons rfl (.cons rfl (.cons rfl (.cons rfl .nil)))))), hL⟩
 refine dag_cut (fun a' w' => ∃ g, Fr a' 37 [(9, .string (s0 ++ s1)), (11, .int .i64 m.ilow), (16, .slice (some ⟨g, 0, none⟩) 1 1), (20, .string m.ikey), (24, .int .i64 m.ipart), (28, .int .i64 m.iat), (33, .int .i64 m.iN)] ∧ Live W ((g, #[.int .u8 (m.ikind : Nat)], 5) :: [(W.heap.size, icells m, 33)]) w') 15 #[true, true, true, true, true, true, true, true, true, false, false, true, true, true, false, false, true, true, false, false, true, true, false, false, true, true, false, false, false, true, true, false, false, false, false] ?_ (fun hS22 => ?_)
 ·rintro a0 w0 ⟨g, H0, hL⟩
  refine a_all2 9 14 (by kernel_rfl) ?_ ?_
  ·refine o_callB (m' := [(12, _), (9, _), (16, _), (20, _), (24, _), (28, _), (33, _)]) 9 H0 rfl rfl (wn rfl) (R_call1 H0 rfl rfl (fun w => by simp [go_sem])) rfl hL (q2 _) (.cons rfl (.cons rfl (.cons rfl (.cons rfl (.cons rfl (.cons rfl (.cons rfl .nil))))))) fun a1 w1 H1 hL' => ⟨hL'.tail, ?_⟩
   replace hL := hL'
   refine a_opZ 10 H1 rfl rfl (by kernel_rfl) (wn rfl) (fun w hL => R_bin H1 rfl rfl rfl (B_cat _ _ c2)) hL.tail rfl (P6 13 16 20 24 28 33 rfl rfl rfl rfl rfl rfl) fun _ H2 => ?_
   exact dag_use hS18 (by kernel_rfl) (by kernel_rfl) ⟨_, H2.pick _ (.cons rfl (.cons rfl (.cons rfl (.cons rfl (.cons rfl (.cons rfl .nil)))))), hL⟩
  ·refine o_op (m' := [(17, _), (9, _), (11, _), (20, _), (24, _), (28, _), (33, _)]) 14 H0 rfl rfl (wn rfl) (R_cv H0 rfl rfl (hcv hL)) rfl (.cons rfl (.cons rfl (.cons rfl (.cons rfl (.cons rfl (.cons rfl (.cons rfl .nil))))))) fun a1 H1 => ?_
   refine ⟨hL.tail, ?_⟩
   exact dag_use hS20 (by kernel_rfl) (by kernel_rfl) ⟨H1.pick _ (.cons rfl (.cons rfl (.cons rfl (.cons rfl (.cons rfl (.cons rfl (.cons rfl .nil))))))), hL.tail⟩
 refine dag_cut (fun a' w' => Fr a' 37 [(5, .string s0), (7, .int .i64 m.iseq), (11, .int .i64 m.ilow), (17, .string s3), (20, .string m.ikey), (24, .int .i64 m.ipart), (28, .int .i64 m.iat), (33, .int .i64 m.iN)] ∧ Live W [(W.heap.size, icells m, 33)] w') 16 #[true, true, true, true, true, false, false, true, true, false, false, true, true, true, true, false, true, true, false, false, true, true, false, false, true, true, false, false, false, true, true, false, false, false, false] ?_ (fun hS23 => ?_)
 ·rintro a0 w0 ⟨H0, hL⟩
  refine a_all1 5 (by kernel_rfl) ?_
  refine o_callB 5 H0 rfl rfl (wn rfl) (R_call1 H0 rfl rfl (fun w => by simp [go_sem])) rfl hL (q1 _) (P8 8 5 11 17 20 24 28 33 rfl rfl rfl rfl rfl rfl rfl rfl) fun a1 w1 H1 hL' => ⟨hL', ?_⟩
  replace hL := hL'
  refine a_opZ 6 H1 rfl rfl (by kernel_rfl) (wn rfl) (fun w hL => R_bin H1 rfl rfl rfl (B_cat _ _ c1)) hL rfl (P7 9 11 17 20 24 28 33 rfl rfl rfl rfl rfl rfl rfl) fun _ H2 => ?_
  exact dag_use hS20 (by kernel_rfl) (by kernel_rfl) ⟨H2.pick _ (.cons rfl (.cons rfl (.cons rfl (.cons rfl (.cons rfl (.cons rfl (.cons rfl .nil))))))), hL⟩
 refine dag_cut (fun a' w' => Fr a' 37 [(9, .string (s0 ++ s1)), (11, .int .i64 m.ilow), (15, .int .u8 (m.ikind : Nat)), (20, .string m.ikey), (24, .int .i64 m.ipart), (28, .int .i64 m.iat), (33, .int .i64 m.iN)] ∧ Live W [(W.heap.size, icells m, 33)] w') 16 #[true, true, true, true, true, true, true, true, true, false, false, true, true, false, false, false, true, true, false, false, true, true, false, false, true, true, false, false, false, true, true, false, false, false, false] ?_ (fun hS24 => ?_)
 ·rintro a0 w0 ⟨H0, hL⟩
  refine a_all2 9 13 (by kernel_rfl) ?_ ?_
  ·refine o_callB (m' := [(12, _), (9, _), (15, _), (20, _), (24, _), (28, _), (33, _)]) 9 H0 rfl rfl (wn rfl) (R_call1 H0 rfl rfl (fun w => by simp [go_sem])) rfl hL (q2 _) (.cons rfl (.cons rfl (.cons rfl (.cons rfl (.cons rfl (.cons rfl (.cons rfl .nil))))))) fun a1 w1 H1 hL' => ⟨hL', ?_⟩
   replace hL := hL'
   refine a_opZ 10 H1 rfl rfl (by kernel_rfl) (wn rfl) (fun w hL => R_bin H1 rfl rfl rfl (B_cat _ _ c2)) hL rfl (P6 13 15 20 24 28 33 rfl rfl rfl rfl rfl rfl) fun _ H2 => ?_
   exact dag_use hS21 (by kernel_rfl) (by kernel_rfl) ⟨H2.pick _ (.cons rfl (.cons rfl (.cons rfl (.cons rfl (.cons rfl (.cons rfl .nil)))))), hL⟩
  ·refine o_op (m' := [(16, _), (9, _), (11, _), (20, _), (24, _), (28, _), (33, _)]) 13 H0 rfl rfl (wn rfl) (R_bs1 H0 rfl rfl (bs_u8 _)) rfl (.cons rfl (.cons rfl (.cons rfl (.cons rfl (.cons rfl (.cons rfl (.cons rfl .nil))))))) fun a1 H1 => ?_
   replace hL := hL.alloc #[.int .u8 (m.ikind : Nat)] 5
   refine ⟨hL.tail, ?_⟩
   exact dag_use hS22 (by kernel_rfl) (by kernel_rfl) ⟨_, H1.pick _ (.cons rfl (.cons rfl (.cons rfl (.cons rfl (.cons rfl (.cons rfl (.cons rfl .nil))))))), hL⟩
 refine dag_cut (fun a' w' => ∃ g, Fr a' 37 [(5, .string s0), (7, .int .i64 m.iseq), (11, .int .i64 m.ilow), (16, .slice (some ⟨g, 0, none⟩) 1 1), (20, .string m.ikey), (24, .int .i64 m.ipart), (28, .int .i64 m.iat), (33, .int .i64 m.iN)] ∧ Live W ((g, #[.int .u8 (m.ikind : Nat)], 5) :: [(W.heap.size, icells m, 33)]) w') 17 #[true, true, true, true, true, false, false, true, true, false, false, true, true, true, false, false, true, true, false, false, true, true, false, false, true, true, false, false, false, true, true, false, false, false, false] ?_ (fun hS25 => ?_)
 ·rintro a0 w0 ⟨g, H0, hL⟩
  refine a_all2 5 14 (by kernel_rfl) ?_ ?_
  ·refine o_callB (m' := [(8, _), (5, _), (11, _), (16, _), (20, _), (24, _), (28, _), (33, _)]) 5 H0 rfl rfl (wn rfl) (R_call1 H0 rfl rfl (fun w => by simp [go_sem])) rfl hL (q1 _) (.cons rfl (.cons rfl (.cons rfl (.cons rfl (.cons rfl (.cons rfl (.cons rfl (.cons rfl .nil)))))))) fun a1 w1 H1 hL' => ⟨hL'.tail, ?_⟩
   replace hL := hL'
   refine a_opZ 6 H1 rfl rfl (by kernel_rfl) (wn rfl) (fun w hL => R_bin H1 rfl rfl rfl (B_cat _ _ c1)) hL.tail rfl (P7 9 11 16 20 24 28 33 rfl rfl rfl rfl rfl rfl rfl) fun _ H2 => ?_
   exact dag_use hS22 (by kernel_rfl) (by kernel_rfl) ⟨_, H2.pick _ (.cons rfl (.cons rfl (.cons rfl (.cons rfl (.cons rfl (.cons rfl (.cons rfl .nil))))))), hL⟩
  ·refine o_op (m' := [(17, _), (5, _), (7, _), (11, _), (20, _), (24, _), (28, _), (33, _)]) 14 H0 rfl rfl (wn rfl) (R_cv H0 rfl rfl (hcv hL)) rfl (.cons rfl (.cons rfl (.cons rfl (.cons rfl (.cons rfl (.cons rfl (.cons rfl (.cons rfl .nil)))))))) fun a1 H1 => ?_
   refine ⟨hL.tail, ?_⟩
   exact dag_use hS23 (by kernel_rfl) (by kernel_rfl) ⟨H1.pick _ (.cons rfl (.cons rfl (.cons rfl (.cons rfl (.cons rfl (.cons rfl (.cons rfl (.cons rfl .nil)))))))), hL.tail⟩
 refine dag_cut (fun a' w' => Fr a' 37 [(4, .int .i64 m.isrc), (7, .int .i64 m.iseq), (11, .int .i64 m.ilow), (17, .string s3), (20, .string m.ikey), (24, .int .i64 m.ipart), (28, .int .i64 m.iat), (33, .int .i64 m.iN)] ∧ Live W [(W.heap.size, icells m, 33)] w') 17 #[true, true, false, true, true, false, false, true, true, false, false, true, true, true, true, false, true, true, false, false, true, true, false, false, true, true, false, false, false, true, true, false, false, false, false] ?_ (fun hS26 => ?_)
 ·rintro a0 w0 ⟨H0, hL⟩
  refine a_all1 2 (by kernel_rfl) ?_
  refine o_callB 2 H0 rfl rfl (wn rfl) (R_call1 H0 rfl rfl (fun w => by simp [go_sem])) rfl hL (q0 _) (P8 5 7 11 17 20 24 28 33 rfl rfl rfl rfl rfl rfl rfl rfl) fun a1 w1 H1 hL' => ⟨hL', ?_⟩
  replace hL := hL'
  exact dag_use hS23 (by kernel_rfl) (by kernel_rfl) ⟨H1.pick _ (.cons rfl (.cons rfl (.cons rfl (.cons rfl (.cons rfl (.cons rfl (.cons rfl (.cons rfl .nil)))))))), hL⟩
 refine dag_cut (fun a' w' => Fr a' 37 [(5, .string s0), (7, .int .i64 m.iseq), (11, .int .i64 m.ilow), (15, .int .u8 (m.ikind : Nat)), (20, .string m.ikey), (24, .int .i64 m.ipart), (28, .int .i64 m.iat), (33, .int .i64 m.iN)] ∧ Live W [(W.heap.size, icells m, 33)] w') 18 #[true, true, true, true, true, false, false, true, true, false, false, true, true, false, false, false, true, true, false, false, true, true, false, false, true, true, false, false, false, true, true, false, false, false, false] ?_ (fun hS27 => ?_)
 ·rintro a0 w0 ⟨H0, hL⟩
  refine a_all2 5 13 (by kernel_rfl) ?_ ?_
  ·refine o_callB (m' := [(8, _), (5, _), (11, _), (15, _), (20, _), (24, _), (28, _), (33, _)]) 5 H0 rfl rfl (wn rfl) (R_call1 H0 rfl rfl (fun w => by simp [go_sem])) rfl hL (q1 _) (.cons rfl (.cons rfl (.cons rfl (.cons rfl (.cons rfl (.cons rfl (.cons rfl (.cons rfl .nil)))))))) fun a1 w1 H1 hL' => ⟨hL', ?_⟩
   replace hL := hL'
   refine a_opZ 6 H1 rfl rfl (by kernel_rfl) (wn rfl) (fun w hL => R_bin H1 rfl rfl rfl (B_cat _ _ c1)) hL rfl (P7 9 11 15 20 24 28 33 rfl rfl rfl rfl rfl rfl rfl) fun _ H2 => ?_
   exact dag_use hS24 (by kernel_rfl) (by kernel_rfl) ⟨H2.pick _ (.cons rfl (.cons rfl (.cons rfl (.cons rfl (.cons rfl (.cons rfl (.cons rfl .nil))))))), hL⟩
  ·refine o_op (m' := [(16, _), (5, _), (7, _), (11, _), (20, _), (24, _), (28, _), (33, _)]) 13 H0 rfl rfl (wn rfl) (R_bs1 H0 rfl rfl (bs_u8 _)) rfl (.cons rfl (.cons rfl (.cons rfl (.cons rfl (.cons rfl (.cons rfl (.cons rfl (.cons rfl .nil)))))))) fun a1 H1 => ?_
   replace hL := hL.alloc #[.int .u8 (m.ikind : Nat)] 5
   refine ⟨hL.tail, ?_⟩
   exact dag_use hS25 (by kernel_rfl) (by kernel_rfl) ⟨_, H1.pick _ (.cons rfl (.cons rfl (.cons rfl (.cons rfl (.cons rfl (.cons rfl (.cons rfl (.cons rfl .nil)))))))), hL⟩
 refine dag_cut (fun a' w' => ∃ g, Fr a' 37 [(4, .int .i64 m.isrc), (7, .int .i64 m.iseq), (11, .int .i64 m.ilow), (16, .slice (some ⟨g, 0, none⟩) 1 1), (20, .string m.ikey), (24, .int .i64 m.ipart), (28, .int .i64 m.iat), (33, .int .i64 m.iN)] ∧ Live W ((g, #[.int .u8 (m.ikind : Nat)], 5) :: [(W.heap.size, icells m, 33)]) w') 18 #[true, true, false, true, true, false, false, true, true, false, false, true, true, true, false, false, true, true, false, false, true, true, false, false, true, true, false, false, false, true, true, false, false, false, false] ?_ (fun hS28 => ?_)
 ·rintro a0 w0 ⟨g, H0, hL⟩
  refine a_all2 2 14 (by kernel_rfl) ?_ ?_
  ·refine o_callB (m' := [(5, _), (7, _), (11, _), (16, _), (20, _), (24, _), (28, _), (33, _)]) 2 H0 rfl rfl (wn rfl) (R_call1 H0 rfl rfl (fun w => by simp [go_sem])) rfl hL (q0 _) (.cons rfl (.cons rfl (.cons rfl (.cons rfl (.cons rfl (.cons rfl (.cons rfl (.cons rfl .nil)))))))) fun a1 w1 H1 hL' => ⟨hL'.tail, ?_⟩
   replace hL := hL'
   exact dag_use hS25 (by kernel_rfl) (by kernel_rfl) ⟨_, H1.pick _ (.cons rfl (.cons rfl (.cons rfl (.cons rfl (.cons rfl (.cons rfl (.cons rfl (.cons rfl .nil)))))))), hL⟩
  ·refine o_op (m' := [(17, _), (4, _), (7, _), (11, _), (20, _), (24, _), (28, _), (33, _)]) 14 H0 rfl rfl (wn rfl) (R_cv H0 rfl rfl (hcv hL)) rfl (.cons rfl (.cons rfl (.cons rfl (.cons rfl (.cons rfl (.cons rfl (.cons rfl (.cons rfl .nil)))))))) fun a1 H1 => ?_
   refine ⟨hL.tail, ?_⟩
   exact dag_use hS26 (by kernel_rfl) (by kernel_rfl) ⟨H1.pick _ (.cons rfl (.cons rfl (.cons rfl (.cons rfl (.cons rfl (.cons rfl (.cons rfl (.cons rfl .nil)))))))), hL.tail⟩
 refine dag_cut (fun a' w' => Fr a' 37 [(4, .int .i64 m.isrc), (7, .int .i64 m.iseq), (11, .int .i64 m.ilow), (15, .int .u8 (m.ikind : Nat)), (20, .string m.ikey), (24, .int .i64 m.ipart), (28, .int .i64 m.iat), (33, .int .i64 m.iN)] ∧ Live W [(W.heap.size, icells m, 33)] w') 19 #[true, true, false, true, true, false, false, true, true, false, false, true, true, false, false, false, true, true, false, false, true, true, false, false, true, true, false, false, false, true, true, false, false, false, false] ?_ (fun hS29 => ?_)
 ·rintro a0 w0 ⟨H0, hL⟩
  refine a_all2 2 13 (by kernel_rfl) ?_ ?_
  ·refine o_callB (m' := [(5, _), (7, _), (11, _), (15, _), (20, _), (24, _), (28, _), (33, _)]) 2 H0 rfl rfl (wn rfl) (R_call1 H0 rfl rfl (fun w => by simp [go_sem])) rfl hL (q0 _) (.cons rfl (.cons rfl (.cons rfl (.cons rfl (.cons rfl (.cons rfl (.cons rfl (.cons rfl .nil)))))))) fun a1 w1 H1 hL' => ⟨hL', ?_⟩
   replace hL := hL'
   exact dag_use hS27 (by kernel_rfl) (by kernel_rfl) ⟨H1.pick _ (.cons rfl (.cons rfl (.cons rfl (.cons rfl (.cons rfl (.cons rfl (.cons rfl (.cons rfl .nil)))))))), hL⟩
  ·refine o_op (m' := [(16, _), (4, _), (7, _), (11, _), (20, _), (24, _), (28, _), (33, _)]) 13 H0 rfl rfl (wn rfl) (R_bs1 H0 rfl rfl (bs_u8 _)) rfl (.cons rfl (.cons rfl (.cons rfl (.cons rfl (.cons rfl (.cons rfl (.cons rfl (.cons rfl .nil)))))))) fun a1 H1 => ?_
   replace hL := hL.alloc #[.int .u8 (m.ikind : Nat)] 5
   refine ⟨hL.tail, ?_⟩
   exact dag_use hS28 (by kernel_rfl) (by kernel_rfl) ⟨_, H1.pick _ (.cons rfl (.cons rfl (.cons rfl (.cons rfl (.cons rfl (.cons rfl (.cons rfl (.cons rfl .nil)))))))), hL⟩
 refine a_opZ 0 H2 rfl rfl (by kernel_rfl) (wn rfl) (fun w hL => R_fa H2 rfl rfl (fi_0 _ _)) hL rfl (P2 3 1 rfl rfl) fun _ H3 => ?_
 refine a_opZ 3 H3 rfl rfl (by kernel_rfl) (wn rfl) (fun w hL => R_fa H3 rfl rfl (fi_1 _ _)) hL rfl (P3 6 3 1 rfl rfl rfl) fun _ H4 => ?_
 refine a_opZ 7 H4 rfl rfl (by kernel_rfl) (wn rfl) (fun w hL => R_fa H4 rfl rfl (fi_2 _ _)) hL rfl (P4 10 6 3 1 rfl rfl rfl rfl) fun _ H5 => ?_
 refine a_opZ 11 H5 rfl rfl (by kernel_rfl) (wn rfl) (fun w hL => R_fa H5 rfl rfl (fi_3 _ _)) hL rfl (P5 14 10 6 3 1 rfl rfl rfl rfl rfl) fun _ H6 => ?_
 refine a_opZ 16 H6 rfl rfl (by kernel_rfl) (wn rfl) (fun w hL => R_fa H6 rfl rfl (fi_4 _ _)) hL rfl (P6 19 14 10 6 3 1 rfl rfl rfl rfl rfl rfl) fun _ H7 => ?_
 refine a_opZ 20 H7 rfl rfl (by kernel_rfl) (wn rfl) (fun w hL => R_fa H7 rfl rfl (fi_5 _ _)) hL rfl (P7 23 19 14 10 6 3 1 rfl rfl rfl rfl rfl rfl rfl) fun _ H8 => ?_
 refine a_opZ 24 H8 rfl rfl (by kernel_rfl) (wn rfl) (fun w hL => R_fa H8 rfl rfl (fi_6 _ _)) hL rfl (P8 27 23 19 14 10 6 3 1 rfl rfl rfl rfl rfl rfl rfl rfl) fun _ H9 => ?_
 refine a_opZ 29 H9 rfl rfl (by kernel_rfl) (wn rfl) (fun w hL => R_fa H9 rfl rfl (fi_7 _ _)) hL rfl (P8 32 27 23 19 14 10 6 3 rfl rfl rfl rfl rfl rfl rfl rfl) fun _ H10 => ?_
 refine a_opZ 1 H10 rfl rfl (by kernel_rfl) (wn rfl) (fun w hL => R_ld H10 rfl rfl (ld_int (hL.cell 0))) hL rfl (P8 4 32 27 23 19 14 10 6 rfl rfl rfl rfl rfl rfl rfl rfl) fun _ H11 => ?_
 refine a_opZ 4 H11 rfl rfl (by kernel_rfl) (wn rfl) (fun w hL => R_ld H11 rfl rfl (ld_int (hL.cell 1))) hL rfl (P8 7 4 32 27 23 19 14 10 rfl rfl rfl rfl rfl rfl rfl rfl) fun _ H12 => ?_
 refine a_opZ 8 H12 rfl rfl (by kernel_rfl) (wn rfl) (fun w hL => R_ld H12 rfl rfl (ld_int (hL.cell 2))) hL rfl (P8 11 7 4 32 27 23 19 14 rfl rfl rfl rfl rfl rfl rfl rfl) fun _ H13 => ?_
 refine a_opZ 12 H13 rfl rfl (by kernel_rfl) (wn rfl) (fun w hL => R_ld H13 rfl rfl (ld_u8 (hL.cell 3))) hL rfl (P8 15 11 7 4 32 27 23 19 rfl rfl rfl rfl rfl rfl rfl rfl) fun _ H14 => ?_
 refine a_opZ 17 H14 rfl rfl (by kernel_rfl) (wn rfl) (fun w hL => R_ld H14 rfl rfl (ld_str (hL.cell 4))) hL rfl (P8 20 15 11 7 4 32 27 23 rfl rfl rfl rfl rfl rfl rfl rfl) fun _ H15 => ?_
 refine a_opZ 21 H15 rfl rfl (by kernel_rfl) (wn rfl) (fun w hL => R_ld H15 rfl rfl (ld_int (hL.cell 5))) hL rfl (P8 24 20 15 11 7 4 32 27 rfl rfl rfl rfl rfl rfl rfl rfl) fun _ H16 => ?_
 refine a_opZ 25 H16 rfl rfl (by kernel_rfl) (wn rfl) (fun w hL => R_ld H16 rfl rfl (ld_i64 (hL.cell 6))) hL rfl (P8 28 24 20 15 11 7 4 32 rfl rfl rfl rfl rfl rfl rfl rfl) fun _ H17 => ?_
 refine a_opZ 30 H17 rfl rfl (by kernel_rfl) (wn rfl) (fun w hL => R_ld H17 rfl rfl (ld_i64 (hL.cell 7))) hL rfl (P8 33 28 24 20 15 11 7 4 rfl rfl rfl rfl rfl rfl rfl rfl) fun _ H18 => ?_
 exact dag_use hS29 (by kernel_rfl) (by kernel_rfl) ⟨H18.pick _ (.cons rfl (.cons rfl (.cons rfl (.cons rfl (.cons rfl (.cons rfl (.cons rfl (.cons rfl .nil)))))))), hL⟩
end
section
variable {W : World} {m : PMsg} {vo vs : Value}
set_option maxHeartbeats 16000000 in
set_option maxRecDepth 100000 in
theorem rBytes_1 (hf : m.Fits) (hk1 : m.kind = 1) (hik : m.ikind < 256) (h1 : Rd W vo m.owner) (h2 : Rd W vs m.set) (l1 : m.owner.length ≤ 1000000000000) (l2 : m.set.length ≤ 1000000000000) (hr : rightR m = 0) :
  Calls Tryz.prog 47 #[.agg (mcells m vo vs)] W fun e W' => e = .returned (.tuple #[.string (packL (outM m)), .int .i64 0]) ∧ Below W.heap.size W W' := by
 have hok : okR m = true := by
  unfold rightR at hr
  rw [if_pos (by omega)] at hr
  split at hr
  ·assumption
  ·cases hr
 unfold okR itemB at hok
 simp only [Bool.and_eq_true, decide_eq_true_eq] at hok
 obtain ⟨⟨⟨⟨⟨⟨⟨⟨⟨⟨⟨⟨hsame, bmove⟩, bpart⟩, bto⟩, bn⟩, bcount⟩, bcode⟩, ⟨⟨⟨bisrc, biseq⟩, bilow⟩, bipart⟩, bikey⟩, bepoch⟩, bnodes⟩, bowner, lowner⟩, bset, lset⟩, bdata⟩ := hok
 clear hsame
 have hL := (Live.init W).alloc (mcells m vo vs) 37
 have K1 : ∀ {w}, Below W.heap.size W w → Rd w vo m.owner := fun hb => h1.kept fun k hk => hb.block k hk
 have K2 : ∀ {w}, Below W.heap.size W w → Rd w vs m.set := fun hb => h2.kept fun k hk => hb.block k hk
 obtain ⟨A1, c1, rfl⟩ := h1.slc
 obtain ⟨A2, c2, rfl⟩ := h2.slc
 have zisrc := in_small bisrc
 have ziseq := in_small biseq
 have zilow := in_small bilow
 have zipart := in_small bipart
 have zepoch := in_small bepoch
 have znodes := in_small bnodes
 have zia := vbytes_le (zig_lt hf.iat0 hf.iat1)
 have ziN := vbytes_le (zig_lt hf.iN0 hf.iN1)
 have zlo := vbytes_le (x := m.owner.length) (by omega)
 have zlk := vbytes_le (x := m.ikey.size) (by omega)
 have zow := listB_len bowner
 have zk := bytes_size m.ikey
 have zitem : (itemOut m).length ≤ 400 := by
  unfold itemOut
  simp only [List.length_append, List.length_cons, List.length_nil]
  omega
 go_enter Tryz.func47, Tryz.ntmps47
 refine wp_fr (n := 163) (m := [(0, _)]) ⟨rfl, rfl, by intro p hp; simp only [List.mem_cons, List.not_mem_nil, or_false] at hp; rcases hp with rfl <;> rfl⟩ fun a0 H0 => ?_
 repeat (go_not_at_region 0; go_step)
 refine wp_region_lit ?_
 refine h_o H0 rfl (R_box H0 rfl rfl bx_row) (P1 1 rfl) fun _ H1 => ?_
 refine h_o H1 rfl (R_as H1 rfl rfl) (P1 1 rfl) fun _ H2 => ?_
 refine h_o H2 rfl (R_as H2 rfl rfl) (P1 1 rfl) fun _ H3 => ?_
 refine h_end ?_
 repeat (go_not_at_region 1; go_step)
 refine wp_region_lit ?_
 refine h_o H3 rfl (R_ld H3 rfl rfl (ld_row (m := m) (vo := .slice A1 m.owner.length c1) (vs := .slice A2 m.set.length c2) hL.at_)) (P2 8 1 rfl rfl) fun _ H4 => ?_
 refine h_call H4 rfl (wn rfl) (R_call1 H4 rfl rfl (fun w => by simp [go_sem])) rfl ?_
 refine (refRight_any (K1 hL.1) (K2 hL.1) l1 l2 hk1).mono ?_
 rintro e wx ⟨rfl, hb⟩
 replace hL := hL.call hb
 clear hb
 rw [hr]
 refine ⟨_, rfl, fun a5 HH => ?_⟩
 have H5 := HH _ (P2 9 1 rfl rfl)
 refine h_o H5 rfl (R_as H5 rfl rfl) (P2 4 1 rfl rfl) fun _ H6 => ?_
 refine h_end ?_
 repeat (go_not_at_region 2; go_step)
 refine wp_region_lit ?_
 refine h_o H6 rfl (R_mv H6 rfl rfl) (P2 10 1 rfl rfl) fun _ H7 => ?_
 refine h_o H7 rfl (R_bin H7 rfl rfl rfl (B_to (y := false) (B_ne Tryz.underlying3 _ _) (by decide))) (P2 11 1 rfl rfl) fun _ H8 => ?_
 refine h_end ?_
 repeat (go_not_at_region 4; go_step)
 refine wp_cond_false (H8.ev (x := .tmp 11) rfl) ?_
 repeat (go_not_at_region 4; go_step)
 refine wp_region_lit ?_
 refine h_o H8 rfl (R_fa H8 rfl rfl (fa29_0 _ _)) (P2 13 1 rfl rfl) fun _ H9 => ?_
 refine h_o H9 rfl (R_ld H9 rfl rfl (ld_u8 (hL.cell 0))) (P2 14 1 rfl rfl) fun _ H10 => ?_
 refine h_o H10 rfl (R_bs1 H10 rfl rfl (bs_u8 _)) (P2 15 1 rfl rfl) fun _ H11 => ?_
 replace hL := hL.alloc #[.int .u8 (m.kind : Nat)] 5
 refine h_o H11 rfl (R_cv H11 rfl rfl (cv_u8 (by omega) hL)) (P2 16 1 rfl rfl) fun _ H12 => ?_
 replace hL := hL.tail
 refine h_o H12 rfl (R_as H12 rfl rfl) (P2 5 1 rfl rfl) fun _ H13 => ?_
 refine h_end ?_
 repeat (go_not_at_region 5; go_step)
 refine wp_region_lit ?_
 refine h_o H13 rfl (R_fa H13 rfl rfl (fa29_0 _ _)) (P3 17 5 1 rfl rfl rfl) fun _ H14 => ?_
 refine h_o H14 rfl (R_ld H14 rfl rfl (ld_u8 (hL.cell 0))) (P3 18 5 1 rfl rfl rfl) fun _ H15 => ?_
 refine h_o H15 rfl (R_bin H15 rfl rfl rfl (B_to (y := false) (B8_ge _ _) (decide_eq_false (by rw [hk1]; decide)))) (P3 19 5 1 rfl rfl rfl) fun _ H16 => ?_
 refine h_o H16 rfl (R_mv H16 rfl rfl) (P3 20 5 1 rfl rfl rfl) fun _ H17 => ?_
 refine h_skip H17 rfl (H17.wf rfl rfl rfl) rfl (P4 21 20 5 1 rfl rfl rfl rfl) fun _ H18 => ?_
 refine h_skip H18 rfl (H18.wf rfl rfl rfl) rfl (P4 22 20 5 1 rfl rfl rfl rfl) fun _ H19 => ?_
 refine h_skip H19 rfl (H19.wf rfl rfl rfl) rfl (P4 23 20 5 1 rfl rfl rfl rfl) fun _ H20 => ?_
 refine h_o H20 rfl (R_pick H20 rfl rfl rfl) (P3 24 5 1 rfl rfl rfl) fun _ H21 => ?_
 refine h_end ?_
 repeat (go_not_at_region 7; go_step)
 refine wp_cond_false (H21.ev (x := .tmp 24) rfl) ?_
 repeat (go_not_at_region 7; go_step)
 refine wp_region_held_drew (S := fun w' => Live W [(W.heap.size, mcells m (.slice A1 m.owner.length c1) (.slice A2 m.set.length c2), 37)] w') (by kernel_rfl) hL.drew (fun hL' => ?_)
 replace hL := hL'
 clear hL'
 refine a_opZ 0 H21 rfl rfl (by kernel_rfl) (wn rfl) (fun w hL => R_fa H21 rfl rfl (fa29_9 _ _)) (hL) rfl (P3 34 5 1 rfl rfl rfl) fun _ H22 => ?_
 refine a_opZ 4 H22 rfl rfl (by kernel_rfl) (wn rfl) (fun w hL => R_fa H22 rfl rfl (fa29_9 _ _)) (hL) rfl (P4 38 34 5 1 rfl rfl rfl rfl) fun _ H23 => ?_
 refine a_opZ 1 H23 rfl rfl (by kernel_rfl) (wn rfl) (fun w hL => R_fa H23 rfl rfl (fa24_0 _ _)) (hL) rfl (P4 35 38 5 1 rfl rfl rfl rfl) fun _ H24 => ?_
 refine a_opZ 5 H24 rfl rfl (by kernel_rfl) (wn rfl) (fun w hL => R_fa H24 rfl rfl (fa24_1 _ _)) (hL) rfl (P4 39 35 5 1 rfl rfl rfl rfl) fun _ H25 => ?_
 refine a_opZ 2 H25 rfl rfl (by kernel_rfl) (wn rfl) (fun w hL => R_ld H25 rfl rfl (ld_int (hL.cell 9))) (hL) rfl (P4 36 39 5 1 rfl rfl rfl rfl) fun _ H26 => ?_
 refine a_opZ 6 H26 rfl rfl (by kernel_rfl) (wn rfl) (fun w hL => R_ld H26 rfl rfl (ld_int (hL.cell 10))) (hL) rfl (P4 40 36 5 1 rfl rfl rfl rfl) fun _ H27 => ?_
 refine a_all1 3 (by kernel_rfl) ?_
 refine o_callB 3 H27 rfl rfl (wn rfl) (R_call1 H27 rfl rfl (fun w => by simp [go_sem])) rfl hL (rnum_in bisrc) (P4 37 40 5 1 rfl rfl rfl rfl) fun a28 w28 H28 hL' => ⟨hL', ?_⟩
 replace hL := hL'
 refine a_all1 7 (by kernel_rfl) ?_
 refine o_callB 7 H28 rfl rfl (wn rfl) (R_call1 H28 rfl rfl (fun w => by simp [go_sem])) rfl hL (rnum_in biseq) (P4 41 37 5 1 rfl rfl rfl rfl) fun a29 w29 H29 hL' => ⟨hL', ?_⟩
 replace hL := hL'
 refine a_opZ 8 H29 rfl rfl (by kernel_rfl) (wn rfl) (fun w hL => R_bin H29 rfl rfl rfl (B_catL _ _ (by (try simp only [List.length_append, List.length_cons, List.length_nil]); omega))) (hL) rfl (P3 42 5 1 rfl rfl rfl) fun _ H30 => ?_
 refine a_opZ 9 H30 rfl rfl (by kernel_rfl) (wn rfl) (fun w hL => R_as H30 rfl rfl) (hL) rfl (P2 5 1 rfl rfl) fun _ H31 => ?_
 refine wpAnyH_done (by kernel_rfl) ?_ _
 repeat (go_not_at_region 8; go_step)
 refine wp_region_held_drew (S := fun w' => Live W [(W.heap.size, mcells m (.slice A1 m.owner.length c1) (.slice A2 m.set.length c2), 37)] w') (by kernel_rfl) hL.drew (fun hL' => ?_)
 replace hL := hL'
 clear hL'
 refine a_opZ 0 H31 rfl rfl (by kernel_rfl) (wn rfl) (fun w hL => R_fa H31 rfl rfl (fa29_10 _ _)) (hL) rfl (P3 43 5 1 rfl rfl rfl) fun _ H32 => ?_
 refine a_opZ 4 H32 rfl rfl (by kernel_rfl) (wn rfl) (fun w hL => R_fa H32 rfl rfl (fa29_10 _ _)) (hL) rfl (P4 47 43 5 1 rfl rfl rfl rfl) fun _ H33 => ?_
 refine a_opZ 9 H33 rfl rfl (by kernel_rfl) (wn rfl) (fun w hL => R_fa H33 rfl rfl (fa29_10 _ _)) (hL) rfl (P5 52 47 43 5 1 rfl rfl rfl rfl rfl) fun _ H34 => ?_
 refine a_opZ 1 H34 rfl rfl (by kernel_rfl) (wn rfl) (fun w hL => R_fa H34 rfl rfl (fa27_0 _ _)) (hL) rfl (P5 44 52 47 5 1 rfl rfl rfl rfl rfl) fun _ H35 => ?_
 refine a_opZ 5 H35 rfl rfl (by kernel_rfl) (wn rfl) (fun w hL => R_fa H35 rfl rfl (fa27_1 _ _)) (hL) rfl (P5 48 44 52 5 1 rfl rfl rfl rfl rfl) fun _ H36 => ?_
 refine a_opZ 10 H36 rfl rfl (by kernel_rfl) (wn rfl) (fun w hL => R_fa H36 rfl rfl (fa27_2 _ _)) (hL) rfl (P5 53 48 44 5 1 rfl rfl rfl rfl rfl) fun _ H37 => ?_
 refine a_opZ 2 H37 rfl rfl (by kernel_rfl) (wn rfl) (fun w hL => R_ld H37 rfl rfl (ld_int (hL.cell 17))) (hL) rfl (P5 45 53 48 5 1 rfl rfl rfl rfl rfl) fun _ H38 => ?_
 refine a_opZ 6 H38 rfl rfl (by kernel_rfl) (wn rfl) (fun w hL => R_ld H38 rfl rfl (ld_int (hL.cell 18))) (hL) rfl (P5 49 45 53 5 1 rfl rfl rfl rfl rfl) fun _ H39 => ?_
 refine a_opZ 11 H39 rfl rfl (by kernel_rfl) (wn rfl) (fun w hL => R_ld H39 rfl rfl (ld_sl (hL.cell 19))) (hL) rfl (P5 54 49 45 5 1 rfl rfl rfl rfl rfl) fun _ H40 => ?_
 refine a_all1 3 (by kernel_rfl) ?_
 refine o_callB 3 H40 rfl rfl (wn rfl) (R_call1 H40 rfl rfl (fun w => by simp [go_sem])) rfl hL (rnum_in bepoch) (P5 46 54 49 5 1 rfl rfl rfl rfl rfl) fun a41 w41 H41 hL' => ⟨hL', ?_⟩
 replace hL := hL'
 refine a_all1 7 (by kernel_rfl) ?_
 refine o_callB 7 H41 rfl rfl (wn rfl) (R_call1 H41 rfl rfl (fun w => by simp [go_sem])) rfl hL (rnum_in bnodes) (P5 50 46 54 5 1 rfl rfl rfl rfl rfl) fun a42 w42 H42 hL' => ⟨hL', ?_⟩
 replace hL := hL'
 refine a_opZ 8 H42 rfl rfl (by kernel_rfl) (wn rfl) (fun w hL => R_bin H42 rfl rfl rfl (B_catL _ _ (by (try simp only [List.length_append, List.length_cons, List.length_nil]); omega))) (hL) rfl (P4 51 54 5 1 rfl rfl rfl rfl) fun _ H43 => ?_
 refine a_all1 12 (by kernel_rfl) ?_
 refine o_callB 12 H43 rfl rfl (wn rfl) (R_call1 H43 rfl rfl (fun w => by simp [go_sem])) rfl hL (rlist_any (K1 hL.1) bowner (by omega)) (P4 55 51 5 1 rfl rfl rfl rfl) fun a44 w44 H44 hL' => ⟨hL', ?_⟩
 replace hL := hL'
 refine a_opZ 13 H44 rfl rfl (by kernel_rfl) (wn rfl) (fun w hL => R_bin H44 rfl rfl rfl (B_catL _ _ (by (try simp only [List.length_append, List.length_cons, List.length_nil]); omega))) (hL) rfl (P3 56 5 1 rfl rfl rfl) fun _ H45 => ?_
 refine a_opZ 14 H45 rfl rfl (by kernel_rfl) (wn rfl) (fun w hL => R_as H45 rfl rfl) (hL) rfl (P2 5 1 rfl rfl) fun _ H46 => ?_
 refine wpAnyH_done (by kernel_rfl) ?_ _
 repeat (go_not_at_region 9; go_step)
 refine wp_region_lit ?_
 refine h_o H46 rfl (R_fa H46 rfl rfl (fa29_0 _ _)) (P3 57 5 1 rfl rfl rfl) fun _ H47 => ?_
 refine h_o H47 rfl (R_ld H47 rfl rfl (ld_u8 (hL.cell 0))) (P3 58 5 1 rfl rfl rfl) fun _ H48 => ?_
 refine h_end ?_
 repeat (go_not_at_region 10; go_step)
 refine wp_region_lit ?_
 refine h_o H48 rfl (R_bin H48 rfl rfl rfl (B_to (y := true) (B8_eq _ _) (by rw [hk1]; rfl))) (P3 60 5 1 rfl rfl rfl) fun _ H49 => ?_
 refine h_o H49 rfl (R_as H49 rfl rfl) (P3 59 5 1 rfl rfl rfl) fun _ H50 => ?_
 refine h_end ?_
 repeat (go_not_at_region 11; go_step)
 refine wp_cond_true (H50.ev (x := .tmp 59) rfl) ?_
 repeat (go_not_at_region 11; go_step)
 refine wp_region_lit ?_
 refine h_o H50 rfl (R_mv H50 rfl rfl) (P3 61 5 1 rfl rfl rfl) fun _ H51 => ?_
 refine h_o H51 rfl (R_fa H51 rfl rfl (fa29_9 _ _)) (P3 62 61 5 rfl rfl rfl) fun _ H52 => ?_
 refine h_o H52 rfl (R_ld H52 rfl rfl (ld_item (hL.cell 9) (hL.cell 10) (hL.cell 11) (hL.cell 12) (hL.cell 13) (hL.cell 14) (hL.cell 15) (hL.cell 16))) (P3 63 61 5 rfl rfl rfl) fun _ H53 => ?_
 refine h_call H53 rfl (wn rfl) (R_call1 H53 rfl rfl (fun w => by simp [go_sem])) rfl ?_
 refine (rItem_any (m := m) bisrc biseq bilow hik (by omega) bipart hf.iat0 hf.iat1 hf.iN0 hf.iN1).mono ?_
 rintro e wx ⟨rfl, hb⟩
 replace hL := hL.call hb
 clear hb
 refine ⟨_, rfl, fun a54 HH => ?_⟩
 have H54 := HH _ (P3 64 61 5 rfl rfl rfl)
 refine h_o H54 rfl (R_bin H54 rfl rfl rfl (B_catL _ _ (by (try simp only [List.length_append, List.length_cons, List.length_nil]); omega))) (P2 65 5 rfl rfl) fun _ H55 => ?_
 refine h_o H55 rfl (R_as H55 rfl rfl) (P1 5 rfl) fun _ H56 => ?_
 refine h_end ?_
 repeat (go_not_at_region 33; go_step)
 refine wp_region_lit ?_
 refine h_o H56 rfl (R_mv H56 rfl rfl) (P1 162 rfl) fun _ H57 => ?_
 refine h_o H57 rfl (R_as H57 rfl rfl) (P1 2 rfl) fun _ H58 => ?_
 refine h_o H58 rfl (R_as H58 rfl rfl) (P2 3 2 rfl rfl) fun _ H59 => ?_
 refine h_end ?_
 repeat (go_not_at_region 999; go_step)
 refine H59.ret2 rfl rfl rfl ⟨congrArg (fun l => Ending.returned (.tuple #[.string (packL l), .int .i64 0])) ?_, hL.1⟩
 simp [outM, emsM, hk1, emN, emB, emI, emU, emT, emL, itemOut]
end
section
variable {P : Program} {a : Act} {w w' : World} {n : Nat} {m : List (Nat × Value)} {o : Oper} {v : Value}
theorem R_bs4 {t : TypeId} {k : Nat} {x0 x1 x2 x3 : Operand} {v0 v1 v2 v3 : Value} (H : Fr a n m) (ho : o.op = .buildSlice t k #[(0, x0), (1, x1), (2, x2), (3, x3)]) (h0 : ev1 m x0 = some v0) (h1 : ev1 m x1 = some v1) (h2 : ev1 m x2 = some v2) (h3 : ev1 m x3 = some v3) (hl : (Instr.buildSlice t k #[(0, v0), (1, v1), (2, v2), (3, v3)]).run P w = .ok v w') : (execOp a.eval o).run P w = .ok (.value v) w' := by
 have e0 := H.ev h0
 have e1 := H.ev h1
 have e2 := H.ev h2
 have e3 := H.ev h3
 unfold execOp
 rw [ho]
 generalize a.eval = ρ at *
 simp only [List.map_toArray, List.map_cons, List.map_nil, e0, e1, e2, e3]
 exact fr_v hl
end
section
variable {w0 w : World} {L : List Blk} {g : Nat}
theorem bs4_u8 (x y z u : Int) : (Instr.buildSlice 72 4 #[(0, .int .u8 x), (1, .int .u8 y), (2, .int .u8 z), (3, .int .u8 u)]).run Tryz.prog w = .ok (.slice (some ⟨w.heap.size, 0, none⟩) 4 4) (w.alloc (.cells #[.int .u8 x, .int .u8 y, .int .u8 z, .int .u8 u] 5)) := by
 simp [go_sem]
theorem cv4_u8 {x y z u : Nat} (hb : ∀ b ∈ [x, y, z, u], b < 256) (h : Live w0 ((g, #[.int .u8 (x : Nat), .int .u8 (y : Nat), .int .u8 (z : Nat), .int .u8 (u : Nat)], 5) :: L) w) : (convert 72 9 (.slice (some ⟨g, 0, none⟩) 4 4)).run Tryz.prog w = .ok (.string (packL [x, y, z, u])) w := by
 have hr : RowIs 5 (.slice (some ⟨g, 0, none⟩) 4 4) (u8s [x, y, z, u]) [(g, #[.int .u8 (x : Nat), .int .u8 (y : Nat), .int .u8 (z : Nat), .int .u8 (u : Nat)], 5)] := .inr ⟨g, 4, #[.int .u8 (x : Nat), .int .u8 (y : Nat), .int .u8 (z : Nat), .int .u8 (u : Nat)], rfl, rfl, by simp [u8s], by unfold maxLen; omega, rfl, rfl⟩
 exact string_run hr (B := [(g, #[.int .u8 (x : Nat), .int .u8 (y : Nat), .int .u8 (z : Nat), .int .u8 (u : Nat)], 5)]) h hb
theorem B32_remN {X Y : Operand} (x k : Nat) (hk : 0 < k) : ((do eqGuard .rem 113 X Y (.int .u32 (x : Nat)) (.int .u32 (k : Nat)); binOp .rem 113 (.int .u32 (x : Nat)) (.int .u32 (k : Nat))) : Sem Value).run Tryz.prog w = .ok (.int .u32 (x % k : Nat)) w := by
 have e : (x : Int).tmod k = ((x % k : Nat) : Int) := Int.tmod_eq_emod_of_nonneg (by omega)
 have e2 : (k : Int) ≠ 0 := by omega
 have e3 : ¬ k = 0 := by omega
 simp [go_sem, e, e2, e3]
theorem B32_quoN {X Y : Operand} (x k : Nat) (hk : 0 < k) (hx : x < 4294967296) : ((do eqGuard .quo 113 X Y (.int .u32 (x : Nat)) (.int .u32 (k : Nat)); binOp .quo 113 (.int .u32 (x : Nat)) (.int .u32 (k : Nat))) : Sem Value).run Tryz.prog w = .ok (.int .u32 (x / k : Nat)) w := by
 have e : (x : Int).tdiv k = ((x / k : Nat) : Int) := Int.tdiv_eq_ediv_of_nonneg (by omega)
 have hle : x / k ≤ x := Nat.div_le_self _ _
 have e1 : IntKind.u32.wrap ((x : Int) / k) = (x : Int) / k := by
  rw [← Int.natCast_ediv]
  generalize x / k = q at *
  unfold IntKind.wrap
  simp [IntKind.signed, IntKind.bits]
  omega
 have e2 : (k : Int) ≠ 0 := by omega
 have e3 : ¬ k = 0 := by omega
 simp [go_sem, e, e1, e2, e3]
theorem B32_xorN {X Y : Operand} (x y : Nat) (hx : x < 4294967296) (hy : y < 4294967296) : ((do eqGuard .xor 113 X Y (.int .u32 (x : Nat)) (.int .u32 (y : Nat)); binOp .xor 113 (.int .u32 (x : Nat)) (.int .u32 (y : Nat))) : Sem Value).run Tryz.prog w = .ok (.int .u32 (x ^^^ y : Nat)) w := by
 have e := u32_xor_nat x y hx hy
 simp [go_sem, e]
theorem cv32_8 (x : Nat) (h : x < 256) : (convert 113 5 (.int .u32 (x : Nat))).run Tryz.prog w = .ok (.int .u8 (x : Nat)) w := by
 have e : IntKind.u8.wrap (x : Int) = x := by
  unfold IntKind.wrap
  simp [IntKind.signed, IntKind.bits]
  omega
 simp [go_sem, e]
theorem cv8_32 (x : Nat) (h : x < 256) : (convert 5 113 (.int .u8 (x : Nat))).run Tryz.prog w = .ok (.int .u32 (x : Nat)) w := by
 have e : IntKind.u32.wrap (x : Int) = x := by
  unfold IntKind.wrap
  simp [IntKind.signed, IntKind.bits]
  omega
 simp [go_sem, e]
theorem cvi_32 (x : Nat) (h : x < 4294967296) : (convert 3 113 (.int .i64 (x : Nat))).run Tryz.prog w = .ok (.int .u32 (x : Nat)) w := by
 have e : IntKind.u32.wrap (x : Int) = x := by
  unfold IntKind.wrap
  simp [IntKind.signed, IntKind.bits]
  omega
 simp [go_sem, e]
end
theorem sb_val (x : Nat) : sb x = if x % 2 = 1 then x / 2 ^^^ 2197175160 else x / 2 := rfl
theorem crcR_more {s : ByteArray} {j : Nat} (hj : j < s.size) (c : Nat) : crcR c ((bytesOf s).take (j + 1)) = sbN 8 (crcR c ((bytesOf s).take j) ^^^ (s[j]'hj).toNat) := by
 have e : (bytesOf s)[j]? = some (s[j]'hj).toNat := by
  rw [List.getElem?_eq_getElem (by simpa [bytesOf] using hj)]
  congr 1
  simp [bytesOf]
  rfl
 unfold crcR
 rw [List.take_add_one, List.foldl_append, e]
 rfl
section
variable {W : World} {s : ByteArray}
set_option maxRecDepth 100000 in
theorem four_any {n : Nat} (hn : n < 4294967296) : Calls Tryz.prog 71 #[.int .u32 (n : Nat)] W fun e W' => e = .returned (.string (packL (le4 n))) ∧ Below W.heap.size W W' := by
 have hL := Live.init W
 have hle : le4 n = [n % 256, n / 256 % 256, n / 65536 % 256, n / 16777216] := by
  unfold le4
  rw [Nat.mod_eq_of_lt (show n / 16777216 < 256 by omega)]
 have hall := le4_all n
 rw [hle] at hall ⊢
 go_enter Tryz.func71, Tryz.ntmps71
 refine wp_fr (n := 19) (m := [(0, _)]) ⟨rfl, rfl, by intro p hp; simp only [List.mem_cons, List.not_mem_nil, or_false] at hp; rcases hp with rfl <;> rfl⟩ fun a0 H0 => ?_
 repeat (go_not_at_region 0; go_step)
 refine wp_region_lit ?_
 refine h_o H0 rfl (R_as H0 rfl rfl) (P1 0 rfl) fun _ H1 => ?_
 refine h_end ?_
 repeat (go_not_at_region 1; go_step)
 refine wp_region_lit ?_
 refine h_o H1 rfl (R_mv H1 rfl rfl) (P2 3 0 rfl rfl) fun _ H2 => ?_
 refine h_o H2 rfl (R_bin H2 rfl rfl rfl (B32_remN n 256 (by decide))) (P2 4 0 rfl rfl) fun _ H3 => ?_
 refine h_o H3 rfl (R_cv H3 rfl rfl (cv32_8 _ (by omega))) (P2 5 0 rfl rfl) fun _ H4 => ?_
 refine h_o H4 rfl (R_mv H4 rfl rfl) (P3 6 5 0 rfl rfl rfl) fun _ H5 => ?_
 refine h_o H5 rfl (R_bin H5 rfl rfl rfl (B32_quoN n 256 (by decide) hn)) (P3 7 5 0 rfl rfl rfl) fun _ H6 => ?_
 refine h_o H6 rfl (R_bin H6 rfl rfl rfl (B32_remN (n / 256) 256 (by decide))) (P3 8 5 0 rfl rfl rfl) fun _ H7 => ?_
 refine h_o H7 rfl (R_cv H7 rfl rfl (cv32_8 _ (by omega))) (P3 9 5 0 rfl rfl rfl) fun _ H8 => ?_
 refine h_o H8 rfl (R_mv H8 rfl rfl) (P4 10 9 5 0 rfl rfl rfl rfl) fun _ H9 => ?_
 refine h_o H9 rfl (R_bin H9 rfl rfl rfl (B32_quoN n 65536 (by decide) hn)) (P4 11 9 5 0 rfl rfl rfl rfl) fun _ H10 => ?_
 refine h_o H10 rfl (R_bin H10 rfl rfl rfl (B32_remN (n / 65536) 256 (by decide))) (P4 12 9 5 0 rfl rfl rfl rfl) fun _ H11 => ?_
 refine h_o H11 rfl (R_cv H11 rfl rfl (cv32_8 _ (by omega))) (P4 13 9 5 0 rfl rfl rfl rfl) fun _ H12 => ?_
 refine h_o H12 rfl (R_mv H12 rfl rfl) (P4 14 13 9 5 rfl rfl rfl rfl) fun _ H13 => ?_
 refine h_o H13 rfl (R_bin H13 rfl rfl rfl (B32_quoN n 16777216 (by decide) hn)) (P4 15 13 9 5 rfl rfl rfl rfl) fun _ H14 => ?_
 refine h_o H14 rfl (R_cv H14 rfl rfl (cv32_8 _ (by omega))) (P4 16 13 9 5 rfl rfl rfl rfl) fun _ H15 => ?_
 refine h_o H15 rfl (R_bs4 H15 rfl rfl rfl rfl rfl (bs4_u8 _ _ _ _)) (P1 17 rfl) fun _ H16 => ?_
 replace hL := hL.alloc #[.int .u8 (n % 256 : Nat), .int .u8 (n / 256 % 256 : Nat), .int .u8 (n / 65536 % 256 : Nat), .int .u8 (n / 16777216 : Nat)] 5
 refine h_o H16 rfl (R_cv H16 rfl rfl (cv4_u8 hall hL)) (P1 18 rfl) fun _ H17 => ?_
 refine h_o H17 rfl (R_as H17 rfl rfl) (P1 2 rfl) fun _ H18 => ?_
 refine h_end ?_
 repeat (go_not_at_region 999; go_step)
 exact H18.ret1 rfl rfl ⟨rfl, hL.1⟩
set_option maxHeartbeats 1000000 in
set_option maxRecDepth 100000 in
theorem rMore_any (hs : s.size < 140737488351233) : Calls Tryz.prog 96 #[.int .u32 0, .string s] W fun e W' => e = .returned (.int .u32 (crcM (bytesOf s) : Nat)) ∧ W' = W := by
 go_enter Tryz.func96, Tryz.ntmps96
 refine wp_fr (n := 37) (m := [(0, _), (1, _)]) ⟨rfl, rfl, by intro p hp; simp only [List.mem_cons, List.not_mem_nil, or_false] at hp; rcases hp with rfl | rfl <;> rfl⟩ fun a0 H0 => ?_
 repeat (go_not_at_region 0; go_step)
 refine wp_region_lit ?_
 refine h_o H0 rfl (R_as H0 rfl rfl) (P2 0 1 rfl rfl) fun _ H1 => ?_
 refine h_end ?_
 repeat (go_not_at_region 1; go_step)
 refine wp_region_lit ?_
 refine h_o H1 rfl (R_mv H1 rfl rfl) (P2 9 1 rfl rfl) fun _ H2 => ?_
 refine h_o H2 rfl (R_bin H2 rfl rfl rfl (B32_xorN 0 4294967295 (by decide) (by decide))) (P2 10 1 rfl rfl) fun _ H3 => ?_
 refine h_o H3 rfl (R_as H3 rfl rfl) (P2 5 1 rfl rfl) fun _ H4 => ?_
 refine h_end ?_
 repeat (go_not_at_region 2; go_step)
 refine wp_region_lit ?_
 refine h_o H4 rfl (R_as H4 rfl rfl) (P3 6 5 1 rfl rfl rfl) fun _ H5 => ?_
 refine h_end ?_
 repeat (go_not_at_region 3; go_step)
 obtain ⟨I, hI⟩ : ∃ I : Nat → Act → World → Prop, ∀ n a' w', I n a' w' ↔ ∃ j : Nat, n = s.size - j ∧ j ≤ s.size ∧ Fr a' 37 [(1, .string s), (5, .int .u32 (crcR 4294967295 ((bytesOf s).take j) : Nat)), (6, .int .i64 (j : Nat))] ∧ w' = W := ⟨_, fun _ _ _ => Iff.rfl⟩
 have HI := Lib.hid hI
 clear hI
 refine wp_loop_ghost I s.size ((HI.out _ _ _).2 ⟨0, rfl, Nat.zero_le _, H5.pick _ (P3 1 5 6 rfl rfl rfl), rfl⟩) ?_
 intro n a1 w1 hi
 obtain ⟨j, rfl, hj, H0, rfl⟩ := (HI.out _ _ _).1 hi
 clear hi
 have hcl : crcR 4294967295 ((bytesOf s).take j) < 4294967296 := crcR_lt _ _ (by decide) fun b hb => bytesOf_lt b (List.mem_of_mem_take hb)
 by_cases hjl : j < s.size
 ·repeat (go_not_at_region 3; go_step)
  refine wp_region_lit ?_
  refine h_o H0 rfl (R_mv H0 rfl rfl) (P4 11 1 5 6 rfl rfl rfl rfl) fun _ H1 => ?_
  refine h_o H1 rfl (R_mv H1 rfl rfl) (P5 12 11 1 5 6 rfl rfl rfl rfl rfl) fun _ H2 => ?_
  refine h_o H2 rfl (R_len H2 rfl rfl Tryz.underlying9) (P5 13 11 1 5 6 rfl rfl rfl rfl rfl) fun _ H3 => ?_
  refine h_o H3 rfl (R_bin H3 rfl rfl rfl (B_to (y := true) (B_lt Tryz.underlying3 _ _) (decide_eq_true (by omega)))) (P4 14 1 5 6 rfl rfl rfl rfl) fun _ H4 => ?_
  refine h_end ?_
  repeat (go_not_at_region 5; go_step)
  refine wp_cond_true (H4.ev (x := .tmp 14) rfl) ?_
  have hb8 : (s[j]'hjl).toNat < 256 := UInt8.toNat_lt _
  have hmore := crcR_more hjl 4294967295
  obtain ⟨y, hy⟩ : ∃ y, y = crcR 4294967295 ((bytesOf s).take j) ^^^ (s[j]'hjl).toNat := ⟨_, rfl⟩
  have hyl : y < 4294967296 := by rw [hy]; exact Nat.xor_lt_two_pow (n := 32) hcl (Nat.lt_of_lt_of_le hb8 (by decide))
  rw [← hy] at hmore
  repeat (go_not_at_region 5; go_step)
  refine wp_region_lit ?_
  refine h_o H4 rfl (R_mv H4 rfl rfl) (P4 17 1 5 6 rfl rfl rfl rfl) fun _ H5 => ?_
  refine h_o H5 rfl (R_mv H5 rfl rfl) (P5 18 17 1 5 6 rfl rfl rfl rfl rfl) fun _ H6 => ?_
  refine h_o H6 rfl (R_mv H6 rfl rfl) (P6 19 18 17 1 5 6 rfl rfl rfl rfl rfl rfl) fun _ H7 => ?_
  refine h_o H7 rfl (R_ix H7 rfl rfl rfl (ix_str hjl)) (P5 20 17 1 5 6 rfl rfl rfl rfl rfl) fun _ H8 => ?_
  refine h_o H8 rfl (R_cv H8 rfl rfl (cv8_32 _ hb8)) (P5 21 17 1 5 6 rfl rfl rfl rfl rfl) fun _ H9 => ?_
  refine h_o H9 rfl (R_bin H9 rfl rfl rfl (B32_xorN _ _ hcl (Nat.lt_of_lt_of_le hb8 (by decide)))) (P4 22 1 5 6 rfl rfl rfl rfl) fun _ H10 => ?_
  refine h_o H10 rfl (R_as H10 rfl rfl) (P3 5 1 6 rfl rfl rfl) fun _ H11 => ?_
  refine h_end ?_
  rw [← hy] at H11
  repeat (go_not_at_region 6; go_step)
  refine wp_region_lit ?_
  refine h_o H11 rfl (R_as H11 rfl rfl) (P4 7 5 1 6 rfl rfl rfl rfl) fun _ H12 => ?_
  refine h_end ?_
  repeat (go_not_at_region 7; go_step)
  obtain ⟨J, hJ⟩ : ∃ J : Nat → Act → World → Prop, ∀ n a' w', J n a' w' ↔ ∃ k : Nat, n = 8 - k ∧ k ≤ 8 ∧ Fr a' 37 [(1, .string s), (5, .int .u32 (sbN k y : Nat)), (6, .int .i64 (j : Nat)), (7, .int .i64 (k : Nat))] ∧ w' = w1 := ⟨_, fun _ _ _ => Iff.rfl⟩
  have HJ := Lib.hid hJ
  clear hJ
  refine wp_loop_ghost J 8 ((HJ.out _ _ _).2 ⟨0, rfl, Nat.zero_le _, H12.pick _ (P4 1 5 6 7 rfl rfl rfl rfl), rfl⟩) ?_
  intro n a2 w2 hi
  obtain ⟨k, rfl, hk, H0, rfl⟩ := (HJ.out _ _ _).1 hi
  clear hi
  have hxl := sbN_lt k y hyl
  have hlast := sbN_last k y
  rw [sb_val] at hlast
  by_cases hk8 : k < 8
  ·repeat (go_not_at_region 7; go_step)
   refine wp_region_lit ?_
   refine h_o H0 rfl (R_mv H0 rfl rfl) (P5 23 1 5 6 7 rfl rfl rfl rfl rfl) fun _ H1 => ?_
   refine h_o H1 rfl (R_bin H1 rfl rfl rfl (B_to (y := true) (B_lt Tryz.underlying3 _ _) (decide_eq_true (by omega)))) (P5 24 1 5 6 7 rfl rfl rfl rfl rfl) fun _ H2 => ?_
   refine h_end ?_
   repeat (go_not_at_region 9; go_step)
   refine wp_cond_true (H2.ev (x := .tmp 24) rfl) ?_
   repeat (go_not_at_region 9; go_step)
   refine wp_region_lit ?_
   refine h_o H2 rfl (R_mv H2 rfl rfl) (P5 27 1 5 6 7 rfl rfl rfl rfl rfl) fun _ H3 => ?_
   refine h_o H3 rfl (R_bin H3 rfl rfl rfl (B32_remN (sbN k y) 2 (by decide))) (P5 28 1 5 6 7 rfl rfl rfl rfl rfl) fun _ H4 => ?_
   refine h_o H4 rfl (R_as H4 rfl rfl) (P5 8 1 5 6 7 rfl rfl rfl rfl rfl) fun _ H5 => ?_
   refine h_end ?_
   repeat (go_not_at_region 10; go_step)
   refine wp_region_lit ?_
   refine h_o H5 rfl (R_mv H5 rfl rfl) (P6 29 8 1 5 6 7 rfl rfl rfl rfl rfl rfl) fun _ H6 => ?_
   refine h_o H6 rfl (R_bin H6 rfl rfl rfl (B32_quoN (sbN k y) 2 (by decide) hxl)) (P6 30 8 1 5 6 7 rfl rfl rfl rfl rfl rfl) fun _ H7 => ?_
   refine h_o H7 rfl (R_as H7 rfl rfl) (P5 5 8 1 6 7 rfl rfl rfl rfl rfl) fun _ H8 => ?_
   refine h_end ?_
   by_cases hodd : sbN k y % 2 = 1
   ·rw [if_pos hodd] at hlast
    repeat (go_not_at_region 11; go_step)
    refine wp_region_lit ?_
    refine h_o H8 rfl (R_mv H8 rfl rfl) (P5 31 5 1 6 7 rfl rfl rfl rfl rfl) fun _ H9 => ?_
    refine h_o H9 rfl (R_bin H9 rfl rfl rfl (B_to (y := true) (B32_eq1 _) (decide_eq_true hodd))) (P5 32 5 1 6 7 rfl rfl rfl rfl rfl) fun _ H10 => ?_
    refine h_end ?_
    repeat (go_not_at_region 12; go_step)
    refine wp_cond_true (H10.ev (x := .tmp 32) rfl) ?_
    repeat (go_not_at_region 12; go_step)
    refine wp_region_lit ?_
    refine h_o H10 rfl (R_mv H10 rfl rfl) (P5 33 5 1 6 7 rfl rfl rfl rfl rfl) fun _ H11 => ?_
    refine h_o H11 rfl (R_bin H11 rfl rfl rfl (B32_xorN (sbN k y / 2) 2197175160 (by omega) (by decide))) (P5 34 5 1 6 7 rfl rfl rfl rfl rfl) fun _ H12 => ?_
    refine h_o H12 rfl (R_as H12 rfl rfl) (P4 5 1 6 7 rfl rfl rfl rfl) fun _ H13 => ?_
    refine h_end ?_
    repeat (go_not_at_region 8; go_step)
    refine wp_region_lit ?_
    refine h_o H13 rfl (R_mv H13 rfl rfl) (P5 25 5 1 6 7 rfl rfl rfl rfl rfl) fun _ H14 => ?_
    refine h_o H14 rfl (R_bin H14 rfl rfl rfl (B_add Tryz.underlying3 _ _ (by omega) (by omega))) (P5 26 5 1 6 7 rfl rfl rfl rfl rfl) fun _ H15 => ?_
    refine h_o H15 rfl (R_as H15 rfl rfl) (P4 7 5 1 6 rfl rfl rfl rfl) fun _ H16 => ?_
    refine h_end ?_
    repeat (go_not_at_region 999; go_step)
    refine ⟨8 - (k + 1), by omega, (HJ.out _ _ _).2 ⟨k + 1, rfl, hk8, ?_, rfl⟩⟩
    rw [hlast]
    exact H16.pick _ (P4 1 5 6 7 rfl rfl rfl rfl)
   ·rw [if_neg hodd] at hlast
    repeat (go_not_at_region 11; go_step)
    refine wp_region_lit ?_
    refine h_o H8 rfl (R_mv H8 rfl rfl) (P5 31 5 1 6 7 rfl rfl rfl rfl rfl) fun _ H9 => ?_
    refine h_o H9 rfl (R_bin H9 rfl rfl rfl (B_to (y := false) (B32_eq1 _) (decide_eq_false hodd))) (P5 32 5 1 6 7 rfl rfl rfl rfl rfl) fun _ H10 => ?_
    refine h_end ?_
    repeat (go_not_at_region 8; go_step)
    refine wp_cond_false (H10.ev (x := .tmp 32) rfl) ?_
    repeat (go_not_at_region 8; go_step)
    refine wp_region_lit ?_
    refine h_o H10 rfl (R_mv H10 rfl rfl) (P5 25 5 1 6 7 rfl rfl rfl rfl rfl) fun _ H11 => ?_
    refine h_o H11 rfl (R_bin H11 rfl rfl rfl (B_add Tryz.underlying3 _ _ (by omega) (by omega))) (P5 26 5 1 6 7 rfl rfl rfl rfl rfl) fun _ H12 => ?_
    refine h_o H12 rfl (R_as H12 rfl rfl) (P4 7 5 1 6 rfl rfl rfl rfl) fun _ H13 => ?_
    refine h_end ?_
    repeat (go_not_at_region 999; go_step)
    refine ⟨8 - (k + 1), by omega, (HJ.out _ _ _).2 ⟨k + 1, rfl, hk8, ?_, rfl⟩⟩
    rw [hlast]
    exact H13.pick _ (P4 1 5 6 7 rfl rfl rfl rfl)
  ·obtain rfl : k = 8 := by omega
   repeat (go_not_at_region 7; go_step)
   refine wp_region_lit ?_
   refine h_o H0 rfl (R_mv H0 rfl rfl) (P5 23 1 5 6 7 rfl rfl rfl rfl rfl) fun _ H1 => ?_
   refine h_o H1 rfl (R_bin H1 rfl rfl rfl (B_to (y := false) (B_lt Tryz.underlying3 _ _) (decide_eq_false (by omega)))) (P5 24 1 5 6 7 rfl rfl rfl rfl rfl) fun _ H2 => ?_
   refine h_end ?_
   repeat (go_not_at_region 4; go_step)
   refine wp_cond_false (H2.ev (x := .tmp 24) rfl) ?_
   repeat (go_not_at_region 4; go_step)
   refine wp_region_lit ?_
   refine h_o H2 rfl (R_mv H2 rfl rfl) (P4 15 1 5 6 rfl rfl rfl rfl) fun _ H3 => ?_
   refine h_o H3 rfl (R_bin H3 rfl rfl rfl (B_add Tryz.underlying3 _ _ (by omega) (by omega))) (P4 16 1 5 6 rfl rfl rfl rfl) fun _ H4 => ?_
   refine h_o H4 rfl (R_as H4 rfl rfl) (P3 6 1 5 rfl rfl rfl) fun _ H5 => ?_
   refine h_end ?_
   repeat (go_not_at_region 999; go_step)
   refine ⟨s.size - (j + 1), by omega, (HI.out _ _ _).2 ⟨j + 1, rfl, hjl, ?_, rfl⟩⟩
   rw [hmore]
   exact H5.pick _ (P3 1 5 6 rfl rfl rfl)
 ·obtain rfl : j = s.size := by omega
  repeat (go_not_at_region 3; go_step)
  refine wp_region_lit ?_
  refine h_o H0 rfl (R_mv H0 rfl rfl) (P4 11 1 5 6 rfl rfl rfl rfl) fun _ H1 => ?_
  refine h_o H1 rfl (R_mv H1 rfl rfl) (P5 12 11 1 5 6 rfl rfl rfl rfl rfl) fun _ H2 => ?_
  refine h_o H2 rfl (R_len H2 rfl rfl Tryz.underlying9) (P5 13 11 1 5 6 rfl rfl rfl rfl rfl) fun _ H3 => ?_
  refine h_o H3 rfl (R_bin H3 rfl rfl rfl (B_to (y := false) (B_lt Tryz.underlying3 _ _) (decide_eq_false (by omega)))) (P4 14 1 5 6 rfl rfl rfl rfl) fun _ H4 => ?_
  refine h_end ?_
  repeat (go_not_at_region 13; go_step)
  refine wp_cond_false (H4.ev (x := .tmp 14) rfl) ?_
  have hall : (bytesOf s).take s.size = bytesOf s := List.take_of_length_le (by rw [bytes_size]; omega)
  rw [hall] at H4 hcl
  have hx : crcM (bytesOf s) = crcR 4294967295 (bytesOf s) ^^^ 4294967295 := (not_xor hcl).symm
  repeat (go_not_at_region 13; go_step)
  refine wp_region_lit ?_
  refine h_o H4 rfl (R_mv H4 rfl rfl) (P1 35 rfl) fun _ H5 => ?_
  refine h_o H5 rfl (R_bin H5 rfl rfl rfl (B32_xorN _ 4294967295 hcl (by decide))) (P1 36 rfl) fun _ H6 => ?_
  refine h_o H6 rfl (R_as H6 rfl rfl) (P1 4 rfl) fun _ H7 => ?_
  refine h_end ?_
  repeat (go_not_at_region 999; go_step)
  refine H7.ret1 rfl rfl ⟨?_, rfl⟩
  rw [hx]
set_option maxRecDepth 100000 in
theorem rCrc_any (hs : s.size < 140737488351233) : Calls Tryz.prog 72 #[.string s] W fun e W' => e = .returned (.int .u32 (crcM (bytesOf s) : Nat)) ∧ W' = W := by
 go_enter Tryz.func72, Tryz.ntmps72
 refine wp_fr (n := 5) (m := [(0, _)]) ⟨rfl, rfl, by intro p hp; simp only [List.mem_cons, List.not_mem_nil, or_false] at hp; rcases hp with rfl <;> rfl⟩ fun a0 H0 => ?_
 repeat (go_not_at_region 0; go_step)
 refine wp_region_lit ?_
 refine h_o H0 rfl (R_as H0 rfl rfl) (P1 0 rfl) fun _ H1 => ?_
 refine h_end ?_
 repeat (go_not_at_region 1; go_step)
 refine wp_region_lit ?_
 refine h_o H1 rfl (R_mv H1 rfl rfl) (P1 3 rfl) fun _ H2 => ?_
 refine h_call H2 rfl (wn rfl) (R_call2 H2 rfl rfl rfl (fun w => by simp [go_sem])) rfl ?_
 refine (rMore_any hs).mono ?_
 rintro e wx ⟨rfl, rfl⟩
 refine ⟨_, rfl, fun a3 HH => ?_⟩
 have H3 := HH _ (P1 4 rfl)
 refine h_o H3 rfl (R_as H3 rfl rfl) (P1 2 rfl) fun _ H4 => ?_
 refine h_end ?_
 repeat (go_not_at_region 999; go_step)
 exact H4.ret1 rfl rfl ⟨rfl, rfl⟩
set_option maxRecDepth 100000 in
theorem rPut_any (hs : s.size ≤ 16384) : Calls Tryz.prog 48 #[.string s] W fun e W' => e = .returned (.tuple #[.string (packL (frameL s)), .int .i64 0]) ∧ Below W.heap.size W W' := by
 have hL := Live.init W
 have hcat : packL (le4 s.size) ++ packL (le4 (crcM (le4 s.size))) ++ s ++ packL (le4 (crcM (bytesOf s))) = packL (frameL s) := by
  unfold frameL headL
  rw [← packL_app, ← packL_app, ← packL_app, packL_of]
 have z4 : ∀ n, (packL (le4 n)).size = 4 := fun n => by rw [packL_size]; rfl
 go_enter Tryz.func48, Tryz.ntmps48
 refine wp_fr (n := 23) (m := [(0, _)]) ⟨rfl, rfl, by intro p hp; simp only [List.mem_cons, List.not_mem_nil, or_false] at hp; rcases hp with rfl <;> rfl⟩ fun a0 H0 => ?_
 repeat (go_not_at_region 0; go_step)
 refine wp_region_lit ?_
 refine h_o H0 rfl (R_as H0 rfl rfl) (P1 0 rfl) fun _ H1 => ?_
 refine h_o H1 rfl (R_as H1 rfl rfl) (P1 0 rfl) fun _ H2 => ?_
 refine h_end ?_
 repeat (go_not_at_region 1; go_step)
 refine wp_region_lit ?_
 refine h_o H2 rfl (R_mv H2 rfl rfl) (P2 5 0 rfl rfl) fun _ H3 => ?_
 refine h_o H3 rfl (R_len H3 rfl rfl Tryz.underlying9) (P2 6 0 rfl rfl) fun _ H4 => ?_
 refine h_o H4 rfl (R_bin H4 rfl rfl rfl (B_to (y := false) (B_gt Tryz.underlying3 _ _) (decide_eq_false (by omega)))) (P2 7 0 rfl rfl) fun _ H5 => ?_
 refine h_end ?_
 repeat (go_not_at_region 3; go_step)
 refine wp_cond_false (H5.ev (x := .tmp 7) rfl) ?_
 repeat (go_not_at_region 3; go_step)
 refine wp_region_lit ?_
 refine h_o H5 rfl (R_mv H5 rfl rfl) (P2 8 0 rfl rfl) fun _ H6 => ?_
 refine h_o H6 rfl (R_len H6 rfl rfl Tryz.underlying9) (P2 9 0 rfl rfl) fun _ H7 => ?_
 refine h_o H7 rfl (R_cv H7 rfl rfl (cvi_32 _ (by omega))) (P2 10 0 rfl rfl) fun _ H8 => ?_
 refine h_call H8 rfl (wn rfl) (R_call1 H8 rfl rfl (fun w => by simp [go_sem])) rfl ?_
 refine (four_any (n := s.size) (by omega)).mono ?_
 rintro e wx ⟨rfl, hb⟩
 replace hL := hL.call hb
 clear hb
 refine ⟨_, rfl, fun a9 HH => ?_⟩
 have H9 := HH _ (P2 11 0 rfl rfl)
 refine h_o H9 rfl (R_as H9 rfl rfl) (P2 4 0 rfl rfl) fun _ H10 => ?_
 refine h_end ?_
 repeat (go_not_at_region 4; go_step)
 refine wp_region_lit ?_
 refine h_o H10 rfl (R_mv H10 rfl rfl) (P3 12 4 0 rfl rfl rfl) fun _ H11 => ?_
 refine h_o H11 rfl (R_mv H11 rfl rfl) (P3 13 12 0 rfl rfl rfl) fun _ H12 => ?_
 refine h_call H12 rfl (wn rfl) (R_call1 H12 rfl rfl (fun w => by simp [go_sem])) rfl ?_
 refine (rCrc_any (by rw [z4]; decide)).mono ?_
 rintro e wx ⟨rfl, rfl⟩
 rw [packL_bytes (le4_all _)]
 refine ⟨_, rfl, fun a13 HH => ?_⟩
 have H13 := HH _ (P3 14 12 0 rfl rfl rfl)
 refine h_call H13 rfl (wn rfl) (R_call1 H13 rfl rfl (fun w => by simp [go_sem])) rfl ?_
 refine (four_any crcM_lt).mono ?_
 rintro e wx ⟨rfl, hb⟩
 replace hL := hL.call hb
 clear hb
 refine ⟨_, rfl, fun a14 HH => ?_⟩
 have H14 := HH _ (P3 15 12 0 rfl rfl rfl)
 refine h_o H14 rfl (R_bin H14 rfl rfl rfl (B_cat _ _ (by rw [z4, z4]; decide))) (P2 16 0 rfl rfl) fun _ H15 => ?_
 refine h_o H15 rfl (R_mv H15 rfl rfl) (P3 17 16 0 rfl rfl rfl) fun _ H16 => ?_
 refine h_o H16 rfl (R_bin H16 rfl rfl rfl (B_cat _ _ (by rw [ByteArray.size_append, z4, z4]; omega))) (P2 18 0 rfl rfl) fun _ H17 => ?_
 refine h_o H17 rfl (R_mv H17 rfl rfl) (P2 19 18 rfl rfl) fun _ H18 => ?_
 refine h_call H18 rfl (wn rfl) (R_call1 H18 rfl rfl (fun w => by simp [go_sem])) rfl ?_
 refine (rCrc_any (by omega)).mono ?_
 rintro e wx ⟨rfl, rfl⟩
 refine ⟨_, rfl, fun a19 HH => ?_⟩
 have H19 := HH _ (P2 20 18 rfl rfl)
 refine h_call H19 rfl (wn rfl) (R_call1 H19 rfl rfl (fun w => by simp [go_sem])) rfl ?_
 refine (four_any crcM_lt).mono ?_
 rintro e wx ⟨rfl, hb⟩
 replace hL := hL.call hb
 clear hb
 refine ⟨_, rfl, fun a20 HH => ?_⟩
 have H20 := HH _ (P2 21 18 rfl rfl)
 refine h_o H20 rfl (R_bin H20 rfl rfl rfl (B_cat _ _ (by rw [ByteArray.size_append, ByteArray.size_append, z4, z4, z4]; omega))) (P1 22 rfl) fun _ H21 => ?_
 refine h_o H21 rfl (R_as H21 rfl rfl) (P1 2 rfl) fun _ H22 => ?_
 refine h_o H22 rfl (R_as H22 rfl rfl) (P2 3 2 rfl rfl) fun _ H23 => ?_
 refine h_end ?_
 repeat (go_not_at_region 999; go_step)
 exact H23.ret2 rfl rfl rfl ⟨congrArg (fun s => Ending.returned (.tuple #[.string s, .int .i64 0])) hcat, hL.1⟩
end
end Go.Proofs.YthkeiclhllikjaaGreat.R
