/-
  meterref04.item: an item's bytes, in whatever order.
-/
import Derived.Test.YtmmhchpilcjflaaMsgWo
set_option linter.unusedSimpArgs false
set_option linter.unusedVariables false
namespace Go.Proofs.Ytmmhchpilcjflaa
open Go.RowKit
def itemOut (m : PMsg) : List Nat := vbytes m.isrc.toNat ++ vbytes m.iseq.toNat ++ vbytes m.ilow.toNat ++ [m.ikind] ++ (vbytes m.ikey.size ++ bytesOf m.ikey) ++ vbytes m.ipart.toNat ++ vbytes (zig m.iat) ++ vbytes (zig m.iN)
theorem rNum_b {n : Nat} (hn : n < 18446744073709551616) (W : World) : Calls Try.prog 41 #[.int .u64 (n : Nat)] W fun e W' => e = .returned (.string (packL (vbytes n))) ∧ Below W.heap.size W W' := rNum_any n n (Nat.le_refl _) hn W
theorem rZig_b {n : Int} (h0 : -9223372036854775808 ≤ n) (h1 : n < 9223372036854775808) (W : World) : Calls Try.prog 42 #[.int .i64 n] W fun e W' => e = .returned (.int .u64 (zig n : Nat)) ∧ Below W.heap.size W W' := by
  refine (rZig_any h0 h1).mono ?_
  rintro e W' ⟨rfl, rfl⟩
  exact ⟨rfl, Below.refl _ _⟩
theorem in_small {x : Int} (h : inB x = true) : (vbytes x.toNat).length ≤ 10 := by
  unfold inB at h
  simp only [Bool.and_eq_true, decide_eq_true_eq] at h
  exact vbytes_le (by omega)
theorem fi_3 (g : Nat) (w : World) : (Instr.fieldAt 24 (.pointer (some ⟨g, 0, none⟩)) 3).run Try.prog w = .ok (.pointer (some ⟨g, 3, none⟩)) w := by simp [go_sem]
theorem fi_6 (g : Nat) (w : World) : (Instr.fieldAt 24 (.pointer (some ⟨g, 0, none⟩)) 6).run Try.prog w = .ok (.pointer (some ⟨g, 6, none⟩)) w := by simp [go_sem]
theorem fi_7 (g : Nat) (w : World) : (Instr.fieldAt 24 (.pointer (some ⟨g, 0, none⟩)) 7).run Try.prog w = .ok (.pointer (some ⟨g, 7, none⟩)) w := by simp [go_sem]
section
variable {W : World} {m : PMsg}
set_option maxHeartbeats 16000000 in
set_option maxRecDepth 100000 in
theorem rItem_any (h0 : inB m.isrc = true) (h1 : inB m.iseq = true) (h2 : inB m.ilow = true) (h3 : m.ikind < 256) (h4 : m.ikey.size ≤ 50000) (h5 : inB m.ipart = true) (h60 : -9223372036854775808 ≤ m.iat) (h61 : m.iat < 9223372036854775808) (h70 : -9223372036854775808 ≤ m.iN) (h71 : m.iN < 9223372036854775808) :
    Calls Try.prog 39 #[.agg (icells m)] W fun e W' => e = .returned (.string (packL (itemOut m))) ∧ Below W.heap.size W W' := by
  have hL := (Live.init W).alloc (icells m) 24
  have z0 := in_small h0
  have z1 := in_small h1
  have z2 := in_small h2
  have z4 := vbytes_le (x := m.ikey.size) (by omega)
  have z5 := in_small h5
  have z6 := vbytes_le (zig_lt h60 h61)
  have z7 := vbytes_le (zig_lt h70 h71)
  have q0 := fun w => rnum_in (W := w) h0
  have q1 := fun w => rnum_in (W := w) h1
  have q2 := fun w => rnum_in (W := w) h2
  have q4 := fun w => rText_any (W := w) h4
  have q5 := fun w => rnum_in (W := w) h5
  have q6 := rZig_b h60 h61
  have q7 := rZig_b h70 h71
  have q8 := rNum_b (zig_lt h60 h61)
  have q9 := rNum_b (zig_lt h70 h71)
  have s4 : (packL (vbytes m.ikey.size ++ bytesOf m.ikey)).size ≤ 60000 := by rw [packL_size, List.length_append, bytes_size]; omega
  have hcat : packL (itemOut m) = packL (vbytes m.isrc.toNat) ++ packL (vbytes m.iseq.toNat) ++ packL (vbytes m.ilow.toNat) ++ packL [m.ikind] ++ packL (vbytes m.ikey.size ++ bytesOf m.ikey) ++ packL (vbytes m.ipart.toNat) ++ packL (vbytes (zig m.iat)) ++ packL (vbytes (zig m.iN)) := by
    unfold itemOut
    simp only [packL_app]
  rw [hcat]
  rw [← packL_size] at z0 z1 z2 z5 z6 z7
  have hcv : ∀ {w : World} {L : List Blk} {g : Nat}, Live W ((g, #[.int .u8 (m.ikind : Nat)], 5) :: L) w → (convert 38 9 (.slice (some ⟨g, 0, none⟩) 1 1)).run Try.prog w = .ok (.string (packL [m.ikind])) w := fun h => cv_u8 h3 h
  have z3 : (packL [m.ikind]).size ≤ 10 := by rw [packL_size]; show 1 ≤ 10; decide
  clear hcat z4
  generalize packL (vbytes m.isrc.toNat) = s0 at *
  generalize packL (vbytes m.iseq.toNat) = s1 at *
  generalize packL (vbytes m.ilow.toNat) = s2 at *
  generalize packL [m.ikind] = s3 at *
  generalize packL (vbytes m.ikey.size ++ bytesOf m.ikey) = t4 at *
  generalize packL (vbytes m.ipart.toNat) = s5 at *
  generalize packL (vbytes (zig m.iat)) = s6 at *
  generalize packL (vbytes (zig m.iN)) = s7 at *
  have c1 : s0.size + s1.size ≤ 100000 := by omega
  have c2 : (s0 ++ s1).size + s2.size ≤ 100000 := by rw [ByteArray.size_append]; omega
  have c3 : (s0 ++ s1 ++ s2).size + s3.size ≤ 100000 := by simp only [ByteArray.size_append]; omega
  have c4 : (s0 ++ s1 ++ s2 ++ s3).size + t4.size ≤ 100000 := by simp only [ByteArray.size_append]; omega
  have c5 : (s0 ++ s1 ++ s2 ++ s3 ++ t4).size + s5.size ≤ 100000 := by simp only [ByteArray.size_append]; omega
  have c6 : (s0 ++ s1 ++ s2 ++ s3 ++ t4 ++ s5).size + s6.size ≤ 100000 := by simp only [ByteArray.size_append]; omega
  have c7 : (s0 ++ s1 ++ s2 ++ s3 ++ t4 ++ s5 ++ s6).size + s7.size ≤ 100000 := by simp only [ByteArray.size_append]; omega
  clear z0 z1 z2 z3 z5 z6 z7 s4
  go_enter Try.func39, Try.ntmps39
  refine wp_fr (n := 37) (m := [(0, _)]) ⟨rfl, rfl, by intro p hp; simp only [List.mem_cons, List.not_mem_nil, or_false] at hp; rcases hp with rfl <;> rfl⟩ fun a0 H0 => ?_
  repeat (go_not_at_region 0; go_step)
  refine wp_region_lit ?_
  refine h_op (m' := [(1, _)]) H0 rfl (wn rfl) (R_box H0 rfl rfl bx_item) rfl (.cons rfl .nil) fun a1 H1 => ?_
  clear H0
  refine h_op (m' := [(1, _)]) H1 rfl (wn rfl) (R_as H1 rfl rfl) rfl (.cons rfl .nil) fun a2 H2 => ?_
  clear H1
  refine h_end ?_
  generalize hw : W.alloc (.cells (icells m) 24) = w at *
  repeat (go_not_at_region 1; go_step)
  refine wp_region_held_drew (S := fun w' => Live W [(W.heap.size, icells m, 24)] w') (by kernel_rfl) hL.drew (fun hL' => ?_)
  replace hL := hL'
  clear hL'
  refine dag_cut (fun a' w' => Fr a' 37 [(2, .string (s0 ++ s1 ++ s2 ++ s3 ++ t4 ++ s5 ++ s6 ++ s7))] ∧ Live W [(W.heap.size, icells m, 24)] w') 0 #[true, true, true, true, true, true, true, true, true, true, true, true, true, true, true, true, true, true, true, true, true, true, true, true, true, true, true, true, true, true, true, true, true, true, true] ?_ (fun hS0 => ?_)
  · rintro a0 w0 ⟨H0, hL⟩
    refine wpAnyH_done (by kernel_rfl) ?_ _
    repeat (go_not_at_region 999; go_step)
    exact H0.ret1 rfl rfl ⟨rfl, hL.1⟩
  refine dag_cut (fun a' w' => Fr a' 37 [(31, .string (s0 ++ s1 ++ s2 ++ s3 ++ t4 ++ s5 ++ s6)), (34, .int .u64 (zig m.iN : Nat))] ∧ Live W [(W.heap.size, icells m, 24)] w') 3 #[true, true, true, true, true, true, true, true, true, true, true, true, true, true, true, true, true, true, true, true, true, true, true, true, true, true, true, true, true, true, true, true, false, false, false] ?_ (fun hS1 => ?_)
  · rintro a0 w0 ⟨H0, hL⟩
    refine a_all1 32 (by kernel_rfl) ?_
    refine o_callB (m' := [(35, _), (31, _)]) 32 H0 rfl rfl (wn rfl) (R_call1 H0 rfl rfl (fun w => by simp [go_sem])) rfl hL (q9 _) (.cons rfl (.cons rfl .nil)) fun a1 w1 H1 hL' => ⟨hL', ?_⟩
    replace hL := hL'
    clear H0 hL'
    refine a_op (m' := [(36, _)]) 33 H1 rfl rfl (by kernel_rfl) (by kernel_rfl) (by kernel_rfl) (fun _ _ _ h => h) (wn rfl) (fun w hL => R_bin H1 rfl rfl rfl (B_cat _ _ c7)) hL rfl (.cons rfl .nil) fun a2 H2 => ?_
    clear H1
    refine a_op (m' := [(2, _)]) 34 H2 rfl rfl (by kernel_rfl) (by kernel_rfl) (by kernel_rfl) (fun _ _ _ h => h) (wn rfl) (fun w hL => R_as H2 rfl rfl) hL rfl (.cons rfl .nil) fun a3 H3 => ?_
    clear H2
    exact dag_use hS0 (by kernel_rfl) (by kernel_rfl) ⟨H3.pick _ (.cons rfl .nil), hL⟩
  refine dag_cut (fun a' w' => Fr a' 37 [(31, .string (s0 ++ s1 ++ s2 ++ s3 ++ t4 ++ s5 ++ s6)), (33, .int .i64 m.iN)] ∧ Live W [(W.heap.size, icells m, 24)] w') 4 #[true, true, true, true, true, true, true, true, true, true, true, true, true, true, true, true, true, true, true, true, true, true, true, true, true, true, true, true, true, true, true, false, false, false, false] ?_ (fun hS2 => ?_)
  · rintro a0 w0 ⟨H0, hL⟩
    refine a_all1 31 (by kernel_rfl) ?_
    refine o_callB (m' := [(34, _), (31, _)]) 31 H0 rfl rfl (wn rfl) (R_call1 H0 rfl rfl (fun w => by simp [go_sem])) rfl hL (q7 _) (.cons rfl (.cons rfl .nil)) fun a1 w1 H1 hL' => ⟨hL', ?_⟩
    replace hL := hL'
    clear H0 hL'
    exact dag_use hS1 (by kernel_rfl) (by kernel_rfl) ⟨H1.pick _ (.cons rfl (.cons rfl .nil)), hL⟩
  refine dag_cut (fun a' w' => Fr a' 37 [(26, .string (s0 ++ s1 ++ s2 ++ s3 ++ t4 ++ s5)), (29, .int .u64 (zig m.iat : Nat)), (33, .int .i64 m.iN)] ∧ Live W [(W.heap.size, icells m, 24)] w') 6 #[true, true, true, true, true, true, true, true, true, true, true, true, true, true, true, true, true, true, true, true, true, true, true, true, true, true, true, false, false, true, true, false, false, false, false] ?_ (fun hS3 => ?_)
  · rintro a0 w0 ⟨H0, hL⟩
    refine a_all1 27 (by kernel_rfl) ?_
    refine o_callB (m' := [(30, _), (26, _), (33, _)]) 27 H0 rfl rfl (wn rfl) (R_call1 H0 rfl rfl (fun w => by simp [go_sem])) rfl hL (q8 _) (.cons rfl (.cons rfl (.cons rfl .nil))) fun a1 w1 H1 hL' => ⟨hL', ?_⟩
    replace hL := hL'
    clear H0 hL'
    refine a_op (m' := [(31, _), (33, _)]) 28 H1 rfl rfl (by kernel_rfl) (by kernel_rfl) (by kernel_rfl) (fun _ _ _ h => h) (wn rfl) (fun w hL => R_bin H1 rfl rfl rfl (B_cat _ _ c6)) hL rfl (.cons rfl (.cons rfl .nil)) fun a2 H2 => ?_
    clear H1
    exact dag_use hS2 (by kernel_rfl) (by kernel_rfl) ⟨H2.pick _ (.cons rfl (.cons rfl .nil)), hL⟩
  refine dag_cut (fun a' w' => Fr a' 37 [(26, .string (s0 ++ s1 ++ s2 ++ s3 ++ t4 ++ s5)), (28, .int .i64 m.iat), (33, .int .i64 m.iN)] ∧ Live W [(W.heap.size, icells m, 24)] w') 7 #[true, true, true, true, true, true, true, true, true, true, true, true, true, true, true, true, true, true, true, true, true, true, true, true, true, true, false, false, false, true, true, false, false, false, false] ?_ (fun hS4 => ?_)
  · rintro a0 w0 ⟨H0, hL⟩
    refine a_all1 26 (by kernel_rfl) ?_
    refine o_callB (m' := [(29, _), (26, _), (33, _)]) 26 H0 rfl rfl (wn rfl) (R_call1 H0 rfl rfl (fun w => by simp [go_sem])) rfl hL (q6 _) (.cons rfl (.cons rfl (.cons rfl .nil))) fun a1 w1 H1 hL' => ⟨hL', ?_⟩
    replace hL := hL'
    clear H0 hL'
    exact dag_use hS3 (by kernel_rfl) (by kernel_rfl) ⟨H1.pick _ (.cons rfl (.cons rfl (.cons rfl .nil))), hL⟩
  refine dag_cut (fun a' w' => ∃ g, Fr a' 37 [(13, .string (s0 ++ s1 ++ s2)), (16, .slice (some ⟨g, 0, none⟩) 1 1), (21, .string t4), (25, .string s5), (30, .string s6), (35, .string s7)] ∧ Live W ((g, #[.int .u8 (m.ikind : Nat)], 5) :: [(W.heap.size, icells m, 24)]) w') 7 #[true, true, true, true, true, true, true, true, true, true, true, true, true, true, false, false, true, true, true, false, true, true, true, false, true, true, true, true, false, true, true, true, true, false, false] ?_ (fun hS5 => ?_)
  · rintro a0 w0 ⟨g, H0, hL⟩
    refine a_all1 14 (by kernel_rfl) ?_
    refine o_op (m' := [(17, _), (13, _), (21, _), (25, _), (30, _), (35, _)]) 14 H0 rfl rfl (wn rfl) (R_cv H0 rfl rfl (hcv hL)) rfl (.cons rfl (.cons rfl (.cons rfl (.cons rfl (.cons rfl (.cons rfl .nil)))))) fun a1 H1 => ?_
    clear H0
    refine ⟨hL.tail, ?_⟩
    refine a_op (m' := [(18, _), (21, _), (25, _), (30, _), (35, _)]) 15 H1 rfl rfl (by kernel_rfl) (by kernel_rfl) (by kernel_rfl) (fun _ _ _ h => h) (wn rfl) (fun w hL => R_bin H1 rfl rfl rfl (B_cat _ _ c3)) hL.tail rfl (.cons rfl (.cons rfl (.cons rfl (.cons rfl (.cons rfl .nil))))) fun a2 H2 => ?_
    clear H1
    refine a_op (m' := [(22, _), (25, _), (30, _), (35, _)]) 19 H2 rfl rfl (by kernel_rfl) (by kernel_rfl) (by kernel_rfl) (fun _ _ _ h => h) (wn rfl) (fun w hL => R_bin H2 rfl rfl rfl (B_cat _ _ c4)) hL.tail rfl (.cons rfl (.cons rfl (.cons rfl (.cons rfl .nil)))) fun a3 H3 => ?_
    clear H2
    refine a_op (m' := [(26, _), (30, _), (35, _)]) 23 H3 rfl rfl (by kernel_rfl) (by kernel_rfl) (by kernel_rfl) (fun _ _ _ h => h) (wn rfl) (fun w hL => R_bin H3 rfl rfl rfl (B_cat _ _ c5)) hL.tail rfl (.cons rfl (.cons rfl (.cons rfl .nil))) fun a4 H4 => ?_
    clear H3
    refine a_op (m' := [(31, _), (35, _)]) 28 H4 rfl rfl (by kernel_rfl) (by kernel_rfl) (by kernel_rfl) (fun _ _ _ h => h) (wn rfl) (fun w hL => R_bin H4 rfl rfl rfl (B_cat _ _ c6)) hL.tail rfl (.cons rfl (.cons rfl .nil)) fun a5 H5 => ?_
    clear H4
    refine a_op (m' := [(36, _)]) 33 H5 rfl rfl (by kernel_rfl) (by kernel_rfl) (by kernel_rfl) (fun _ _ _ h => h) (wn rfl) (fun w hL => R_bin H5 rfl rfl rfl (B_cat _ _ c7)) hL.tail rfl (.cons rfl .nil) fun a6 H6 => ?_
    clear H5
    refine a_op (m' := [(2, _)]) 34 H6 rfl rfl (by kernel_rfl) (by kernel_rfl) (by kernel_rfl) (fun _ _ _ h => h) (wn rfl) (fun w hL => R_as H6 rfl rfl) hL.tail rfl (.cons rfl .nil) fun a7 H7 => ?_
    clear H6
    exact dag_use hS0 (by kernel_rfl) (by kernel_rfl) ⟨H7.pick _ (.cons rfl .nil), hL.tail⟩
  refine dag_cut (fun a' w' => ∃ g, Fr a' 37 [(13, .string (s0 ++ s1 ++ s2)), (16, .slice (some ⟨g, 0, none⟩) 1 1), (21, .string t4), (25, .string s5), (30, .string s6), (34, .int .u64 (zig m.iN : Nat))] ∧ Live W ((g, #[.int .u8 (m.ikind : Nat)], 5) :: [(W.heap.size, icells m, 24)]) w') 8 #[true, true, true, true, true, true, true, true, true, true, true, true, true, true, false, false, true, true, true, false, true, true, true, false, true, true, true, true, false, true, true, true, false, false, false] ?_ (fun hS6 => ?_)
  · rintro a0 w0 ⟨g, H0, hL⟩
    refine a_all2 14 32 (by kernel_rfl) ?_ ?_
    · refine o_op (m' := [(17, _), (13, _), (21, _), (25, _), (30, _), (34, _)]) 14 H0 rfl rfl (wn rfl) (R_cv H0 rfl rfl (hcv hL)) rfl (.cons rfl (.cons rfl (.cons rfl (.cons rfl (.cons rfl (.cons rfl .nil)))))) fun a1 H1 => ?_
      clear H0
      refine ⟨hL.tail, ?_⟩
      refine a_op (m' := [(18, _), (21, _), (25, _), (30, _), (34, _)]) 15 H1 rfl rfl (by kernel_rfl) (by kernel_rfl) (by kernel_rfl) (fun _ _ _ h => h) (wn rfl) (fun w hL => R_bin H1 rfl rfl rfl (B_cat _ _ c3)) hL.tail rfl (.cons rfl (.cons rfl (.cons rfl (.cons rfl (.cons rfl .nil))))) fun a2 H2 => ?_
      clear H1
      refine a_op (m' := [(22, _), (25, _), (30, _), (34, _)]) 19 H2 rfl rfl (by kernel_rfl) (by kernel_rfl) (by kernel_rfl) (fun _ _ _ h => h) (wn rfl) (fun w hL => R_bin H2 rfl rfl rfl (B_cat _ _ c4)) hL.tail rfl (.cons rfl (.cons rfl (.cons rfl (.cons rfl .nil)))) fun a3 H3 => ?_
      clear H2
      refine a_op (m' := [(26, _), (30, _), (34, _)]) 23 H3 rfl rfl (by kernel_rfl) (by kernel_rfl) (by kernel_rfl) (fun _ _ _ h => h) (wn rfl) (fun w hL => R_bin H3 rfl rfl rfl (B_cat _ _ c5)) hL.tail rfl (.cons rfl (.cons rfl (.cons rfl .nil))) fun a4 H4 => ?_
      clear H3
      refine a_op (m' := [(31, _), (34, _)]) 28 H4 rfl rfl (by kernel_rfl) (by kernel_rfl) (by kernel_rfl) (fun _ _ _ h => h) (wn rfl) (fun w hL => R_bin H4 rfl rfl rfl (B_cat _ _ c6)) hL.tail rfl (.cons rfl (.cons rfl .nil)) fun a5 H5 => ?_
      clear H4
      exact dag_use hS1 (by kernel_rfl) (by kernel_rfl) ⟨H5.pick _ (.cons rfl (.cons rfl .nil)), hL.tail⟩
    · refine o_callB (m' := [(35, _), (13, _), (16, _), (21, _), (25, _), (30, _)]) 32 H0 rfl rfl (wn rfl) (R_call1 H0 rfl rfl (fun w => by simp [go_sem])) rfl hL (q9 _) (.cons rfl (.cons rfl (.cons rfl (.cons rfl (.cons rfl (.cons rfl .nil)))))) fun a1 w1 H1 hL' => ⟨hL'.tail, ?_⟩
      replace hL := hL'
      clear H0 hL'
      exact dag_use hS5 (by kernel_rfl) (by kernel_rfl) ⟨_, H1.pick _ (.cons rfl (.cons rfl (.cons rfl (.cons rfl (.cons rfl (.cons rfl .nil)))))), hL⟩
  refine dag_cut (fun a' w' => Fr a' 37 [(13, .string (s0 ++ s1 ++ s2)), (15, .int .u8 (m.ikind : Nat)), (21, .string t4), (25, .string s5), (30, .string s6), (35, .string s7)] ∧ Live W [(W.heap.size, icells m, 24)] w') 8 #[true, true, true, true, true, true, true, true, true, true, true, true, true, false, false, false, true, true, true, false, true, true, true, false, true, true, true, true, false, true, true, true, true, false, false] ?_ (fun hS7 => ?_)
  · rintro a0 w0 ⟨H0, hL⟩
    refine a_all1 13 (by kernel_rfl) ?_
    refine o_op (m' := [(16, _), (13, _), (21, _), (25, _), (30, _), (35, _)]) 13 H0 rfl rfl (wn rfl) (R_bs1 H0 rfl rfl (bs_u8 _)) rfl (.cons rfl (.cons rfl (.cons rfl (.cons rfl (.cons rfl (.cons rfl .nil)))))) fun a1 H1 => ?_
    clear H0
    replace hL := hL.alloc #[.int .u8 (m.ikind : Nat)] 5
    refine ⟨hL.tail, ?_⟩
    exact dag_use hS5 (by kernel_rfl) (by kernel_rfl) ⟨_, H1.pick _ (.cons rfl (.cons rfl (.cons rfl (.cons rfl (.cons rfl (.cons rfl .nil)))))), hL⟩
  refine dag_cut (fun a' w' => Fr a' 37 [(22, .string (s0 ++ s1 ++ s2 ++ s3 ++ t4)), (24, .int .i64 m.ipart), (28, .int .i64 m.iat), (33, .int .i64 m.iN)] ∧ Live W [(W.heap.size, icells m, 24)] w') 9 #[true, true, true, true, true, true, true, true, true, true, true, true, true, true, true, true, true, true, true, true, true, true, false, false, true, true, false, false, false, true, true, false, false, false, false] ?_ (fun hS8 => ?_)
  · rintro a0 w0 ⟨H0, hL⟩
    refine a_all1 22 (by kernel_rfl) ?_
    refine o_callB (m' := [(25, _), (22, _), (28, _), (33, _)]) 22 H0 rfl rfl (wn rfl) (R_call1 H0 rfl rfl (fun w => by simp [go_sem])) rfl hL (q5 _) (.cons rfl (.cons rfl (.cons rfl (.cons rfl .nil)))) fun a1 w1 H1 hL' => ⟨hL', ?_⟩
    replace hL := hL'
    clear H0 hL'
    refine a_op (m' := [(26, _), (28, _), (33, _)]) 23 H1 rfl rfl (by kernel_rfl) (by kernel_rfl) (by kernel_rfl) (fun _ _ _ h => h) (wn rfl) (fun w hL => R_bin H1 rfl rfl rfl (B_cat _ _ c5)) hL rfl (.cons rfl (.cons rfl (.cons rfl .nil))) fun a2 H2 => ?_
    clear H1
    exact dag_use hS4 (by kernel_rfl) (by kernel_rfl) ⟨H2.pick _ (.cons rfl (.cons rfl (.cons rfl .nil))), hL⟩
  refine dag_cut (fun a' w' => ∃ g, Fr a' 37 [(13, .string (s0 ++ s1 ++ s2)), (16, .slice (some ⟨g, 0, none⟩) 1 1), (21, .string t4), (25, .string s5), (30, .string s6), (33, .int .i64 m.iN)] ∧ Live W ((g, #[.int .u8 (m.ikind : Nat)], 5) :: [(W.heap.size, icells m, 24)]) w') 9 #[true, true, true, true, true, true, true, true, true, true, true, true, true, true, false, false, true, true, true, false, true, true, true, false, true, true, true, true, false, true, true, false, false, false, false] ?_ (fun hS9 => ?_)
  · rintro a0 w0 ⟨g, H0, hL⟩
    refine a_all2 14 31 (by kernel_rfl) ?_ ?_
    · refine o_op (m' := [(17, _), (13, _), (21, _), (25, _), (30, _), (33, _)]) 14 H0 rfl rfl (wn rfl) (R_cv H0 rfl rfl (hcv hL)) rfl (.cons rfl (.cons rfl (.cons rfl (.cons rfl (.cons rfl (.cons rfl .nil)))))) fun a1 H1 => ?_
      clear H0
      refine ⟨hL.tail, ?_⟩
      refine a_op (m' := [(18, _), (21, _), (25, _), (30, _), (33, _)]) 15 H1 rfl rfl (by kernel_rfl) (by kernel_rfl) (by kernel_rfl) (fun _ _ _ h => h) (wn rfl) (fun w hL => R_bin H1 rfl rfl rfl (B_cat _ _ c3)) hL.tail rfl (.cons rfl (.cons rfl (.cons rfl (.cons rfl (.cons rfl .nil))))) fun a2 H2 => ?_
      clear H1
      refine a_op (m' := [(22, _), (25, _), (30, _), (33, _)]) 19 H2 rfl rfl (by kernel_rfl) (by kernel_rfl) (by kernel_rfl) (fun _ _ _ h => h) (wn rfl) (fun w hL => R_bin H2 rfl rfl rfl (B_cat _ _ c4)) hL.tail rfl (.cons rfl (.cons rfl (.cons rfl (.cons rfl .nil)))) fun a3 H3 => ?_
      clear H2
      refine a_op (m' := [(26, _), (30, _), (33, _)]) 23 H3 rfl rfl (by kernel_rfl) (by kernel_rfl) (by kernel_rfl) (fun _ _ _ h => h) (wn rfl) (fun w hL => R_bin H3 rfl rfl rfl (B_cat _ _ c5)) hL.tail rfl (.cons rfl (.cons rfl (.cons rfl .nil))) fun a4 H4 => ?_
      clear H3
      refine a_op (m' := [(31, _), (33, _)]) 28 H4 rfl rfl (by kernel_rfl) (by kernel_rfl) (by kernel_rfl) (fun _ _ _ h => h) (wn rfl) (fun w hL => R_bin H4 rfl rfl rfl (B_cat _ _ c6)) hL.tail rfl (.cons rfl (.cons rfl .nil)) fun a5 H5 => ?_
      clear H4
      exact dag_use hS2 (by kernel_rfl) (by kernel_rfl) ⟨H5.pick _ (.cons rfl (.cons rfl .nil)), hL.tail⟩
    · refine o_callB (m' := [(34, _), (13, _), (16, _), (21, _), (25, _), (30, _)]) 31 H0 rfl rfl (wn rfl) (R_call1 H0 rfl rfl (fun w => by simp [go_sem])) rfl hL (q7 _) (.cons rfl (.cons rfl (.cons rfl (.cons rfl (.cons rfl (.cons rfl .nil)))))) fun a1 w1 H1 hL' => ⟨hL'.tail, ?_⟩
      replace hL := hL'
      clear H0 hL'
      exact dag_use hS6 (by kernel_rfl) (by kernel_rfl) ⟨_, H1.pick _ (.cons rfl (.cons rfl (.cons rfl (.cons rfl (.cons rfl (.cons rfl .nil)))))), hL⟩
  refine dag_cut (fun a' w' => Fr a' 37 [(13, .string (s0 ++ s1 ++ s2)), (15, .int .u8 (m.ikind : Nat)), (21, .string t4), (25, .string s5), (30, .string s6), (34, .int .u64 (zig m.iN : Nat))] ∧ Live W [(W.heap.size, icells m, 24)] w') 9 #[true, true, true, true, true, true, true, true, true, true, true, true, true, false, false, false, true, true, true, false, true, true, true, false, true, true, true, true, false, true, true, true, false, false, false] ?_ (fun hS10 => ?_)
  · rintro a0 w0 ⟨H0, hL⟩
    refine a_all2 13 32 (by kernel_rfl) ?_ ?_
    · refine o_op (m' := [(16, _), (13, _), (21, _), (25, _), (30, _), (34, _)]) 13 H0 rfl rfl (wn rfl) (R_bs1 H0 rfl rfl (bs_u8 _)) rfl (.cons rfl (.cons rfl (.cons rfl (.cons rfl (.cons rfl (.cons rfl .nil)))))) fun a1 H1 => ?_
      clear H0
      replace hL := hL.alloc #[.int .u8 (m.ikind : Nat)] 5
      refine ⟨hL.tail, ?_⟩
      exact dag_use hS6 (by kernel_rfl) (by kernel_rfl) ⟨_, H1.pick _ (.cons rfl (.cons rfl (.cons rfl (.cons rfl (.cons rfl (.cons rfl .nil)))))), hL⟩
    · refine o_callB (m' := [(35, _), (13, _), (15, _), (21, _), (25, _), (30, _)]) 32 H0 rfl rfl (wn rfl) (R_call1 H0 rfl rfl (fun w => by simp [go_sem])) rfl hL (q9 _) (.cons rfl (.cons rfl (.cons rfl (.cons rfl (.cons rfl (.cons rfl .nil)))))) fun a1 w1 H1 hL' => ⟨hL', ?_⟩
      replace hL := hL'
      clear H0 hL'
      exact dag_use hS7 (by kernel_rfl) (by kernel_rfl) ⟨H1.pick _ (.cons rfl (.cons rfl (.cons rfl (.cons rfl (.cons rfl (.cons rfl .nil)))))), hL⟩
  refine dag_cut (fun a' w' => ∃ g, Fr a' 37 [(13, .string (s0 ++ s1 ++ s2)), (16, .slice (some ⟨g, 0, none⟩) 1 1), (21, .string t4), (25, .string s5), (29, .int .u64 (zig m.iat : Nat)), (33, .int .i64 m.iN)] ∧ Live W ((g, #[.int .u8 (m.ikind : Nat)], 5) :: [(W.heap.size, icells m, 24)]) w') 10 #[true, true, true, true, true, true, true, true, true, true, true, true, true, true, false, false, true, true, true, false, true, true, true, false, true, true, true, false, false, true, true, false, false, false, false] ?_ (fun hS11 => ?_)
  · rintro a0 w0 ⟨g, H0, hL⟩
    refine a_all2 14 27 (by kernel_rfl) ?_ ?_
    · refine o_op (m' := [(17, _), (13, _), (21, _), (25, _), (29, _), (33, _)]) 14 H0 rfl rfl (wn rfl) (R_cv H0 rfl rfl (hcv hL)) rfl (.cons rfl (.cons rfl (.cons rfl (.cons rfl (.cons rfl (.cons rfl .nil)))))) fun a1 H1 => ?_
      clear H0
      refine ⟨hL.tail, ?_⟩
      refine a_op (m' := [(18, _), (21, _), (25, _), (29, _), (33, _)]) 15 H1 rfl rfl (by kernel_rfl) (by kernel_rfl) (by kernel_rfl) (fun _ _ _ h => h) (wn rfl) (fun w hL => R_bin H1 rfl rfl rfl (B_cat _ _ c3)) hL.tail rfl (.cons rfl (.cons rfl (.cons rfl (.cons rfl (.cons rfl .nil))))) fun a2 H2 => ?_
      clear H1
      refine a_op (m' := [(22, _), (25, _), (29, _), (33, _)]) 19 H2 rfl rfl (by kernel_rfl) (by kernel_rfl) (by kernel_rfl) (fun _ _ _ h => h) (wn rfl) (fun w hL => R_bin H2 rfl rfl rfl (B_cat _ _ c4)) hL.tail rfl (.cons rfl (.cons rfl (.cons rfl (.cons rfl .nil)))) fun a3 H3 => ?_
      clear H2
      refine a_op (m' := [(26, _), (29, _), (33, _)]) 23 H3 rfl rfl (by kernel_rfl) (by kernel_rfl) (by kernel_rfl) (fun _ _ _ h => h) (wn rfl) (fun w hL => R_bin H3 rfl rfl rfl (B_cat _ _ c5)) hL.tail rfl (.cons rfl (.cons rfl (.cons rfl .nil))) fun a4 H4 => ?_
      clear H3
      exact dag_use hS3 (by kernel_rfl) (by kernel_rfl) ⟨H4.pick _ (.cons rfl (.cons rfl (.cons rfl .nil))), hL.tail⟩
    · refine o_callB (m' := [(30, _), (13, _), (16, _), (21, _), (25, _), (33, _)]) 27 H0 rfl rfl (wn rfl) (R_call1 H0 rfl rfl (fun w => by simp [go_sem])) rfl hL (q8 _) (.cons rfl (.cons rfl (.cons rfl (.cons rfl (.cons rfl (.cons rfl .nil)))))) fun a1 w1 H1 hL' => ⟨hL'.tail, ?_⟩
      replace hL := hL'
      clear H0 hL'
      exact dag_use hS9 (by kernel_rfl) (by kernel_rfl) ⟨_, H1.pick _ (.cons rfl (.cons rfl (.cons rfl (.cons rfl (.cons rfl (.cons rfl .nil)))))), hL⟩
  refine dag_cut (fun a' w' => Fr a' 37 [(13, .string (s0 ++ s1 ++ s2)), (15, .int .u8 (m.ikind : Nat)), (21, .string t4), (25, .string s5), (30, .string s6), (33, .int .i64 m.iN)] ∧ Live W [(W.heap.size, icells m, 24)] w') 10 #[true, true, true, true, true, true, true, true, true, true, true, true, true, false, false, false, true, true, true, false, true, true, true, false, true, true, true, true, false, true, true, false, false, false, false] ?_ (fun hS12 => ?_)
  · rintro a0 w0 ⟨H0, hL⟩
    refine a_all2 13 31 (by kernel_rfl) ?_ ?_
    · refine o_op (m' := [(16, _), (13, _), (21, _), (25, _), (30, _), (33, _)]) 13 H0 rfl rfl (wn rfl) (R_bs1 H0 rfl rfl (bs_u8 _)) rfl (.cons rfl (.cons rfl (.cons rfl (.cons rfl (.cons rfl (.cons rfl .nil)))))) fun a1 H1 => ?_
      clear H0
      replace hL := hL.alloc #[.int .u8 (m.ikind : Nat)] 5
      refine ⟨hL.tail, ?_⟩
      exact dag_use hS9 (by kernel_rfl) (by kernel_rfl) ⟨_, H1.pick _ (.cons rfl (.cons rfl (.cons rfl (.cons rfl (.cons rfl (.cons rfl .nil)))))), hL⟩
    · refine o_callB (m' := [(34, _), (13, _), (15, _), (21, _), (25, _), (30, _)]) 31 H0 rfl rfl (wn rfl) (R_call1 H0 rfl rfl (fun w => by simp [go_sem])) rfl hL (q7 _) (.cons rfl (.cons rfl (.cons rfl (.cons rfl (.cons rfl (.cons rfl .nil)))))) fun a1 w1 H1 hL' => ⟨hL', ?_⟩
      replace hL := hL'
      clear H0 hL'
      exact dag_use hS10 (by kernel_rfl) (by kernel_rfl) ⟨H1.pick _ (.cons rfl (.cons rfl (.cons rfl (.cons rfl (.cons rfl (.cons rfl .nil)))))), hL⟩
  refine dag_cut (fun a' w' => Fr a' 37 [(18, .string (s0 ++ s1 ++ s2 ++ s3)), (20, .string m.ikey), (24, .int .i64 m.ipart), (28, .int .i64 m.iat), (33, .int .i64 m.iN)] ∧ Live W [(W.heap.size, icells m, 24)] w') 11 #[true, true, true, true, true, true, true, true, true, true, true, true, true, true, true, true, true, true, false, false, true, true, false, false, true, true, false, false, false, true, true, false, false, false, false] ?_ (fun hS13 => ?_)
  · rintro a0 w0 ⟨H0, hL⟩
    refine a_all1 18 (by kernel_rfl) ?_
    refine o_callB (m' := [(21, _), (18, _), (24, _), (28, _), (33, _)]) 18 H0 rfl rfl (wn rfl) (R_call1 H0 rfl rfl (fun w => by simp [go_sem])) rfl hL (q4 _) (.cons rfl (.cons rfl (.cons rfl (.cons rfl (.cons rfl .nil))))) fun a1 w1 H1 hL' => ⟨hL', ?_⟩
    replace hL := hL'
    clear H0 hL'
    refine a_op (m' := [(22, _), (24, _), (28, _), (33, _)]) 19 H1 rfl rfl (by kernel_rfl) (by kernel_rfl) (by kernel_rfl) (fun _ _ _ h => h) (wn rfl) (fun w hL => R_bin H1 rfl rfl rfl (B_cat _ _ c4)) hL rfl (.cons rfl (.cons rfl (.cons rfl (.cons rfl .nil)))) fun a2 H2 => ?_
    clear H1
    exact dag_use hS8 (by kernel_rfl) (by kernel_rfl) ⟨H2.pick _ (.cons rfl (.cons rfl (.cons rfl (.cons rfl .nil)))), hL⟩
  refine dag_cut (fun a' w' => ∃ g, Fr a' 37 [(13, .string (s0 ++ s1 ++ s2)), (16, .slice (some ⟨g, 0, none⟩) 1 1), (21, .string t4), (25, .string s5), (28, .int .i64 m.iat), (33, .int .i64 m.iN)] ∧ Live W ((g, #[.int .u8 (m.ikind : Nat)], 5) :: [(W.heap.size, icells m, 24)]) w') 11 #[true, true, true, true, true, true, true, true, true, true, true, true, true, true, false, false, true, true, true, false, true, true, true, false, true, true, false, false, false, true, true, false, false, false, false] ?_ (fun hS14 => ?_)
  · rintro a0 w0 ⟨g, H0, hL⟩
    refine a_all2 14 26 (by kernel_rfl) ?_ ?_
    · refine o_op (m' := [(17, _), (13, _), (21, _), (25, _), (28, _), (33, _)]) 14 H0 rfl rfl (wn rfl) (R_cv H0 rfl rfl (hcv hL)) rfl (.cons rfl (.cons rfl (.cons rfl (.cons rfl (.cons rfl (.cons rfl .nil)))))) fun a1 H1 => ?_
      clear H0
      refine ⟨hL.tail, ?_⟩
      refine a_op (m' := [(18, _), (21, _), (25, _), (28, _), (33, _)]) 15 H1 rfl rfl (by kernel_rfl) (by kernel_rfl) (by kernel_rfl) (fun _ _ _ h => h) (wn rfl) (fun w hL => R_bin H1 rfl rfl rfl (B_cat _ _ c3)) hL.tail rfl (.cons rfl (.cons rfl (.cons rfl (.cons rfl (.cons rfl .nil))))) fun a2 H2 => ?_
      clear H1
      refine a_op (m' := [(22, _), (25, _), (28, _), (33, _)]) 19 H2 rfl rfl (by kernel_rfl) (by kernel_rfl) (by kernel_rfl) (fun _ _ _ h => h) (wn rfl) (fun w hL => R_bin H2 rfl rfl rfl (B_cat _ _ c4)) hL.tail rfl (.cons rfl (.cons rfl (.cons rfl (.cons rfl .nil)))) fun a3 H3 => ?_
      clear H2
      refine a_op (m' := [(26, _), (28, _), (33, _)]) 23 H3 rfl rfl (by kernel_rfl) (by kernel_rfl) (by kernel_rfl) (fun _ _ _ h => h) (wn rfl) (fun w hL => R_bin H3 rfl rfl rfl (B_cat _ _ c5)) hL.tail rfl (.cons rfl (.cons rfl (.cons rfl .nil))) fun a4 H4 => ?_
      clear H3
      exact dag_use hS4 (by kernel_rfl) (by kernel_rfl) ⟨H4.pick _ (.cons rfl (.cons rfl (.cons rfl .nil))), hL.tail⟩
    · refine o_callB (m' := [(29, _), (13, _), (16, _), (21, _), (25, _), (33, _)]) 26 H0 rfl rfl (wn rfl) (R_call1 H0 rfl rfl (fun w => by simp [go_sem])) rfl hL (q6 _) (.cons rfl (.cons rfl (.cons rfl (.cons rfl (.cons rfl (.cons rfl .nil)))))) fun a1 w1 H1 hL' => ⟨hL'.tail, ?_⟩
      replace hL := hL'
      clear H0 hL'
      exact dag_use hS11 (by kernel_rfl) (by kernel_rfl) ⟨_, H1.pick _ (.cons rfl (.cons rfl (.cons rfl (.cons rfl (.cons rfl (.cons rfl .nil)))))), hL⟩
  refine dag_cut (fun a' w' => Fr a' 37 [(13, .string (s0 ++ s1 ++ s2)), (15, .int .u8 (m.ikind : Nat)), (21, .string t4), (25, .string s5), (29, .int .u64 (zig m.iat : Nat)), (33, .int .i64 m.iN)] ∧ Live W [(W.heap.size, icells m, 24)] w') 11 #[true, true, true, true, true, true, true, true, true, true, true, true, true, false, false, false, true, true, true, false, true, true, true, false, true, true, true, false, false, true, true, false, false, false, false] ?_ (fun hS15 => ?_)
  · rintro a0 w0 ⟨H0, hL⟩
    refine a_all2 13 27 (by kernel_rfl) ?_ ?_
    · refine o_op (m' := [(16, _), (13, _), (21, _), (25, _), (29, _), (33, _)]) 13 H0 rfl rfl (wn rfl) (R_bs1 H0 rfl rfl (bs_u8 _)) rfl (.cons rfl (.cons rfl (.cons rfl (.cons rfl (.cons rfl (.cons rfl .nil)))))) fun a1 H1 => ?_
      clear H0
      replace hL := hL.alloc #[.int .u8 (m.ikind : Nat)] 5
      refine ⟨hL.tail, ?_⟩
      exact dag_use hS11 (by kernel_rfl) (by kernel_rfl) ⟨_, H1.pick _ (.cons rfl (.cons rfl (.cons rfl (.cons rfl (.cons rfl (.cons rfl .nil)))))), hL⟩
    · refine o_callB (m' := [(30, _), (13, _), (15, _), (21, _), (25, _), (33, _)]) 27 H0 rfl rfl (wn rfl) (R_call1 H0 rfl rfl (fun w => by simp [go_sem])) rfl hL (q8 _) (.cons rfl (.cons rfl (.cons rfl (.cons rfl (.cons rfl (.cons rfl .nil)))))) fun a1 w1 H1 hL' => ⟨hL', ?_⟩
      replace hL := hL'
      clear H0 hL'
      exact dag_use hS12 (by kernel_rfl) (by kernel_rfl) ⟨H1.pick _ (.cons rfl (.cons rfl (.cons rfl (.cons rfl (.cons rfl (.cons rfl .nil)))))), hL⟩
  refine dag_cut (fun a' w' => ∃ g, Fr a' 37 [(13, .string (s0 ++ s1 ++ s2)), (16, .slice (some ⟨g, 0, none⟩) 1 1), (21, .string t4), (24, .int .i64 m.ipart), (28, .int .i64 m.iat), (33, .int .i64 m.iN)] ∧ Live W ((g, #[.int .u8 (m.ikind : Nat)], 5) :: [(W.heap.size, icells m, 24)]) w') 12 #[true, true, true, true, true, true, true, true, true, true, true, true, true, true, false, false, true, true, true, false, true, true, false, false, true, true, false, false, false, true, true, false, false, false, false] ?_ (fun hS16 => ?_)
  · rintro a0 w0 ⟨g, H0, hL⟩
    refine a_all2 14 22 (by kernel_rfl) ?_ ?_
    · refine o_op (m' := [(17, _), (13, _), (21, _), (24, _), (28, _), (33, _)]) 14 H0 rfl rfl (wn rfl) (R_cv H0 rfl rfl (hcv hL)) rfl (.cons rfl (.cons rfl (.cons rfl (.cons rfl (.cons rfl (.cons rfl .nil)))))) fun a1 H1 => ?_
      clear H0
      refine ⟨hL.tail, ?_⟩
      refine a_op (m' := [(18, _), (21, _), (24, _), (28, _), (33, _)]) 15 H1 rfl rfl (by kernel_rfl) (by kernel_rfl) (by kernel_rfl) (fun _ _ _ h => h) (wn rfl) (fun w hL => R_bin H1 rfl rfl rfl (B_cat _ _ c3)) hL.tail rfl (.cons rfl (.cons rfl (.cons rfl (.cons rfl (.cons rfl .nil))))) fun a2 H2 => ?_
      clear H1
      refine a_op (m' := [(22, _), (24, _), (28, _), (33, _)]) 19 H2 rfl rfl (by kernel_rfl) (by kernel_rfl) (by kernel_rfl) (fun _ _ _ h => h) (wn rfl) (fun w hL => R_bin H2 rfl rfl rfl (B_cat _ _ c4)) hL.tail rfl (.cons rfl (.cons rfl (.cons rfl (.cons rfl .nil)))) fun a3 H3 => ?_
      clear H2
      exact dag_use hS8 (by kernel_rfl) (by kernel_rfl) ⟨H3.pick _ (.cons rfl (.cons rfl (.cons rfl (.cons rfl .nil)))), hL.tail⟩
    · refine o_callB (m' := [(25, _), (13, _), (16, _), (21, _), (28, _), (33, _)]) 22 H0 rfl rfl (wn rfl) (R_call1 H0 rfl rfl (fun w => by simp [go_sem])) rfl hL (q5 _) (.cons rfl (.cons rfl (.cons rfl (.cons rfl (.cons rfl (.cons rfl .nil)))))) fun a1 w1 H1 hL' => ⟨hL'.tail, ?_⟩
      replace hL := hL'
      clear H0 hL'
      exact dag_use hS14 (by kernel_rfl) (by kernel_rfl) ⟨_, H1.pick _ (.cons rfl (.cons rfl (.cons rfl (.cons rfl (.cons rfl (.cons rfl .nil)))))), hL⟩
  refine dag_cut (fun a' w' => Fr a' 37 [(13, .string (s0 ++ s1 ++ s2)), (15, .int .u8 (m.ikind : Nat)), (21, .string t4), (25, .string s5), (28, .int .i64 m.iat), (33, .int .i64 m.iN)] ∧ Live W [(W.heap.size, icells m, 24)] w') 12 #[true, true, true, true, true, true, true, true, true, true, true, true, true, false, false, false, true, true, true, false, true, true, true, false, true, true, false, false, false, true, true, false, false, false, false] ?_ (fun hS17 => ?_)
  · rintro a0 w0 ⟨H0, hL⟩
    refine a_all2 13 26 (by kernel_rfl) ?_ ?_
    · refine o_op (m' := [(16, _), (13, _), (21, _), (25, _), (28, _), (33, _)]) 13 H0 rfl rfl (wn rfl) (R_bs1 H0 rfl rfl (bs_u8 _)) rfl (.cons rfl (.cons rfl (.cons rfl (.cons rfl (.cons rfl (.cons rfl .nil)))))) fun a1 H1 => ?_
      clear H0
      replace hL := hL.alloc #[.int .u8 (m.ikind : Nat)] 5
      refine ⟨hL.tail, ?_⟩
      exact dag_use hS14 (by kernel_rfl) (by kernel_rfl) ⟨_, H1.pick _ (.cons rfl (.cons rfl (.cons rfl (.cons rfl (.cons rfl (.cons rfl .nil)))))), hL⟩
    · refine o_callB (m' := [(29, _), (13, _), (15, _), (21, _), (25, _), (33, _)]) 26 H0 rfl rfl (wn rfl) (R_call1 H0 rfl rfl (fun w => by simp [go_sem])) rfl hL (q6 _) (.cons rfl (.cons rfl (.cons rfl (.cons rfl (.cons rfl (.cons rfl .nil)))))) fun a1 w1 H1 hL' => ⟨hL', ?_⟩
      replace hL := hL'
      clear H0 hL'
      exact dag_use hS15 (by kernel_rfl) (by kernel_rfl) ⟨H1.pick _ (.cons rfl (.cons rfl (.cons rfl (.cons rfl (.cons rfl (.cons rfl .nil)))))), hL⟩
  refine dag_cut (fun a' w' => ∃ g, Fr a' 37 [(13, .string (s0 ++ s1 ++ s2)), (16, .slice (some ⟨g, 0, none⟩) 1 1), (20, .string m.ikey), (24, .int .i64 m.ipart), (28, .int .i64 m.iat), (33, .int .i64 m.iN)] ∧ Live W ((g, #[.int .u8 (m.ikind : Nat)], 5) :: [(W.heap.size, icells m, 24)]) w') 13 #[true, true, true, true, true, true, true, true, true, true, true, true, true, true, false, false, true, true, false, false, true, true, false, false, true, true, false, false, false, true, true, false, false, false, false] ?_ (fun hS18 => ?_)
  · rintro a0 w0 ⟨g, H0, hL⟩
    refine a_all2 14 18 (by kernel_rfl) ?_ ?_
    · refine o_op (m' := [(17, _), (13, _), (20, _), (24, _), (28, _), (33, _)]) 14 H0 rfl rfl (wn rfl) (R_cv H0 rfl rfl (hcv hL)) rfl (.cons rfl (.cons rfl (.cons rfl (.cons rfl (.cons rfl (.cons rfl .nil)))))) fun a1 H1 => ?_
      clear H0
      refine ⟨hL.tail, ?_⟩
      refine a_op (m' := [(18, _), (20, _), (24, _), (28, _), (33, _)]) 15 H1 rfl rfl (by kernel_rfl) (by kernel_rfl) (by kernel_rfl) (fun _ _ _ h => h) (wn rfl) (fun w hL => R_bin H1 rfl rfl rfl (B_cat _ _ c3)) hL.tail rfl (.cons rfl (.cons rfl (.cons rfl (.cons rfl (.cons rfl .nil))))) fun a2 H2 => ?_
      clear H1
      exact dag_use hS13 (by kernel_rfl) (by kernel_rfl) ⟨H2.pick _ (.cons rfl (.cons rfl (.cons rfl (.cons rfl (.cons rfl .nil))))), hL.tail⟩
    · refine o_callB (m' := [(21, _), (13, _), (16, _), (24, _), (28, _), (33, _)]) 18 H0 rfl rfl (wn rfl) (R_call1 H0 rfl rfl (fun w => by simp [go_sem])) rfl hL (q4 _) (.cons rfl (.cons rfl (.cons rfl (.cons rfl (.cons rfl (.cons rfl .nil)))))) fun a1 w1 H1 hL' => ⟨hL'.tail, ?_⟩
      replace hL := hL'
      clear H0 hL'
      exact dag_use hS16 (by kernel_rfl) (by kernel_rfl) ⟨_, H1.pick _ (.cons rfl (.cons rfl (.cons rfl (.cons rfl (.cons rfl (.cons rfl .nil)))))), hL⟩
  refine dag_cut (fun a' w' => Fr a' 37 [(13, .string (s0 ++ s1 ++ s2)), (15, .int .u8 (m.ikind : Nat)), (21, .string t4), (24, .int .i64 m.ipart), (28, .int .i64 m.iat), (33, .int .i64 m.iN)] ∧ Live W [(W.heap.size, icells m, 24)] w') 13 #[true, true, true, true, true, true, true, true, true, true, true, true, true, false, false, false, true, true, true, false, true, true, false, false, true, true, false, false, false, true, true, false, false, false, false] ?_ (fun hS19 => ?_)
  · rintro a0 w0 ⟨H0, hL⟩
    refine a_all2 13 22 (by kernel_rfl) ?_ ?_
    · refine o_op (m' := [(16, _), (13, _), (21, _), (24, _), (28, _), (33, _)]) 13 H0 rfl rfl (wn rfl) (R_bs1 H0 rfl rfl (bs_u8 _)) rfl (.cons rfl (.cons rfl (.cons rfl (.cons rfl (.cons rfl (.cons rfl .nil)))))) fun a1 H1 => ?_
      clear H0
      replace hL := hL.alloc #[.int .u8 (m.ikind : Nat)] 5
      refine ⟨hL.tail, ?_⟩
      exact dag_use hS16 (by kernel_rfl) (by kernel_rfl) ⟨_, H1.pick _ (.cons rfl (.cons rfl (.cons rfl (.cons rfl (.cons rfl (.cons rfl .nil)))))), hL⟩
    · refine o_callB (m' := [(25, _), (13, _), (15, _), (21, _), (28, _), (33, _)]) 22 H0 rfl rfl (wn rfl) (R_call1 H0 rfl rfl (fun w => by simp [go_sem])) rfl hL (q5 _) (.cons rfl (.cons rfl (.cons rfl (.cons rfl (.cons rfl (.cons rfl .nil)))))) fun a1 w1 H1 hL' => ⟨hL', ?_⟩
      replace hL := hL'
      clear H0 hL'
      exact dag_use hS17 (by kernel_rfl) (by kernel_rfl) ⟨H1.pick _ (.cons rfl (.cons rfl (.cons rfl (.cons rfl (.cons rfl (.cons rfl .nil)))))), hL⟩
  refine dag_cut (fun a' w' => Fr a' 37 [(9, .string (s0 ++ s1)), (11, .int .i64 m.ilow), (17, .string s3), (20, .string m.ikey), (24, .int .i64 m.ipart), (28, .int .i64 m.iat), (33, .int .i64 m.iN)] ∧ Live W [(W.heap.size, icells m, 24)] w') 14 #[true, true, true, true, true, true, true, true, true, false, false, true, true, true, true, false, true, true, false, false, true, true, false, false, true, true, false, false, false, true, true, false, false, false, false] ?_ (fun hS20 => ?_)
  · rintro a0 w0 ⟨H0, hL⟩
    refine a_all1 9 (by kernel_rfl) ?_
    refine o_callB (m' := [(12, _), (9, _), (17, _), (20, _), (24, _), (28, _), (33, _)]) 9 H0 rfl rfl (wn rfl) (R_call1 H0 rfl rfl (fun w => by simp [go_sem])) rfl hL (q2 _) (.cons rfl (.cons rfl (.cons rfl (.cons rfl (.cons rfl (.cons rfl (.cons rfl .nil))))))) fun a1 w1 H1 hL' => ⟨hL', ?_⟩
    replace hL := hL'
    clear H0 hL'
    refine a_op (m' := [(13, _), (17, _), (20, _), (24, _), (28, _), (33, _)]) 10 H1 rfl rfl (by kernel_rfl) (by kernel_rfl) (by kernel_rfl) (fun _ _ _ h => h) (wn rfl) (fun w hL => R_bin H1 rfl rfl rfl (B_cat _ _ c2)) hL rfl (.cons rfl (.cons rfl (.cons rfl (.cons rfl (.cons rfl (.cons rfl .nil)))))) fun a2 H2 => ?_
    clear H1
    refine a_op (m' := [(18, _), (20, _), (24, _), (28, _), (33, _)]) 15 H2 rfl rfl (by kernel_rfl) (by kernel_rfl) (by kernel_rfl) (fun _ _ _ h => h) (wn rfl) (fun w hL => R_bin H2 rfl rfl rfl (B_cat _ _ c3)) hL rfl (.cons rfl (.cons rfl (.cons rfl (.cons rfl (.cons rfl .nil))))) fun a3 H3 => ?_
    clear H2
    exact dag_use hS13 (by kernel_rfl) (by kernel_rfl) ⟨H3.pick _ (.cons rfl (.cons rfl (.cons rfl (.cons rfl (.cons rfl .nil))))), hL⟩
  refine dag_cut (fun a' w' => Fr a' 37 [(13, .string (s0 ++ s1 ++ s2)), (15, .int .u8 (m.ikind : Nat)), (20, .string m.ikey), (24, .int .i64 m.ipart), (28, .int .i64 m.iat), (33, .int .i64 m.iN)] ∧ Live W [(W.heap.size, icells m, 24)] w') 14 #[true, true, true, true, true, true, true, true, true, true, true, true, true, false, false, false, true, true, false, false, true, true, false, false, true, true, false, false, false, true, true, false, false, false, false] ?_ (fun hS21 => ?_)
  · rintro a0 w0 ⟨H0, hL⟩
    refine a_all2 13 18 (by kernel_rfl) ?_ ?_
    · refine o_op (m' := [(16, _), (13, _), (20, _), (24, _), (28, _), (33, _)]) 13 H0 rfl rfl (wn rfl) (R_bs1 H0 rfl rfl (bs_u8 _)) rfl (.cons rfl (.cons rfl (.cons rfl (.cons rfl (.cons rfl (.cons rfl .nil)))))) fun a1 H1 => ?_
      clear H0
      replace hL := hL.alloc #[.int .u8 (m.ikind : Nat)] 5
      refine ⟨hL.tail, ?_⟩
      exact dag_use hS18 (by kernel_rfl) (by kernel_rfl) ⟨_, H1.pick _ (.cons rfl (.cons rfl (.cons rfl (.cons rfl (.cons rfl (.cons rfl .nil)))))), hL⟩
    · refine o_callB (m' := [(21, _), (13, _), (15, _), (24, _), (28, _), (33, _)]) 18 H0 rfl rfl (wn rfl) (R_call1 H0 rfl rfl (fun w => by simp [go_sem])) rfl hL (q4 _) (.cons rfl (.cons rfl (.cons rfl (.cons rfl (.cons rfl (.cons rfl .nil)))))) fun a1 w1 H1 hL' => ⟨hL', ?_⟩
      replace hL := hL'
      clear H0 hL'
      exact dag_use hS19 (by kernel_rfl) (by kernel_rfl) ⟨H1.pick _ (.cons rfl (.cons rfl (.cons rfl (.cons rfl (.cons rfl (.cons rfl .nil)))))), hL⟩
  refine dag_cut (fun a' w' => ∃ g, Fr a' 37 [(9, .string (s0 ++ s1)), (11, .int .i64 m.ilow), (16, .slice (some ⟨g, 0, none⟩) 1 1), (20, .string m.ikey), (24, .int .i64 m.ipart), (28, .int .i64 m.iat), (33, .int .i64 m.iN)] ∧ Live W ((g, #[.int .u8 (m.ikind : Nat)], 5) :: [(W.heap.size, icells m, 24)]) w') 15 #[true, true, true, true, true, true, true, true, true, false, false, true, true, true, false, false, true, true, false, false, true, true, false, false, true, true, false, false, false, true, true, false, false, false, false] ?_ (fun hS22 => ?_)
  · rintro a0 w0 ⟨g, H0, hL⟩
    refine a_all2 9 14 (by kernel_rfl) ?_ ?_
    · refine o_callB (m' := [(12, _), (9, _), (16, _), (20, _), (24, _), (28, _), (33, _)]) 9 H0 rfl rfl (wn rfl) (R_call1 H0 rfl rfl (fun w => by simp [go_sem])) rfl hL (q2 _) (.cons rfl (.cons rfl (.cons rfl (.cons rfl (.cons rfl (.cons rfl (.cons rfl .nil))))))) fun a1 w1 H1 hL' => ⟨hL'.tail, ?_⟩
      replace hL := hL'
      clear H0 hL'
      refine a_op (m' := [(13, _), (16, _), (20, _), (24, _), (28, _), (33, _)]) 10 H1 rfl rfl (by kernel_rfl) (by kernel_rfl) (by kernel_rfl) (fun _ _ _ h => h) (wn rfl) (fun w hL => R_bin H1 rfl rfl rfl (B_cat _ _ c2)) hL.tail rfl (.cons rfl (.cons rfl (.cons rfl (.cons rfl (.cons rfl (.cons rfl .nil)))))) fun a2 H2 => ?_
      clear H1
      exact dag_use hS18 (by kernel_rfl) (by kernel_rfl) ⟨_, H2.pick _ (.cons rfl (.cons rfl (.cons rfl (.cons rfl (.cons rfl (.cons rfl .nil)))))), hL⟩
    · refine o_op (m' := [(17, _), (9, _), (11, _), (20, _), (24, _), (28, _), (33, _)]) 14 H0 rfl rfl (wn rfl) (R_cv H0 rfl rfl (hcv hL)) rfl (.cons rfl (.cons rfl (.cons rfl (.cons rfl (.cons rfl (.cons rfl (.cons rfl .nil))))))) fun a1 H1 => ?_
      clear H0
      refine ⟨hL.tail, ?_⟩
      exact dag_use hS20 (by kernel_rfl) (by kernel_rfl) ⟨H1.pick _ (.cons rfl (.cons rfl (.cons rfl (.cons rfl (.cons rfl (.cons rfl (.cons rfl .nil))))))), hL.tail⟩
  refine dag_cut (fun a' w' => Fr a' 37 [(5, .string s0), (7, .int .i64 m.iseq), (11, .int .i64 m.ilow), (17, .string s3), (20, .string m.ikey), (24, .int .i64 m.ipart), (28, .int .i64 m.iat), (33, .int .i64 m.iN)] ∧ Live W [(W.heap.size, icells m, 24)] w') 16 #[true, true, true, true, true, false, false, true, true, false, false, true, true, true, true, false, true, true, false, false, true, true, false, false, true, true, false, false, false, true, true, false, false, false, false] ?_ (fun hS23 => ?_)
  · rintro a0 w0 ⟨H0, hL⟩
    refine a_all1 5 (by kernel_rfl) ?_
    refine o_callB (m' := [(8, _), (5, _), (11, _), (17, _), (20, _), (24, _), (28, _), (33, _)]) 5 H0 rfl rfl (wn rfl) (R_call1 H0 rfl rfl (fun w => by simp [go_sem])) rfl hL (q1 _) (.cons rfl (.cons rfl (.cons rfl (.cons rfl (.cons rfl (.cons rfl (.cons rfl (.cons rfl .nil)))))))) fun a1 w1 H1 hL' => ⟨hL', ?_⟩
    replace hL := hL'
    clear H0 hL'
    refine a_op (m' := [(9, _), (11, _), (17, _), (20, _), (24, _), (28, _), (33, _)]) 6 H1 rfl rfl (by kernel_rfl) (by kernel_rfl) (by kernel_rfl) (fun _ _ _ h => h) (wn rfl) (fun w hL => R_bin H1 rfl rfl rfl (B_cat _ _ c1)) hL rfl (.cons rfl (.cons rfl (.cons rfl (.cons rfl (.cons rfl (.cons rfl (.cons rfl .nil))))))) fun a2 H2 => ?_
    clear H1
    exact dag_use hS20 (by kernel_rfl) (by kernel_rfl) ⟨H2.pick _ (.cons rfl (.cons rfl (.cons rfl (.cons rfl (.cons rfl (.cons rfl (.cons rfl .nil))))))), hL⟩
  refine dag_cut (fun a' w' => Fr a' 37 [(9, .string (s0 ++ s1)), (11, .int .i64 m.ilow), (15, .int .u8 (m.ikind : Nat)), (20, .string m.ikey), (24, .int .i64 m.ipart), (28, .int .i64 m.iat), (33, .int .i64 m.iN)] ∧ Live W [(W.heap.size, icells m, 24)] w') 16 #[true, true, true, true, true, true, true, true, true, false, false, true, true, false, false, false, true, true, false, false, true, true, false, false, true, true, false, false, false, true, true, false, false, false, false] ?_ (fun hS24 => ?_)
  · rintro a0 w0 ⟨H0, hL⟩
    refine a_all2 9 13 (by kernel_rfl) ?_ ?_
    · refine o_callB (m' := [(12, _), (9, _), (15, _), (20, _), (24, _), (28, _), (33, _)]) 9 H0 rfl rfl (wn rfl) (R_call1 H0 rfl rfl (fun w => by simp [go_sem])) rfl hL (q2 _) (.cons rfl (.cons rfl (.cons rfl (.cons rfl (.cons rfl (.cons rfl (.cons rfl .nil))))))) fun a1 w1 H1 hL' => ⟨hL', ?_⟩
      replace hL := hL'
      clear H0 hL'
      refine a_op (m' := [(13, _), (15, _), (20, _), (24, _), (28, _), (33, _)]) 10 H1 rfl rfl (by kernel_rfl) (by kernel_rfl) (by kernel_rfl) (fun _ _ _ h => h) (wn rfl) (fun w hL => R_bin H1 rfl rfl rfl (B_cat _ _ c2)) hL rfl (.cons rfl (.cons rfl (.cons rfl (.cons rfl (.cons rfl (.cons rfl .nil)))))) fun a2 H2 => ?_
      clear H1
      exact dag_use hS21 (by kernel_rfl) (by kernel_rfl) ⟨H2.pick _ (.cons rfl (.cons rfl (.cons rfl (.cons rfl (.cons rfl (.cons rfl .nil)))))), hL⟩
    · refine o_op (m' := [(16, _), (9, _), (11, _), (20, _), (24, _), (28, _), (33, _)]) 13 H0 rfl rfl (wn rfl) (R_bs1 H0 rfl rfl (bs_u8 _)) rfl (.cons rfl (.cons rfl (.cons rfl (.cons rfl (.cons rfl (.cons rfl (.cons rfl .nil))))))) fun a1 H1 => ?_
      clear H0
      replace hL := hL.alloc #[.int .u8 (m.ikind : Nat)] 5
      refine ⟨hL.tail, ?_⟩
      exact dag_use hS22 (by kernel_rfl) (by kernel_rfl) ⟨_, H1.pick _ (.cons rfl (.cons rfl (.cons rfl (.cons rfl (.cons rfl (.cons rfl (.cons rfl .nil))))))), hL⟩
  refine dag_cut (fun a' w' => ∃ g, Fr a' 37 [(5, .string s0), (7, .int .i64 m.iseq), (11, .int .i64 m.ilow), (16, .slice (some ⟨g, 0, none⟩) 1 1), (20, .string m.ikey), (24, .int .i64 m.ipart), (28, .int .i64 m.iat), (33, .int .i64 m.iN)] ∧ Live W ((g, #[.int .u8 (m.ikind : Nat)], 5) :: [(W.heap.size, icells m, 24)]) w') 17 #[true, true, true, true, true, false, false, true, true, false, false, true, true, true, false, false, true, true, false, false, true, true, false, false, true, true, false, false, false, true, true, false, false, false, false] ?_ (fun hS25 => ?_)
  · rintro a0 w0 ⟨g, H0, hL⟩
    refine a_all2 5 14 (by kernel_rfl) ?_ ?_
    · refine o_callB (m' := [(8, _), (5, _), (11, _), (16, _), (20, _), (24, _), (28, _), (33, _)]) 5 H0 rfl rfl (wn rfl) (R_call1 H0 rfl rfl (fun w => by simp [go_sem])) rfl hL (q1 _) (.cons rfl (.cons rfl (.cons rfl (.cons rfl (.cons rfl (.cons rfl (.cons rfl (.cons rfl .nil)))))))) fun a1 w1 H1 hL' => ⟨hL'.tail, ?_⟩
      replace hL := hL'
      clear H0 hL'
      refine a_op (m' := [(9, _), (11, _), (16, _), (20, _), (24, _), (28, _), (33, _)]) 6 H1 rfl rfl (by kernel_rfl) (by kernel_rfl) (by kernel_rfl) (fun _ _ _ h => h) (wn rfl) (fun w hL => R_bin H1 rfl rfl rfl (B_cat _ _ c1)) hL.tail rfl (.cons rfl (.cons rfl (.cons rfl (.cons rfl (.cons rfl (.cons rfl (.cons rfl .nil))))))) fun a2 H2 => ?_
      clear H1
      exact dag_use hS22 (by kernel_rfl) (by kernel_rfl) ⟨_, H2.pick _ (.cons rfl (.cons rfl (.cons rfl (.cons rfl (.cons rfl (.cons rfl (.cons rfl .nil))))))), hL⟩
    · refine o_op (m' := [(17, _), (5, _), (7, _), (11, _), (20, _), (24, _), (28, _), (33, _)]) 14 H0 rfl rfl (wn rfl) (R_cv H0 rfl rfl (hcv hL)) rfl (.cons rfl (.cons rfl (.cons rfl (.cons rfl (.cons rfl (.cons rfl (.cons rfl (.cons rfl .nil)))))))) fun a1 H1 => ?_
      clear H0
      refine ⟨hL.tail, ?_⟩
      exact dag_use hS23 (by kernel_rfl) (by kernel_rfl) ⟨H1.pick _ (.cons rfl (.cons rfl (.cons rfl (.cons rfl (.cons rfl (.cons rfl (.cons rfl (.cons rfl .nil)))))))), hL.tail⟩
  refine dag_cut (fun a' w' => Fr a' 37 [(4, .int .i64 m.isrc), (7, .int .i64 m.iseq), (11, .int .i64 m.ilow), (17, .string s3), (20, .string m.ikey), (24, .int .i64 m.ipart), (28, .int .i64 m.iat), (33, .int .i64 m.iN)] ∧ Live W [(W.heap.size, icells m, 24)] w') 17 #[true, true, false, true, true, false, false, true, true, false, false, true, true, true, true, false, true, true, false, false, true, true, false, false, true, true, false, false, false, true, true, false, false, false, false] ?_ (fun hS26 => ?_)
  · rintro a0 w0 ⟨H0, hL⟩
    refine a_all1 2 (by kernel_rfl) ?_
    refine o_callB (m' := [(5, _), (7, _), (11, _), (17, _), (20, _), (24, _), (28, _), (33, _)]) 2 H0 rfl rfl (wn rfl) (R_call1 H0 rfl rfl (fun w => by simp [go_sem])) rfl hL (q0 _) (.cons rfl (.cons rfl (.cons rfl (.cons rfl (.cons rfl (.cons rfl (.cons rfl (.cons rfl .nil)))))))) fun a1 w1 H1 hL' => ⟨hL', ?_⟩
    replace hL := hL'
    clear H0 hL'
    exact dag_use hS23 (by kernel_rfl) (by kernel_rfl) ⟨H1.pick _ (.cons rfl (.cons rfl (.cons rfl (.cons rfl (.cons rfl (.cons rfl (.cons rfl (.cons rfl .nil)))))))), hL⟩
  refine dag_cut (fun a' w' => Fr a' 37 [(5, .string s0), (7, .int .i64 m.iseq), (11, .int .i64 m.ilow), (15, .int .u8 (m.ikind : Nat)), (20, .string m.ikey), (24, .int .i64 m.ipart), (28, .int .i64 m.iat), (33, .int .i64 m.iN)] ∧ Live W [(W.heap.size, icells m, 24)] w') 18 #[true, true, true, true, true, false, false, true, true, false, false, true, true, false, false, false, true, true, false, false, true, true, false, false, true, true, false, false, false, true, true, false, false, false, false] ?_ (fun hS27 => ?_)
  · rintro a0 w0 ⟨H0, hL⟩
    refine a_all2 5 13 (by kernel_rfl) ?_ ?_
    · refine o_callB (m' := [(8, _), (5, _), (11, _), (15, _), (20, _), (24, _), (28, _), (33, _)]) 5 H0 rfl rfl (wn rfl) (R_call1 H0 rfl rfl (fun w => by simp [go_sem])) rfl hL (q1 _) (.cons rfl (.cons rfl (.cons rfl (.cons rfl (.cons rfl (.cons rfl (.cons rfl (.cons rfl .nil)))))))) fun a1 w1 H1 hL' => ⟨hL', ?_⟩
      replace hL := hL'
      clear H0 hL'
      refine a_op (m' := [(9, _), (11, _), (15, _), (20, _), (24, _), (28, _), (33, _)]) 6 H1 rfl rfl (by kernel_rfl) (by kernel_rfl) (by kernel_rfl) (fun _ _ _ h => h) (wn rfl) (fun w hL => R_bin H1 rfl rfl rfl (B_cat _ _ c1)) hL rfl (.cons rfl (.cons rfl (.cons rfl (.cons rfl (.cons rfl (.cons rfl (.cons rfl .nil))))))) fun a2 H2 => ?_
      clear H1
      exact dag_use hS24 (by kernel_rfl) (by kernel_rfl) ⟨H2.pick _ (.cons rfl (.cons rfl (.cons rfl (.cons rfl (.cons rfl (.cons rfl (.cons rfl .nil))))))), hL⟩
    · refine o_op (m' := [(16, _), (5, _), (7, _), (11, _), (20, _), (24, _), (28, _), (33, _)]) 13 H0 rfl rfl (wn rfl) (R_bs1 H0 rfl rfl (bs_u8 _)) rfl (.cons rfl (.cons rfl (.cons rfl (.cons rfl (.cons rfl (.cons rfl (.cons rfl (.cons rfl .nil)))))))) fun a1 H1 => ?_
      clear H0
      replace hL := hL.alloc #[.int .u8 (m.ikind : Nat)] 5
      refine ⟨hL.tail, ?_⟩
      exact dag_use hS25 (by kernel_rfl) (by kernel_rfl) ⟨_, H1.pick _ (.cons rfl (.cons rfl (.cons rfl (.cons rfl (.cons rfl (.cons rfl (.cons rfl (.cons rfl .nil)))))))), hL⟩
  refine dag_cut (fun a' w' => ∃ g, Fr a' 37 [(4, .int .i64 m.isrc), (7, .int .i64 m.iseq), (11, .int .i64 m.ilow), (16, .slice (some ⟨g, 0, none⟩) 1 1), (20, .string m.ikey), (24, .int .i64 m.ipart), (28, .int .i64 m.iat), (33, .int .i64 m.iN)] ∧ Live W ((g, #[.int .u8 (m.ikind : Nat)], 5) :: [(W.heap.size, icells m, 24)]) w') 18 #[true, true, false, true, true, false, false, true, true, false, false, true, true, true, false, false, true, true, false, false, true, true, false, false, true, true, false, false, false, true, true, false, false, false, false] ?_ (fun hS28 => ?_)
  · rintro a0 w0 ⟨g, H0, hL⟩
    refine a_all2 2 14 (by kernel_rfl) ?_ ?_
    · refine o_callB (m' := [(5, _), (7, _), (11, _), (16, _), (20, _), (24, _), (28, _), (33, _)]) 2 H0 rfl rfl (wn rfl) (R_call1 H0 rfl rfl (fun w => by simp [go_sem])) rfl hL (q0 _) (.cons rfl (.cons rfl (.cons rfl (.cons rfl (.cons rfl (.cons rfl (.cons rfl (.cons rfl .nil)))))))) fun a1 w1 H1 hL' => ⟨hL'.tail, ?_⟩
      replace hL := hL'
      clear H0 hL'
      exact dag_use hS25 (by kernel_rfl) (by kernel_rfl) ⟨_, H1.pick _ (.cons rfl (.cons rfl (.cons rfl (.cons rfl (.cons rfl (.cons rfl (.cons rfl (.cons rfl .nil)))))))), hL⟩
    · refine o_op (m' := [(17, _), (4, _), (7, _), (11, _), (20, _), (24, _), (28, _), (33, _)]) 14 H0 rfl rfl (wn rfl) (R_cv H0 rfl rfl (hcv hL)) rfl (.cons rfl (.cons rfl (.cons rfl (.cons rfl (.cons rfl (.cons rfl (.cons rfl (.cons rfl .nil)))))))) fun a1 H1 => ?_
      clear H0
      refine ⟨hL.tail, ?_⟩
      exact dag_use hS26 (by kernel_rfl) (by kernel_rfl) ⟨H1.pick _ (.cons rfl (.cons rfl (.cons rfl (.cons rfl (.cons rfl (.cons rfl (.cons rfl (.cons rfl .nil)))))))), hL.tail⟩
  refine dag_cut (fun a' w' => Fr a' 37 [(4, .int .i64 m.isrc), (7, .int .i64 m.iseq), (11, .int .i64 m.ilow), (15, .int .u8 (m.ikind : Nat)), (20, .string m.ikey), (24, .int .i64 m.ipart), (28, .int .i64 m.iat), (33, .int .i64 m.iN)] ∧ Live W [(W.heap.size, icells m, 24)] w') 19 #[true, true, false, true, true, false, false, true, true, false, false, true, true, false, false, false, true, true, false, false, true, true, false, false, true, true, false, false, false, true, true, false, false, false, false] ?_ (fun hS29 => ?_)
  · rintro a0 w0 ⟨H0, hL⟩
    refine a_all2 2 13 (by kernel_rfl) ?_ ?_
    · refine o_callB (m' := [(5, _), (7, _), (11, _), (15, _), (20, _), (24, _), (28, _), (33, _)]) 2 H0 rfl rfl (wn rfl) (R_call1 H0 rfl rfl (fun w => by simp [go_sem])) rfl hL (q0 _) (.cons rfl (.cons rfl (.cons rfl (.cons rfl (.cons rfl (.cons rfl (.cons rfl (.cons rfl .nil)))))))) fun a1 w1 H1 hL' => ⟨hL', ?_⟩
      replace hL := hL'
      clear H0 hL'
      exact dag_use hS27 (by kernel_rfl) (by kernel_rfl) ⟨H1.pick _ (.cons rfl (.cons rfl (.cons rfl (.cons rfl (.cons rfl (.cons rfl (.cons rfl (.cons rfl .nil)))))))), hL⟩
    · refine o_op (m' := [(16, _), (4, _), (7, _), (11, _), (20, _), (24, _), (28, _), (33, _)]) 13 H0 rfl rfl (wn rfl) (R_bs1 H0 rfl rfl (bs_u8 _)) rfl (.cons rfl (.cons rfl (.cons rfl (.cons rfl (.cons rfl (.cons rfl (.cons rfl (.cons rfl .nil)))))))) fun a1 H1 => ?_
      clear H0
      replace hL := hL.alloc #[.int .u8 (m.ikind : Nat)] 5
      refine ⟨hL.tail, ?_⟩
      exact dag_use hS28 (by kernel_rfl) (by kernel_rfl) ⟨_, H1.pick _ (.cons rfl (.cons rfl (.cons rfl (.cons rfl (.cons rfl (.cons rfl (.cons rfl (.cons rfl .nil)))))))), hL⟩
  refine a_op (m' := [(3, _), (1, _)]) 0 H2 rfl rfl (by kernel_rfl) (by kernel_rfl) (by kernel_rfl) (fun _ _ _ h => h) (wn rfl) (fun w hL => R_fa H2 rfl rfl (fi_0 _ _)) hL rfl (.cons rfl (.cons rfl .nil)) fun a3 H3 => ?_
  clear H2
  refine a_op (m' := [(6, _), (3, _), (1, _)]) 3 H3 rfl rfl (by kernel_rfl) (by kernel_rfl) (by kernel_rfl) (fun _ _ _ h => h) (wn rfl) (fun w hL => R_fa H3 rfl rfl (fi_1 _ _)) hL rfl (.cons rfl (.cons rfl (.cons rfl .nil))) fun a4 H4 => ?_
  clear H3
  refine a_op (m' := [(10, _), (6, _), (3, _), (1, _)]) 7 H4 rfl rfl (by kernel_rfl) (by kernel_rfl) (by kernel_rfl) (fun _ _ _ h => h) (wn rfl) (fun w hL => R_fa H4 rfl rfl (fi_2 _ _)) hL rfl (.cons rfl (.cons rfl (.cons rfl (.cons rfl .nil)))) fun a5 H5 => ?_
  clear H4
  refine a_op (m' := [(14, _), (10, _), (6, _), (3, _), (1, _)]) 11 H5 rfl rfl (by kernel_rfl) (by kernel_rfl) (by kernel_rfl) (fun _ _ _ h => h) (wn rfl) (fun w hL => R_fa H5 rfl rfl (fi_3 _ _)) hL rfl (.cons rfl (.cons rfl (.cons rfl (.cons rfl (.cons rfl .nil))))) fun a6 H6 => ?_
  clear H5
  refine a_op (m' := [(19, _), (14, _), (10, _), (6, _), (3, _), (1, _)]) 16 H6 rfl rfl (by kernel_rfl) (by kernel_rfl) (by kernel_rfl) (fun _ _ _ h => h) (wn rfl) (fun w hL => R_fa H6 rfl rfl (fi_4 _ _)) hL rfl (.cons rfl (.cons rfl (.cons rfl (.cons rfl (.cons rfl (.cons rfl .nil)))))) fun a7 H7 => ?_
  clear H6
  refine a_op (m' := [(23, _), (19, _), (14, _), (10, _), (6, _), (3, _), (1, _)]) 20 H7 rfl rfl (by kernel_rfl) (by kernel_rfl) (by kernel_rfl) (fun _ _ _ h => h) (wn rfl) (fun w hL => R_fa H7 rfl rfl (fi_5 _ _)) hL rfl (.cons rfl (.cons rfl (.cons rfl (.cons rfl (.cons rfl (.cons rfl (.cons rfl .nil))))))) fun a8 H8 => ?_
  clear H7
  refine a_op (m' := [(27, _), (23, _), (19, _), (14, _), (10, _), (6, _), (3, _), (1, _)]) 24 H8 rfl rfl (by kernel_rfl) (by kernel_rfl) (by kernel_rfl) (fun _ _ _ h => h) (wn rfl) (fun w hL => R_fa H8 rfl rfl (fi_6 _ _)) hL rfl (.cons rfl (.cons rfl (.cons rfl (.cons rfl (.cons rfl (.cons rfl (.cons rfl (.cons rfl .nil)))))))) fun a9 H9 => ?_
  clear H8
  refine a_op (m' := [(32, _), (27, _), (23, _), (19, _), (14, _), (10, _), (6, _), (3, _)]) 29 H9 rfl rfl (by kernel_rfl) (by kernel_rfl) (by kernel_rfl) (fun _ _ _ h => h) (wn rfl) (fun w hL => R_fa H9 rfl rfl (fi_7 _ _)) hL rfl (.cons rfl (.cons rfl (.cons rfl (.cons rfl (.cons rfl (.cons rfl (.cons rfl (.cons rfl .nil)))))))) fun a10 H10 => ?_
  clear H9
  refine a_op (m' := [(4, _), (32, _), (27, _), (23, _), (19, _), (14, _), (10, _), (6, _)]) 1 H10 rfl rfl (by kernel_rfl) (by kernel_rfl) (by kernel_rfl) (fun _ _ _ h => h) (wn rfl) (fun w hL => R_ld H10 rfl rfl (ld_int (hL.cell 0))) hL rfl (.cons rfl (.cons rfl (.cons rfl (.cons rfl (.cons rfl (.cons rfl (.cons rfl (.cons rfl .nil)))))))) fun a11 H11 => ?_
  clear H10
  refine a_op (m' := [(7, _), (4, _), (32, _), (27, _), (23, _), (19, _), (14, _), (10, _)]) 4 H11 rfl rfl (by kernel_rfl) (by kernel_rfl) (by kernel_rfl) (fun _ _ _ h => h) (wn rfl) (fun w hL => R_ld H11 rfl rfl (ld_int (hL.cell 1))) hL rfl (.cons rfl (.cons rfl (.cons rfl (.cons rfl (.cons rfl (.cons rfl (.cons rfl (.cons rfl .nil)))))))) fun a12 H12 => ?_
  clear H11
  refine a_op (m' := [(11, _), (7, _), (4, _), (32, _), (27, _), (23, _), (19, _), (14, _)]) 8 H12 rfl rfl (by kernel_rfl) (by kernel_rfl) (by kernel_rfl) (fun _ _ _ h => h) (wn rfl) (fun w hL => R_ld H12 rfl rfl (ld_int (hL.cell 2))) hL rfl (.cons rfl (.cons rfl (.cons rfl (.cons rfl (.cons rfl (.cons rfl (.cons rfl (.cons rfl .nil)))))))) fun a13 H13 => ?_
  clear H12
  refine a_op (m' := [(15, _), (11, _), (7, _), (4, _), (32, _), (27, _), (23, _), (19, _)]) 12 H13 rfl rfl (by kernel_rfl) (by kernel_rfl) (by kernel_rfl) (fun _ _ _ h => h) (wn rfl) (fun w hL => R_ld H13 rfl rfl (ld_u8 (hL.cell 3))) hL rfl (.cons rfl (.cons rfl (.cons rfl (.cons rfl (.cons rfl (.cons rfl (.cons rfl (.cons rfl .nil)))))))) fun a14 H14 => ?_
  clear H13
  refine a_op (m' := [(20, _), (15, _), (11, _), (7, _), (4, _), (32, _), (27, _), (23, _)]) 17 H14 rfl rfl (by kernel_rfl) (by kernel_rfl) (by kernel_rfl) (fun _ _ _ h => h) (wn rfl) (fun w hL => R_ld H14 rfl rfl (ld_str (hL.cell 4))) hL rfl (.cons rfl (.cons rfl (.cons rfl (.cons rfl (.cons rfl (.cons rfl (.cons rfl (.cons rfl .nil)))))))) fun a15 H15 => ?_
  clear H14
  refine a_op (m' := [(24, _), (20, _), (15, _), (11, _), (7, _), (4, _), (32, _), (27, _)]) 21 H15 rfl rfl (by kernel_rfl) (by kernel_rfl) (by kernel_rfl) (fun _ _ _ h => h) (wn rfl) (fun w hL => R_ld H15 rfl rfl (ld_int (hL.cell 5))) hL rfl (.cons rfl (.cons rfl (.cons rfl (.cons rfl (.cons rfl (.cons rfl (.cons rfl (.cons rfl .nil)))))))) fun a16 H16 => ?_
  clear H15
  refine a_op (m' := [(28, _), (24, _), (20, _), (15, _), (11, _), (7, _), (4, _), (32, _)]) 25 H16 rfl rfl (by kernel_rfl) (by kernel_rfl) (by kernel_rfl) (fun _ _ _ h => h) (wn rfl) (fun w hL => R_ld H16 rfl rfl (ld_i64 (hL.cell 6))) hL rfl (.cons rfl (.cons rfl (.cons rfl (.cons rfl (.cons rfl (.cons rfl (.cons rfl (.cons rfl .nil)))))))) fun a17 H17 => ?_
  clear H16
  refine a_op (m' := [(33, _), (28, _), (24, _), (20, _), (15, _), (11, _), (7, _), (4, _)]) 30 H17 rfl rfl (by kernel_rfl) (by kernel_rfl) (by kernel_rfl) (fun _ _ _ h => h) (wn rfl) (fun w hL => R_ld H17 rfl rfl (ld_i64 (hL.cell 7))) hL rfl (.cons rfl (.cons rfl (.cons rfl (.cons rfl (.cons rfl (.cons rfl (.cons rfl (.cons rfl .nil)))))))) fun a18 H18 => ?_
  clear H17
  exact dag_use hS29 (by kernel_rfl) (by kernel_rfl) ⟨H18.pick _ (.cons rfl (.cons rfl (.cons rfl (.cons rfl (.cons rfl (.cons rfl (.cons rfl (.cons rfl .nil)))))))), hL⟩
end
end Go.Proofs.Ytmmhchpilcjflaa
