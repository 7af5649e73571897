/-
  meterref01.Crc, meterref03.four, Put: the document's sums and frames.
-/
import Derived.Test.YtmmhchpilcjflaaMsgWo
set_option linter.unusedSimpArgs false
set_option linter.unusedVariables false
namespace Go.Proofs.Ytmmhchpilcjflaa
open Go.RowKit
section
variable {P : Program} {a : Act} {w w' : World} {n : Nat} {m : List (Nat × Value)} {o : Oper} {v : Value}
theorem R_bs4 {t : TypeId} {k : Nat} {x0 x1 x2 x3 : Operand} {v0 v1 v2 v3 : Value} (H : Fr a n m) (ho : o.op = .buildSlice t k #[(0, x0), (1, x1), (2, x2), (3, x3)]) (h0 : ev1 m x0 = some v0) (h1 : ev1 m x1 = some v1) (h2 : ev1 m x2 = some v2) (h3 : ev1 m x3 = some v3) (hl : (Instr.buildSlice t k #[(0, v0), (1, v1), (2, v2), (3, v3)]).run P w = .ok v w') : (execOp a.eval o).run P w = .ok (.value v) w' := by
  have e0 := H.ev h0
  have e1 := H.ev h1
  have e2 := H.ev h2
  have e3 := H.ev h3
  unfold execOp
  rw [ho]
  generalize a.eval = ρ at *
  simp only [List.map_toArray, List.map_cons, List.map_nil, e0, e1, e2, e3]
  exact fr_v hl
end
section
variable {w0 w : World} {L : List Blk} {g : Nat}
theorem bs4_u8 (x y z u : Int) : (Instr.buildSlice 38 4 #[(0, .int .u8 x), (1, .int .u8 y), (2, .int .u8 z), (3, .int .u8 u)]).run Try.prog w = .ok (.slice (some ⟨w.heap.size, 0, none⟩) 4 4) (w.alloc (.cells #[.int .u8 x, .int .u8 y, .int .u8 z, .int .u8 u] 5)) := by
  simp [go_sem]
theorem cv4_u8 {x y z u : Nat} (hb : ∀ b ∈ [x, y, z, u], b < 256) (h : Live w0 ((g, #[.int .u8 (x : Nat), .int .u8 (y : Nat), .int .u8 (z : Nat), .int .u8 (u : Nat)], 5) :: L) w) : (convert 38 9 (.slice (some ⟨g, 0, none⟩) 4 4)).run Try.prog w = .ok (.string (packL [x, y, z, u])) w := by
  have hr : RowIs 5 (.slice (some ⟨g, 0, none⟩) 4 4) (u8s [x, y, z, u]) [(g, #[.int .u8 (x : Nat), .int .u8 (y : Nat), .int .u8 (z : Nat), .int .u8 (u : Nat)], 5)] := .inr ⟨g, 4, #[.int .u8 (x : Nat), .int .u8 (y : Nat), .int .u8 (z : Nat), .int .u8 (u : Nat)], rfl, rfl, by simp [u8s], by unfold maxLen; omega, rfl, rfl⟩
  exact string_run hr (B := [(g, #[.int .u8 (x : Nat), .int .u8 (y : Nat), .int .u8 (z : Nat), .int .u8 (u : Nat)], 5)]) h hb
theorem B32_remN {X Y : Operand} (x k : Nat) (hk : 0 < k) : ((do eqGuard .rem 51 X Y (.int .u32 (x : Nat)) (.int .u32 (k : Nat)); binOp .rem 51 (.int .u32 (x : Nat)) (.int .u32 (k : Nat))) : Sem Value).run Try.prog w = .ok (.int .u32 (x % k : Nat)) w := by
  have e : (x : Int).tmod k = ((x % k : Nat) : Int) := Int.tmod_eq_emod_of_nonneg (by omega)
  have e2 : (k : Int) ≠ 0 := by omega
  have e3 : ¬ k = 0 := by omega
  simp [go_sem, e, e2, e3]
theorem B32_quoN {X Y : Operand} (x k : Nat) (hk : 0 < k) (hx : x < 4294967296) : ((do eqGuard .quo 51 X Y (.int .u32 (x : Nat)) (.int .u32 (k : Nat)); binOp .quo 51 (.int .u32 (x : Nat)) (.int .u32 (k : Nat))) : Sem Value).run Try.prog w = .ok (.int .u32 (x / k : Nat)) w := by
  have e : (x : Int).tdiv k = ((x / k : Nat) : Int) := Int.tdiv_eq_ediv_of_nonneg (by omega)
  have hle : x / k ≤ x := Nat.div_le_self _ _
  have e1 : IntKind.u32.wrap ((x : Int) / k) = (x : Int) / k := by
    rw [← Int.natCast_ediv]
    generalize x / k = q at *
    unfold IntKind.wrap
    simp [IntKind.signed, IntKind.bits]
    omega
  have e2 : (k : Int) ≠ 0 := by omega
  have e3 : ¬ k = 0 := by omega
  simp [go_sem, e, e1, e2, e3]
theorem B32_xorN {X Y : Operand} (x y : Nat) (hx : x < 4294967296) (hy : y < 4294967296) : ((do eqGuard .xor 51 X Y (.int .u32 (x : Nat)) (.int .u32 (y : Nat)); binOp .xor 51 (.int .u32 (x : Nat)) (.int .u32 (y : Nat))) : Sem Value).run Try.prog w = .ok (.int .u32 (x ^^^ y : Nat)) w := by
  have e := u32_xor_nat x y hx hy
  simp [go_sem, e]
theorem cv32_8 (x : Nat) (h : x < 256) : (convert 51 5 (.int .u32 (x : Nat))).run Try.prog w = .ok (.int .u8 (x : Nat)) w := by
  have e : IntKind.u8.wrap (x : Int) = x := by
    unfold IntKind.wrap
    simp [IntKind.signed, IntKind.bits]
    omega
  simp [go_sem, e]
theorem cv8_32 (x : Nat) (h : x < 256) : (convert 5 51 (.int .u8 (x : Nat))).run Try.prog w = .ok (.int .u32 (x : Nat)) w := by
  have e : IntKind.u32.wrap (x : Int) = x := by
    unfold IntKind.wrap
    simp [IntKind.signed, IntKind.bits]
    omega
  simp [go_sem, e]
theorem cvi_32 (x : Nat) (h : x < 4294967296) : (convert 3 51 (.int .i64 (x : Nat))).run Try.prog w = .ok (.int .u32 (x : Nat)) w := by
  have e : IntKind.u32.wrap (x : Int) = x := by
    unfold IntKind.wrap
    simp [IntKind.signed, IntKind.bits]
    omega
  simp [go_sem, e]
end
theorem sb_val (x : Nat) : sb x = if x % 2 = 1 then x / 2 ^^^ 2197175160 else x / 2 := rfl
theorem crcR_more {s : ByteArray} {j : Nat} (hj : j < s.size) (c : Nat) : crcR c ((bytesOf s).take (j + 1)) = sbN 8 (crcR c ((bytesOf s).take j) ^^^ (s[j]'hj).toNat) := by
  have e : (bytesOf s)[j]? = some (s[j]'hj).toNat := by
    rw [List.getElem?_eq_getElem (by simpa [bytesOf] using hj)]
    congr 1
    simp [bytesOf]
    rfl
  unfold crcR
  rw [List.take_add_one, List.foldl_append, e]
  rfl
section
variable {W : World} {s : ByteArray}
set_option maxRecDepth 100000 in
theorem four_any {n : Nat} (hn : n < 4294967296) : Calls Try.prog 44 #[.int .u32 (n : Nat)] W fun e W' => e = .returned (.string (packL (le4 n))) ∧ Below W.heap.size W W' := by
  have hL := Live.init W
  have hle : le4 n = [n % 256, n / 256 % 256, n / 65536 % 256, n / 16777216] := by
    unfold le4
    rw [Nat.mod_eq_of_lt (show n / 16777216 < 256 by omega)]
  have hall := le4_all n
  rw [hle] at hall ⊢
  go_enter Try.func44, Try.ntmps44
  refine wp_fr (n := 19) (m := [(0, _)]) ⟨rfl, rfl, by intro p hp; simp only [List.mem_cons, List.not_mem_nil, or_false] at hp; rcases hp with rfl <;> rfl⟩ fun a0 H0 => ?_
  repeat (go_not_at_region 0; go_step)
  refine wp_region_lit ?_
  refine h_op (m' := [(0, _)]) H0 rfl (wn rfl) (R_as H0 rfl rfl) rfl (.cons rfl .nil) fun a1 H1 => ?_
  clear H0
  refine h_end ?_
  repeat (go_not_at_region 1; go_step)
  refine wp_region_lit ?_
  refine h_op (m' := [(3, _), (0, _)]) H1 rfl (wn rfl) (R_mv H1 rfl rfl) rfl (.cons rfl (.cons rfl .nil)) fun a2 H2 => ?_
  clear H1
  refine h_op (m' := [(4, _), (0, _)]) H2 rfl (wn rfl) (R_bin H2 rfl rfl rfl (B32_remN n 256 (by decide))) rfl (.cons rfl (.cons rfl .nil)) fun a3 H3 => ?_
  clear H2
  refine h_op (m' := [(5, _), (0, _)]) H3 rfl (wn rfl) (R_cv H3 rfl rfl (cv32_8 _ (by omega))) rfl (.cons rfl (.cons rfl .nil)) fun a4 H4 => ?_
  clear H3
  refine h_op (m' := [(6, _), (5, _), (0, _)]) H4 rfl (wn rfl) (R_mv H4 rfl rfl) rfl (.cons rfl (.cons rfl (.cons rfl .nil))) fun a5 H5 => ?_
  clear H4
  refine h_op (m' := [(7, _), (5, _), (0, _)]) H5 rfl (wn rfl) (R_bin H5 rfl rfl rfl (B32_quoN n 256 (by decide) hn)) rfl (.cons rfl (.cons rfl (.cons rfl .nil))) fun a6 H6 => ?_
  clear H5
  refine h_op (m' := [(8, _), (5, _), (0, _)]) H6 rfl (wn rfl) (R_bin H6 rfl rfl rfl (B32_remN (n / 256) 256 (by decide))) rfl (.cons rfl (.cons rfl (.cons rfl .nil))) fun a7 H7 => ?_
  clear H6
  refine h_op (m' := [(9, _), (5, _), (0, _)]) H7 rfl (wn rfl) (R_cv H7 rfl rfl (cv32_8 _ (by omega))) rfl (.cons rfl (.cons rfl (.cons rfl .nil))) fun a8 H8 => ?_
  clear H7
  refine h_op (m' := [(10, _), (9, _), (5, _), (0, _)]) H8 rfl (wn rfl) (R_mv H8 rfl rfl) rfl (.cons rfl (.cons rfl (.cons rfl (.cons rfl .nil)))) fun a9 H9 => ?_
  clear H8
  refine h_op (m' := [(11, _), (9, _), (5, _), (0, _)]) H9 rfl (wn rfl) (R_bin H9 rfl rfl rfl (B32_quoN n 65536 (by decide) hn)) rfl (.cons rfl (.cons rfl (.cons rfl (.cons rfl .nil)))) fun a10 H10 => ?_
  clear H9
  refine h_op (m' := [(12, _), (9, _), (5, _), (0, _)]) H10 rfl (wn rfl) (R_bin H10 rfl rfl rfl (B32_remN (n / 65536) 256 (by decide))) rfl (.cons rfl (.cons rfl (.cons rfl (.cons rfl .nil)))) fun a11 H11 => ?_
  clear H10
  refine h_op (m' := [(13, _), (9, _), (5, _), (0, _)]) H11 rfl (wn rfl) (R_cv H11 rfl rfl (cv32_8 _ (by omega))) rfl (.cons rfl (.cons rfl (.cons rfl (.cons rfl .nil)))) fun a12 H12 => ?_
  clear H11
  refine h_op (m' := [(14, _), (13, _), (9, _), (5, _)]) H12 rfl (wn rfl) (R_mv H12 rfl rfl) rfl (.cons rfl (.cons rfl (.cons rfl (.cons rfl .nil)))) fun a13 H13 => ?_
  clear H12
  refine h_op (m' := [(15, _), (13, _), (9, _), (5, _)]) H13 rfl (wn rfl) (R_bin H13 rfl rfl rfl (B32_quoN n 16777216 (by decide) hn)) rfl (.cons rfl (.cons rfl (.cons rfl (.cons rfl .nil)))) fun a14 H14 => ?_
  clear H13
  refine h_op (m' := [(16, _), (13, _), (9, _), (5, _)]) H14 rfl (wn rfl) (R_cv H14 rfl rfl (cv32_8 _ (by omega))) rfl (.cons rfl (.cons rfl (.cons rfl (.cons rfl .nil)))) fun a15 H15 => ?_
  clear H14
  refine h_op (m' := [(17, _)]) H15 rfl (wn rfl) (R_bs4 H15 rfl rfl rfl rfl rfl (bs4_u8 _ _ _ _)) rfl (.cons rfl .nil) fun a16 H16 => ?_
  clear H15
  replace hL := hL.alloc #[.int .u8 (n % 256 : Nat), .int .u8 (n / 256 % 256 : Nat), .int .u8 (n / 65536 % 256 : Nat), .int .u8 (n / 16777216 : Nat)] 5
  refine h_op (m' := [(18, _)]) H16 rfl (wn rfl) (R_cv H16 rfl rfl (cv4_u8 hall hL)) rfl (.cons rfl .nil) fun a17 H17 => ?_
  clear H16
  refine h_op (m' := [(2, _)]) H17 rfl (wn rfl) (R_as H17 rfl rfl) rfl (.cons rfl .nil) fun a18 H18 => ?_
  clear H17
  refine h_end ?_
  repeat (go_not_at_region 999; go_step)
  exact H18.ret1 rfl rfl ⟨rfl, hL.1⟩
set_option maxHeartbeats 1000000 in
set_option maxRecDepth 100000 in
theorem rMore_any (hs : s.size < 140737488351233) : Calls Try.prog 63 #[.int .u32 0, .string s] W fun e W' => e = .returned (.int .u32 (crcM (bytesOf s) : Nat)) ∧ W' = W := by
  go_enter Try.func63, Try.ntmps63
  refine wp_fr (n := 37) (m := [(0, _), (1, _)]) ⟨rfl, rfl, by intro p hp; simp only [List.mem_cons, List.not_mem_nil, or_false] at hp; rcases hp with rfl | rfl <;> rfl⟩ fun a0 H0 => ?_
  repeat (go_not_at_region 0; go_step)
  refine wp_region_lit ?_
  refine h_op (m' := [(0, _), (1, _)]) H0 rfl (wn rfl) (R_as H0 rfl rfl) rfl (.cons rfl (.cons rfl .nil)) fun a1 H1 => ?_
  clear H0
  refine h_end ?_
  repeat (go_not_at_region 1; go_step)
  refine wp_region_lit ?_
  refine h_op (m' := [(9, _), (1, _)]) H1 rfl (wn rfl) (R_mv H1 rfl rfl) rfl (.cons rfl (.cons rfl .nil)) fun a2 H2 => ?_
  clear H1
  refine h_op (m' := [(10, _), (1, _)]) H2 rfl (wn rfl) (R_bin H2 rfl rfl rfl (B32_xorN 0 4294967295 (by decide) (by decide))) rfl (.cons rfl (.cons rfl .nil)) fun a3 H3 => ?_
  clear H2
  refine h_op (m' := [(5, _), (1, _)]) H3 rfl (wn rfl) (R_as H3 rfl rfl) rfl (.cons rfl (.cons rfl .nil)) fun a4 H4 => ?_
  clear H3
  refine h_end ?_
  repeat (go_not_at_region 2; go_step)
  refine wp_region_lit ?_
  refine h_op (m' := [(6, _), (5, _), (1, _)]) H4 rfl (wn rfl) (R_as H4 rfl rfl) rfl (.cons rfl (.cons rfl (.cons rfl .nil))) fun a5 H5 => ?_
  clear H4
  refine h_end ?_
  repeat (go_not_at_region 3; go_step)
  obtain ⟨I, hI⟩ : ∃ I : Nat → Act → World → Prop, ∀ n a' w', I n a' w' ↔ ∃ j : Nat, n = s.size - j ∧ j ≤ s.size ∧ Fr a' 37 [(1, .string s), (5, .int .u32 (crcR 4294967295 ((bytesOf s).take j) : Nat)), (6, .int .i64 (j : Nat))] ∧ w' = W := ⟨_, fun _ _ _ => Iff.rfl⟩
  have HI := Lib.hid hI
  clear hI
  refine wp_loop_ghost I s.size ((HI.out _ _ _).2 ⟨0, rfl, Nat.zero_le _, H5.pick _ (.cons rfl (.cons rfl (.cons rfl .nil))), rfl⟩) ?_
  intro n a1 w1 hi
  obtain ⟨j, rfl, hj, H0, rfl⟩ := (HI.out _ _ _).1 hi
  clear hi
  have hcl : crcR 4294967295 ((bytesOf s).take j) < 4294967296 := crcR_lt _ _ (by decide) fun b hb => bytesOf_lt b (List.mem_of_mem_take hb)
  by_cases hjl : j < s.size
  · repeat (go_not_at_region 3; go_step)
    refine wp_region_lit ?_
    refine h_op (m' := [(11, _), (1, _), (5, _), (6, _)]) H0 rfl (wn rfl) (R_mv H0 rfl rfl) rfl (.cons rfl (.cons rfl (.cons rfl (.cons rfl .nil)))) fun a1 H1 => ?_
    clear H0
    refine h_op (m' := [(12, _), (11, _), (1, _), (5, _), (6, _)]) H1 rfl (wn rfl) (R_mv H1 rfl rfl) rfl (.cons rfl (.cons rfl (.cons rfl (.cons rfl (.cons rfl .nil))))) fun a2 H2 => ?_
    clear H1
    refine h_op (m' := [(13, _), (11, _), (1, _), (5, _), (6, _)]) H2 rfl (wn rfl) (R_len H2 rfl rfl Try.underlying9) rfl (.cons rfl (.cons rfl (.cons rfl (.cons rfl (.cons rfl .nil))))) fun a3 H3 => ?_
    clear H2
    refine h_op (m' := [(14, _), (1, _), (5, _), (6, _)]) H3 rfl (wn rfl) (R_bin H3 rfl rfl rfl (B_to (y := true) (B_lt Try.underlying3 _ _) (decide_eq_true (by omega)))) rfl (.cons rfl (.cons rfl (.cons rfl (.cons rfl .nil)))) fun a4 H4 => ?_
    clear H3
    refine h_end ?_
    repeat (go_not_at_region 5; go_step)
    refine wp_cond_true (H4.ev (x := .tmp 14) rfl) ?_
    have hb8 : (s[j]'hjl).toNat < 256 := UInt8.toNat_lt _
    have hmore := crcR_more hjl 4294967295
    obtain ⟨y, hy⟩ : ∃ y, y = crcR 4294967295 ((bytesOf s).take j) ^^^ (s[j]'hjl).toNat := ⟨_, rfl⟩
    have hyl : y < 4294967296 := by rw [hy]; exact Nat.xor_lt_two_pow (n := 32) hcl (Nat.lt_of_lt_of_le hb8 (by decide))
    rw [← hy] at hmore
    repeat (go_not_at_region 5; go_step)
    refine wp_region_lit ?_
    refine h_op (m' := [(17, _), (1, _), (5, _), (6, _)]) H4 rfl (wn rfl) (R_mv H4 rfl rfl) rfl (.cons rfl (.cons rfl (.cons rfl (.cons rfl .nil)))) fun a5 H5 => ?_
    clear H4
    refine h_op (m' := [(18, _), (17, _), (1, _), (5, _), (6, _)]) H5 rfl (wn rfl) (R_mv H5 rfl rfl) rfl (.cons rfl (.cons rfl (.cons rfl (.cons rfl (.cons rfl .nil))))) fun a6 H6 => ?_
    clear H5
    refine h_op (m' := [(19, _), (18, _), (17, _), (1, _), (5, _), (6, _)]) H6 rfl (wn rfl) (R_mv H6 rfl rfl) rfl (.cons rfl (.cons rfl (.cons rfl (.cons rfl (.cons rfl (.cons rfl .nil)))))) fun a7 H7 => ?_
    clear H6
    refine h_op (m' := [(20, _), (17, _), (1, _), (5, _), (6, _)]) H7 rfl (wn rfl) (R_ix H7 rfl rfl rfl (ix_str hjl)) rfl (.cons rfl (.cons rfl (.cons rfl (.cons rfl (.cons rfl .nil))))) fun a8 H8 => ?_
    clear H7
    refine h_op (m' := [(21, _), (17, _), (1, _), (5, _), (6, _)]) H8 rfl (wn rfl) (R_cv H8 rfl rfl (cv8_32 _ hb8)) rfl (.cons rfl (.cons rfl (.cons rfl (.cons rfl (.cons rfl .nil))))) fun a9 H9 => ?_
    clear H8
    refine h_op (m' := [(22, _), (1, _), (5, _), (6, _)]) H9 rfl (wn rfl) (R_bin H9 rfl rfl rfl (B32_xorN _ _ hcl (Nat.lt_of_lt_of_le hb8 (by decide)))) rfl (.cons rfl (.cons rfl (.cons rfl (.cons rfl .nil)))) fun a10 H10 => ?_
    clear H9
    refine h_op (m' := [(5, _), (1, _), (6, _)]) H10 rfl (wn rfl) (R_as H10 rfl rfl) rfl (.cons rfl (.cons rfl (.cons rfl .nil))) fun a11 H11 => ?_
    clear H10
    refine h_end ?_
    rw [← hy] at H11
    repeat (go_not_at_region 6; go_step)
    refine wp_region_lit ?_
    refine h_op (m' := [(7, _), (5, _), (1, _), (6, _)]) H11 rfl (wn rfl) (R_as H11 rfl rfl) rfl (.cons rfl (.cons rfl (.cons rfl (.cons rfl .nil)))) fun a12 H12 => ?_
    clear H11
    refine h_end ?_
    repeat (go_not_at_region 7; go_step)
    obtain ⟨J, hJ⟩ : ∃ J : Nat → Act → World → Prop, ∀ n a' w', J n a' w' ↔ ∃ k : Nat, n = 8 - k ∧ k ≤ 8 ∧ Fr a' 37 [(1, .string s), (5, .int .u32 (sbN k y : Nat)), (6, .int .i64 (j : Nat)), (7, .int .i64 (k : Nat))] ∧ w' = w1 := ⟨_, fun _ _ _ => Iff.rfl⟩
    have HJ := Lib.hid hJ
    clear hJ
    refine wp_loop_ghost J 8 ((HJ.out _ _ _).2 ⟨0, rfl, Nat.zero_le _, H12.pick _ (.cons rfl (.cons rfl (.cons rfl (.cons rfl .nil)))), rfl⟩) ?_
    intro n a2 w2 hi
    obtain ⟨k, rfl, hk, H0, rfl⟩ := (HJ.out _ _ _).1 hi
    clear hi
    have hxl := sbN_lt k y hyl
    have hlast := sbN_last k y
    rw [sb_val] at hlast
    by_cases hk8 : k < 8
    · repeat (go_not_at_region 7; go_step)
      refine wp_region_lit ?_
      refine h_op (m' := [(23, _), (1, _), (5, _), (6, _), (7, _)]) H0 rfl (wn rfl) (R_mv H0 rfl rfl) rfl (.cons rfl (.cons rfl (.cons rfl (.cons rfl (.cons rfl .nil))))) fun a1 H1 => ?_
      clear H0
      refine h_op (m' := [(24, _), (1, _), (5, _), (6, _), (7, _)]) H1 rfl (wn rfl) (R_bin H1 rfl rfl rfl (B_to (y := true) (B_lt Try.underlying3 _ _) (decide_eq_true (by omega)))) rfl (.cons rfl (.cons rfl (.cons rfl (.cons rfl (.cons rfl .nil))))) fun a2 H2 => ?_
      clear H1
      refine h_end ?_
      repeat (go_not_at_region 9; go_step)
      refine wp_cond_true (H2.ev (x := .tmp 24) rfl) ?_
      repeat (go_not_at_region 9; go_step)
      refine wp_region_lit ?_
      refine h_op (m' := [(27, _), (1, _), (5, _), (6, _), (7, _)]) H2 rfl (wn rfl) (R_mv H2 rfl rfl) rfl (.cons rfl (.cons rfl (.cons rfl (.cons rfl (.cons rfl .nil))))) fun a3 H3 => ?_
      clear H2
      refine h_op (m' := [(28, _), (1, _), (5, _), (6, _), (7, _)]) H3 rfl (wn rfl) (R_bin H3 rfl rfl rfl (B32_remN (sbN k y) 2 (by decide))) rfl (.cons rfl (.cons rfl (.cons rfl (.cons rfl (.cons rfl .nil))))) fun a4 H4 => ?_
      clear H3
      refine h_op (m' := [(8, _), (1, _), (5, _), (6, _), (7, _)]) H4 rfl (wn rfl) (R_as H4 rfl rfl) rfl (.cons rfl (.cons rfl (.cons rfl (.cons rfl (.cons rfl .nil))))) fun a5 H5 => ?_
      clear H4
      refine h_end ?_
      repeat (go_not_at_region 10; go_step)
      refine wp_region_lit ?_
      refine h_op (m' := [(29, _), (8, _), (1, _), (5, _), (6, _), (7, _)]) H5 rfl (wn rfl) (R_mv H5 rfl rfl) rfl (.cons rfl (.cons rfl (.cons rfl (.cons rfl (.cons rfl (.cons rfl .nil)))))) fun a6 H6 => ?_
      clear H5
      refine h_op (m' := [(30, _), (8, _), (1, _), (5, _), (6, _), (7, _)]) H6 rfl (wn rfl) (R_bin H6 rfl rfl rfl (B32_quoN (sbN k y) 2 (by decide) hxl)) rfl (.cons rfl (.cons rfl (.cons rfl (.cons rfl (.cons rfl (.cons rfl .nil)))))) fun a7 H7 => ?_
      clear H6
      refine h_op (m' := [(5, _), (8, _), (1, _), (6, _), (7, _)]) H7 rfl (wn rfl) (R_as H7 rfl rfl) rfl (.cons rfl (.cons rfl (.cons rfl (.cons rfl (.cons rfl .nil))))) fun a8 H8 => ?_
      clear H7
      refine h_end ?_
      by_cases hodd : sbN k y % 2 = 1
      · rw [if_pos hodd] at hlast
        repeat (go_not_at_region 11; go_step)
        refine wp_region_lit ?_
        refine h_op (m' := [(31, _), (5, _), (1, _), (6, _), (7, _)]) H8 rfl (wn rfl) (R_mv H8 rfl rfl) rfl (.cons rfl (.cons rfl (.cons rfl (.cons rfl (.cons rfl .nil))))) fun a9 H9 => ?_
        clear H8
        refine h_op (m' := [(32, _), (5, _), (1, _), (6, _), (7, _)]) H9 rfl (wn rfl) (R_bin H9 rfl rfl rfl (B_to (y := true) (B32_eq1 _) (decide_eq_true hodd))) rfl (.cons rfl (.cons rfl (.cons rfl (.cons rfl (.cons rfl .nil))))) fun a10 H10 => ?_
        clear H9
        refine h_end ?_
        repeat (go_not_at_region 12; go_step)
        refine wp_cond_true (H10.ev (x := .tmp 32) rfl) ?_
        repeat (go_not_at_region 12; go_step)
        refine wp_region_lit ?_
        refine h_op (m' := [(33, _), (5, _), (1, _), (6, _), (7, _)]) H10 rfl (wn rfl) (R_mv H10 rfl rfl) rfl (.cons rfl (.cons rfl (.cons rfl (.cons rfl (.cons rfl .nil))))) fun a11 H11 => ?_
        clear H10
        refine h_op (m' := [(34, _), (5, _), (1, _), (6, _), (7, _)]) H11 rfl (wn rfl) (R_bin H11 rfl rfl rfl (B32_xorN (sbN k y / 2) 2197175160 (by omega) (by decide))) rfl (.cons rfl (.cons rfl (.cons rfl (.cons rfl (.cons rfl .nil))))) fun a12 H12 => ?_
        clear H11
        refine h_op (m' := [(5, _), (1, _), (6, _), (7, _)]) H12 rfl (wn rfl) (R_as H12 rfl rfl) rfl (.cons rfl (.cons rfl (.cons rfl (.cons rfl .nil)))) fun a13 H13 => ?_
        clear H12
        refine h_end ?_
        repeat (go_not_at_region 8; go_step)
        refine wp_region_lit ?_
        refine h_op (m' := [(25, _), (5, _), (1, _), (6, _), (7, _)]) H13 rfl (wn rfl) (R_mv H13 rfl rfl) rfl (.cons rfl (.cons rfl (.cons rfl (.cons rfl (.cons rfl .nil))))) fun a14 H14 => ?_
        clear H13
        refine h_op (m' := [(26, _), (5, _), (1, _), (6, _), (7, _)]) H14 rfl (wn rfl) (R_bin H14 rfl rfl rfl (B_add Try.underlying3 _ _ (by omega) (by omega))) rfl (.cons rfl (.cons rfl (.cons rfl (.cons rfl (.cons rfl .nil))))) fun a15 H15 => ?_
        clear H14
        refine h_op (m' := [(7, _), (5, _), (1, _), (6, _)]) H15 rfl (wn rfl) (R_as H15 rfl rfl) rfl (.cons rfl (.cons rfl (.cons rfl (.cons rfl .nil)))) fun a16 H16 => ?_
        clear H15
        refine h_end ?_
        repeat (go_not_at_region 999; go_step)
        refine ⟨8 - (k + 1), by omega, (HJ.out _ _ _).2 ⟨k + 1, rfl, hk8, ?_, rfl⟩⟩
        rw [hlast]
        exact H16.pick _ (.cons rfl (.cons rfl (.cons rfl (.cons rfl .nil))))
      · rw [if_neg hodd] at hlast
        repeat (go_not_at_region 11; go_step)
        refine wp_region_lit ?_
        refine h_op (m' := [(31, _), (5, _), (1, _), (6, _), (7, _)]) H8 rfl (wn rfl) (R_mv H8 rfl rfl) rfl (.cons rfl (.cons rfl (.cons rfl (.cons rfl (.cons rfl .nil))))) fun a9 H9 => ?_
        clear H8
        refine h_op (m' := [(32, _), (5, _), (1, _), (6, _), (7, _)]) H9 rfl (wn rfl) (R_bin H9 rfl rfl rfl (B_to (y := false) (B32_eq1 _) (decide_eq_false hodd))) rfl (.cons rfl (.cons rfl (.cons rfl (.cons rfl (.cons rfl .nil))))) fun a10 H10 => ?_
        clear H9
        refine h_end ?_
        repeat (go_not_at_region 8; go_step)
        refine wp_cond_false (H10.ev (x := .tmp 32) rfl) ?_
        repeat (go_not_at_region 8; go_step)
        refine wp_region_lit ?_
        refine h_op (m' := [(25, _), (5, _), (1, _), (6, _), (7, _)]) H10 rfl (wn rfl) (R_mv H10 rfl rfl) rfl (.cons rfl (.cons rfl (.cons rfl (.cons rfl (.cons rfl .nil))))) fun a11 H11 => ?_
        clear H10
        refine h_op (m' := [(26, _), (5, _), (1, _), (6, _), (7, _)]) H11 rfl (wn rfl) (R_bin H11 rfl rfl rfl (B_add Try.underlying3 _ _ (by omega) (by omega))) rfl (.cons rfl (.cons rfl (.cons rfl (.cons rfl (.cons rfl .nil))))) fun a12 H12 => ?_
        clear H11
        refine h_op (m' := [(7, _), (5, _), (1, _), (6, _)]) H12 rfl (wn rfl) (R_as H12 rfl rfl) rfl (.cons rfl (.cons rfl (.cons rfl (.cons rfl .nil)))) fun a13 H13 => ?_
        clear H12
        refine h_end ?_
        repeat (go_not_at_region 999; go_step)
        refine ⟨8 - (k + 1), by omega, (HJ.out _ _ _).2 ⟨k + 1, rfl, hk8, ?_, rfl⟩⟩
        rw [hlast]
        exact H13.pick _ (.cons rfl (.cons rfl (.cons rfl (.cons rfl .nil))))
    · obtain rfl : k = 8 := by omega
      repeat (go_not_at_region 7; go_step)
      refine wp_region_lit ?_
      refine h_op (m' := [(23, _), (1, _), (5, _), (6, _), (7, _)]) H0 rfl (wn rfl) (R_mv H0 rfl rfl) rfl (.cons rfl (.cons rfl (.cons rfl (.cons rfl (.cons rfl .nil))))) fun a1 H1 => ?_
      clear H0
      refine h_op (m' := [(24, _), (1, _), (5, _), (6, _), (7, _)]) H1 rfl (wn rfl) (R_bin H1 rfl rfl rfl (B_to (y := false) (B_lt Try.underlying3 _ _) (decide_eq_false (by omega)))) rfl (.cons rfl (.cons rfl (.cons rfl (.cons rfl (.cons rfl .nil))))) fun a2 H2 => ?_
      clear H1
      refine h_end ?_
      repeat (go_not_at_region 4; go_step)
      refine wp_cond_false (H2.ev (x := .tmp 24) rfl) ?_
      repeat (go_not_at_region 4; go_step)
      refine wp_region_lit ?_
      refine h_op (m' := [(15, _), (1, _), (5, _), (6, _)]) H2 rfl (wn rfl) (R_mv H2 rfl rfl) rfl (.cons rfl (.cons rfl (.cons rfl (.cons rfl .nil)))) fun a3 H3 => ?_
      clear H2
      refine h_op (m' := [(16, _), (1, _), (5, _), (6, _)]) H3 rfl (wn rfl) (R_bin H3 rfl rfl rfl (B_add Try.underlying3 _ _ (by omega) (by omega))) rfl (.cons rfl (.cons rfl (.cons rfl (.cons rfl .nil)))) fun a4 H4 => ?_
      clear H3
      refine h_op (m' := [(6, _), (1, _), (5, _)]) H4 rfl (wn rfl) (R_as H4 rfl rfl) rfl (.cons rfl (.cons rfl (.cons rfl .nil))) fun a5 H5 => ?_
      clear H4
      refine h_end ?_
      repeat (go_not_at_region 999; go_step)
      refine ⟨s.size - (j + 1), by omega, (HI.out _ _ _).2 ⟨j + 1, rfl, hjl, ?_, rfl⟩⟩
      rw [hmore]
      exact H5.pick _ (.cons rfl (.cons rfl (.cons rfl .nil)))
  · obtain rfl : j = s.size := by omega
    repeat (go_not_at_region 3; go_step)
    refine wp_region_lit ?_
    refine h_op (m' := [(11, _), (1, _), (5, _), (6, _)]) H0 rfl (wn rfl) (R_mv H0 rfl rfl) rfl (.cons rfl (.cons rfl (.cons rfl (.cons rfl .nil)))) fun a1 H1 => ?_
    clear H0
    refine h_op (m' := [(12, _), (11, _), (1, _), (5, _), (6, _)]) H1 rfl (wn rfl) (R_mv H1 rfl rfl) rfl (.cons rfl (.cons rfl (.cons rfl (.cons rfl (.cons rfl .nil))))) fun a2 H2 => ?_
    clear H1
    refine h_op (m' := [(13, _), (11, _), (1, _), (5, _), (6, _)]) H2 rfl (wn rfl) (R_len H2 rfl rfl Try.underlying9) rfl (.cons rfl (.cons rfl (.cons rfl (.cons rfl (.cons rfl .nil))))) fun a3 H3 => ?_
    clear H2
    refine h_op (m' := [(14, _), (1, _), (5, _), (6, _)]) H3 rfl (wn rfl) (R_bin H3 rfl rfl rfl (B_to (y := false) (B_lt Try.underlying3 _ _) (decide_eq_false (by omega)))) rfl (.cons rfl (.cons rfl (.cons rfl (.cons rfl .nil)))) fun a4 H4 => ?_
    clear H3
    refine h_end ?_
    repeat (go_not_at_region 13; go_step)
    refine wp_cond_false (H4.ev (x := .tmp 14) rfl) ?_
    have hall : (bytesOf s).take s.size = bytesOf s := List.take_of_length_le (by rw [bytes_size]; omega)
    rw [hall] at H4 hcl
    have hx : crcM (bytesOf s) = crcR 4294967295 (bytesOf s) ^^^ 4294967295 := (not_xor hcl).symm
    repeat (go_not_at_region 13; go_step)
    refine wp_region_lit ?_
    refine h_op (m' := [(35, _)]) H4 rfl (wn rfl) (R_mv H4 rfl rfl) rfl (.cons rfl .nil) fun a5 H5 => ?_
    clear H4
    refine h_op (m' := [(36, _)]) H5 rfl (wn rfl) (R_bin H5 rfl rfl rfl (B32_xorN _ 4294967295 hcl (by decide))) rfl (.cons rfl .nil) fun a6 H6 => ?_
    clear H5
    refine h_op (m' := [(4, _)]) H6 rfl (wn rfl) (R_as H6 rfl rfl) rfl (.cons rfl .nil) fun a7 H7 => ?_
    clear H6
    refine h_end ?_
    repeat (go_not_at_region 999; go_step)
    refine H7.ret1 rfl rfl ⟨?_, rfl⟩
    rw [hx]
set_option maxRecDepth 100000 in
theorem rCrc_any (hs : s.size < 140737488351233) : Calls Try.prog 45 #[.string s] W fun e W' => e = .returned (.int .u32 (crcM (bytesOf s) : Nat)) ∧ W' = W := by
  go_enter Try.func45, Try.ntmps45
  refine wp_fr (n := 5) (m := [(0, _)]) ⟨rfl, rfl, by intro p hp; simp only [List.mem_cons, List.not_mem_nil, or_false] at hp; rcases hp with rfl <;> rfl⟩ fun a0 H0 => ?_
  repeat (go_not_at_region 0; go_step)
  refine wp_region_lit ?_
  refine h_op (m' := [(0, _)]) H0 rfl (wn rfl) (R_as H0 rfl rfl) rfl (.cons rfl .nil) fun a1 H1 => ?_
  clear H0
  refine h_end ?_
  repeat (go_not_at_region 1; go_step)
  refine wp_region_lit ?_
  refine h_op (m' := [(3, _)]) H1 rfl (wn rfl) (R_mv H1 rfl rfl) rfl (.cons rfl .nil) fun a2 H2 => ?_
  clear H1
  refine h_call H2 rfl (wn rfl) (R_call2 H2 rfl rfl rfl (fun w => by simp [go_sem])) rfl ?_
  refine (rMore_any hs).mono ?_
  rintro e wx ⟨rfl, rfl⟩
  refine ⟨_, rfl, fun a3 HH => ?_⟩
  have H3 := HH [(4, _)] (.cons rfl .nil)
  clear HH H2
  refine h_op (m' := [(2, _)]) H3 rfl (wn rfl) (R_as H3 rfl rfl) rfl (.cons rfl .nil) fun a4 H4 => ?_
  clear H3
  refine h_end ?_
  repeat (go_not_at_region 999; go_step)
  exact H4.ret1 rfl rfl ⟨rfl, rfl⟩
set_option maxRecDepth 100000 in
theorem rPut_any (hs : s.size ≤ 16384) : Calls Try.prog 22 #[.string s] W fun e W' => e = .returned (.tuple #[.string (packL (frameL s)), .int .i64 0]) ∧ Below W.heap.size W W' := by
  have hL := Live.init W
  have hcat : packL (le4 s.size) ++ packL (le4 (crcM (le4 s.size))) ++ s ++ packL (le4 (crcM (bytesOf s))) = packL (frameL s) := by
    unfold frameL headL
    rw [← packL_app, ← packL_app, ← packL_app, packL_of]
  have z4 : ∀ n, (packL (le4 n)).size = 4 := fun n => by rw [packL_size]; rfl
  go_enter Try.func22, Try.ntmps22
  refine wp_fr (n := 23) (m := [(0, _)]) ⟨rfl, rfl, by intro p hp; simp only [List.mem_cons, List.not_mem_nil, or_false] at hp; rcases hp with rfl <;> rfl⟩ fun a0 H0 => ?_
  repeat (go_not_at_region 0; go_step)
  refine wp_region_lit ?_
  refine h_op (m' := [(0, _)]) H0 rfl (wn rfl) (R_as H0 rfl rfl) rfl (.cons rfl .nil) fun a1 H1 => ?_
  clear H0
  refine h_op (m' := [(0, _)]) H1 rfl (wn rfl) (R_as H1 rfl rfl) rfl (.cons rfl .nil) fun a2 H2 => ?_
  clear H1
  refine h_end ?_
  repeat (go_not_at_region 1; go_step)
  refine wp_region_lit ?_
  refine h_op (m' := [(5, _), (0, _)]) H2 rfl (wn rfl) (R_mv H2 rfl rfl) rfl (.cons rfl (.cons rfl .nil)) fun a3 H3 => ?_
  clear H2
  refine h_op (m' := [(6, _), (0, _)]) H3 rfl (wn rfl) (R_len H3 rfl rfl Try.underlying9) rfl (.cons rfl (.cons rfl .nil)) fun a4 H4 => ?_
  clear H3
  refine h_op (m' := [(7, _), (0, _)]) H4 rfl (wn rfl) (R_bin H4 rfl rfl rfl (B_to (y := false) (B_gt Try.underlying3 _ _) (decide_eq_false (by omega)))) rfl (.cons rfl (.cons rfl .nil)) fun a5 H5 => ?_
  clear H4
  refine h_end ?_
  repeat (go_not_at_region 3; go_step)
  refine wp_cond_false (H5.ev (x := .tmp 7) rfl) ?_
  repeat (go_not_at_region 3; go_step)
  refine wp_region_lit ?_
  refine h_op (m' := [(8, _), (0, _)]) H5 rfl (wn rfl) (R_mv H5 rfl rfl) rfl (.cons rfl (.cons rfl .nil)) fun a6 H6 => ?_
  clear H5
  refine h_op (m' := [(9, _), (0, _)]) H6 rfl (wn rfl) (R_len H6 rfl rfl Try.underlying9) rfl (.cons rfl (.cons rfl .nil)) fun a7 H7 => ?_
  clear H6
  refine h_op (m' := [(10, _), (0, _)]) H7 rfl (wn rfl) (R_cv H7 rfl rfl (cvi_32 _ (by omega))) rfl (.cons rfl (.cons rfl .nil)) fun a8 H8 => ?_
  clear H7
  refine h_call H8 rfl (wn rfl) (R_call1 H8 rfl rfl (fun w => by simp [go_sem])) rfl ?_
  refine (four_any (n := s.size) (by omega)).mono ?_
  rintro e wx ⟨rfl, hb⟩
  replace hL := hL.call hb
  clear hb
  refine ⟨_, rfl, fun a9 HH => ?_⟩
  have H9 := HH [(11, _), (0, _)] (.cons rfl (.cons rfl .nil))
  clear HH H8
  refine h_op (m' := [(4, _), (0, _)]) H9 rfl (wn rfl) (R_as H9 rfl rfl) rfl (.cons rfl (.cons rfl .nil)) fun a10 H10 => ?_
  clear H9
  refine h_end ?_
  repeat (go_not_at_region 4; go_step)
  refine wp_region_lit ?_
  refine h_op (m' := [(12, _), (4, _), (0, _)]) H10 rfl (wn rfl) (R_mv H10 rfl rfl) rfl (.cons rfl (.cons rfl (.cons rfl .nil))) fun a11 H11 => ?_
  clear H10
  refine h_op (m' := [(13, _), (12, _), (0, _)]) H11 rfl (wn rfl) (R_mv H11 rfl rfl) rfl (.cons rfl (.cons rfl (.cons rfl .nil))) fun a12 H12 => ?_
  clear H11
  refine h_call H12 rfl (wn rfl) (R_call1 H12 rfl rfl (fun w => by simp [go_sem])) rfl ?_
  refine (rCrc_any (by rw [z4]; decide)).mono ?_
  rintro e wx ⟨rfl, rfl⟩
  rw [packL_bytes (le4_all _)]
  refine ⟨_, rfl, fun a13 HH => ?_⟩
  have H13 := HH [(14, _), (12, _), (0, _)] (.cons rfl (.cons rfl (.cons rfl .nil)))
  clear HH H12
  refine h_call H13 rfl (wn rfl) (R_call1 H13 rfl rfl (fun w => by simp [go_sem])) rfl ?_
  refine (four_any crcM_lt).mono ?_
  rintro e wx ⟨rfl, hb⟩
  replace hL := hL.call hb
  clear hb
  refine ⟨_, rfl, fun a14 HH => ?_⟩
  have H14 := HH [(15, _), (12, _), (0, _)] (.cons rfl (.cons rfl (.cons rfl .nil)))
  clear HH H13
  refine h_op (m' := [(16, _), (0, _)]) H14 rfl (wn rfl) (R_bin H14 rfl rfl rfl (B_cat _ _ (by rw [z4, z4]; decide))) rfl (.cons rfl (.cons rfl .nil)) fun a15 H15 => ?_
  clear H14
  refine h_op (m' := [(17, _), (16, _), (0, _)]) H15 rfl (wn rfl) (R_mv H15 rfl rfl) rfl (.cons rfl (.cons rfl (.cons rfl .nil))) fun a16 H16 => ?_
  clear H15
  refine h_op (m' := [(18, _), (0, _)]) H16 rfl (wn rfl) (R_bin H16 rfl rfl rfl (B_cat _ _ (by rw [ByteArray.size_append, z4, z4]; omega))) rfl (.cons rfl (.cons rfl .nil)) fun a17 H17 => ?_
  clear H16
  refine h_op (m' := [(19, _), (18, _)]) H17 rfl (wn rfl) (R_mv H17 rfl rfl) rfl (.cons rfl (.cons rfl .nil)) fun a18 H18 => ?_
  clear H17
  refine h_call H18 rfl (wn rfl) (R_call1 H18 rfl rfl (fun w => by simp [go_sem])) rfl ?_
  refine (rCrc_any (by omega)).mono ?_
  rintro e wx ⟨rfl, rfl⟩
  refine ⟨_, rfl, fun a19 HH => ?_⟩
  have H19 := HH [(20, _), (18, _)] (.cons rfl (.cons rfl .nil))
  clear HH H18
  refine h_call H19 rfl (wn rfl) (R_call1 H19 rfl rfl (fun w => by simp [go_sem])) rfl ?_
  refine (four_any crcM_lt).mono ?_
  rintro e wx ⟨rfl, hb⟩
  replace hL := hL.call hb
  clear hb
  refine ⟨_, rfl, fun a20 HH => ?_⟩
  have H20 := HH [(21, _), (18, _)] (.cons rfl (.cons rfl .nil))
  clear HH H19
  refine h_op (m' := [(22, _)]) H20 rfl (wn rfl) (R_bin H20 rfl rfl rfl (B_cat _ _ (by rw [ByteArray.size_append, ByteArray.size_append, z4, z4, z4]; omega))) rfl (.cons rfl .nil) fun a21 H21 => ?_
  clear H20
  refine h_op (m' := [(2, _)]) H21 rfl (wn rfl) (R_as H21 rfl rfl) rfl (.cons rfl .nil) fun a22 H22 => ?_
  clear H21
  refine h_op (m' := [(3, _), (2, _)]) H22 rfl (wn rfl) (R_as H22 rfl rfl) rfl (.cons rfl (.cons rfl .nil)) fun a23 H23 => ?_
  clear H22
  refine h_end ?_
  repeat (go_not_at_region 999; go_step)
  exact H23.ret2 rfl rfl rfl ⟨congrArg (fun s => Ending.returned (.tuple #[.string s, .int .i64 0])) hcat, hL.1⟩
end
end Go.Proofs.Ytmmhchpilcjflaa
