/-
  meterref03.Next at a text's beginning, by the document.
-/
import Derived.Test.YtmmhchpilcjflaaMsgWd
import Derived.Test.YtmmhchpilcjflaaMsgWn
import Derived.Test.YtmmhchpilcjflaaFrB
import Derived.Test.YtmmhchpilcjflaaMsgQj
set_option linter.unusedSimpArgs false
set_option linter.unusedVariables false
namespace Go.Proofs.Ytmmhchpilcjflaa
open Go.RowKit
theorem B_nes {X Y : Operand} {w : World} (x y : ByteArray) : ((do eqGuard .neq 9 X Y (.string x) (.string y); binOp .neq 9 (.string x) (.string y)) : Sem Value).run Try.prog w = .ok (.bool (x.toList != y.toList)) w := by simp [go_sem, bne]
theorem sl_from {w : World} (s : ByteArray) : (Instr.sliceAt 9 (.string s) (some (.int .i64 0)) none none).run Try.prog w = .ok (.string s) w := by
  have h : s.extract 0 s.size = s := by simp
  simp [go_sem, h]
theorem Bi_mulK {X Y : Operand} {w : World} (k x : Nat) (h : k * x < 9223372036854775808) : ((do eqGuard .mul 3 X Y (.int .i64 (k : Nat)) (.int .i64 (x : Nat)); binOp .mul 3 (.int .i64 (k : Nat)) (.int .i64 (x : Nat))) : Sem Value).run Try.prog w = .ok (.int .i64 (k * x : Nat)) w := by
  have e : IntKind.i64.wrap ((k : Int) * x) = ((k * x : Nat) : Int) := by
    rw [← Int.natCast_mul]
    exact i64_id (by omega) (by omega)
  simp [go_sem, e]
theorem cv8_int {w : World} (x : Nat) (h : x < 256) : (convert 5 3 (.int .u8 (x : Nat))).run Try.prog w = .ok (.int .i64 (x : Nat)) w := by
  have e : IntKind.i64.wrap (x : Int) = x := i64_id (by omega) (by omega)
  simp [go_sem, e]
/-- Four bytes of a text, and the number that they are. -/
theorem four_slice {s : ByteArray} {n c : Nat} (hn : n + 4 ≤ s.size) (hc : c < 4294967296) : packL (le4 c) = s.extract n (n + 4) ↔ get4 (bytesOf s) n = c := by
  constructor
  · intro h
    have h2 := get4_ext hn
    rw [← h2, ← h, packL_bytes (le4_all _)]
    exact get4_le4 (xs := []) (ys := []) rfl hc
  · intro h
    have hl : bytesOf (s.extract n (n + 4)) = le4 c := by
      rw [ext_bytes]
      have e : ∀ i, i < 4 → (((bytesOf s).drop n).take (n + 4 - n))[i]? = (bytesOf s)[n + i]? := by
        intro i hi
        rw [List.getElem?_take, if_pos (by omega), List.getElem?_drop]
      have g : ∀ i, i < 4 → (bytesOf s)[n + i]? = some ((bytesOf s).getD (n + i) 0) := by
        intro i hi
        rw [List.getD_eq_getElem?_getD, List.getElem?_eq_getElem (by rw [bytes_size]; omega)]
        rfl
      have b0 := byte_lt (s := s) (n := n)
      have b1 := byte_lt (s := s) (n := n + 1)
      have b2 := byte_lt (s := s) (n := n + 2)
      have b3 := byte_lt (s := s) (n := n + 3)
      unfold get4 at h
      refine List.ext_getElem? fun i => ?_
      by_cases hi : i < 4
      · rw [e i hi, g i hi]
        have : i = 0 ∨ i = 1 ∨ i = 2 ∨ i = 3 := by omega
        rcases this with rfl | rfl | rfl | rfl
        · show some _ = some (c % 256)
          congr 1
          rw [Nat.add_zero]
          omega
        · show some _ = some (c / 256 % 256)
          congr 1
          omega
        · show some _ = some (c / 65536 % 256)
          congr 1
          omega
        · show some _ = some (c / 16777216 % 256)
          congr 1
          omega
      · rw [List.getElem?_take, if_neg (by omega), List.getElem?_eq_none (by rw [le4_len]; omega)]
    have := packL_of (s := s.extract n (n + 4))
    rw [← this, hl]
theorem four_ne {s : ByteArray} {n c : Nat} (hn : n + 4 ≤ s.size) (hc : c < 4294967296) : ((packL (le4 c)).toList != (s.extract n (n + 4)).toList) = decide (get4 (bytesOf s) n ≠ c) := by
  have h := four_slice hn hc
  by_cases hg : get4 (bytesOf s) n = c
  · rw [h.2 hg]
    simp [hg]
  · have h2 : ¬ (packL (le4 c)).toList = (s.extract n (n + 4)).toList := fun e => hg (h.1 (u8_list_eq.1 e))
    rw [decide_eq_true hg]
    exact bne_iff_ne.2 h2
section
variable {W : World} {s : ByteArray}
theorem rCrcB (hs : s.size < 140737488351233) : Calls Try.prog 45 #[.string s] W fun e W' => e = .returned (.int .u32 (crcM (bytesOf s) : Nat)) ∧ Below W.heap.size W W' :=
  (rCrc_any hs).mono (by rintro e w ⟨rfl, rfl⟩; exact ⟨rfl, (Live.init _).1⟩)
/-- What meterref03.Next answers. -/
def nextE (s : ByteArray) : Array Value :=
  match nextM s with
  | .ok x => #[.string x.1, .int .i64 (x.2 : Nat), .int .i64 0]
  | .error f => #[.string .empty, .int .i64 0, .int .i64 f]
set_option maxHeartbeats 4000000 in
set_option maxRecDepth 100000 in
theorem rNext_any (hs : s.size < 140737488351233) : Calls Try.prog 25 #[.string s, .int .i64 0] W fun e W' => e = .returned (.tuple (nextE s)) ∧ Below W.heap.size W W' := by
  have hL := Live.init W
  obtain ⟨Y, hY⟩ : ∃ Y, Y = nextE s := ⟨_, rfl⟩
  rw [← hY]
  unfold nextE at hY
  have hr : nextM s = nextM s := rfl
  conv at hr => rhs; unfold nextM
  go_enter Try.func25, Try.ntmps25
  refine wp_fr (n := 74) (m := [(0, _), (1, _)]) ⟨rfl, rfl, by intro p hp; simp only [List.mem_cons, List.not_mem_nil, or_false] at hp; rcases hp with rfl | rfl <;> rfl⟩ fun a0 H0 => ?_
  repeat (go_not_at_region 0; go_step)
  refine wp_region_lit ?_
  refine h_op H0 rfl (wn rfl) (R_as H0 rfl rfl) rfl (P2 0 1 rfl rfl) fun a1 H1 => ?_
  clear H0
  refine h_op H1 rfl (wn rfl) (R_as H1 rfl rfl) rfl (P2 0 1 rfl rfl) fun a2 H2 => ?_
  clear H1
  refine h_op H2 rfl (wn rfl) (R_as H2 rfl rfl) rfl (P2 0 1 rfl rfl) fun a3 H3 => ?_
  clear H2
  refine h_end ?_
  repeat (go_not_at_region 1; go_step)
  refine wp_region_lit ?_
  refine h_op H3 rfl (wn rfl) (R_mv H3 rfl rfl) rfl (P3 9 0 1 rfl rfl rfl) fun a4 H4 => ?_
  clear H3
  refine h_op H4 rfl (wn rfl) (R_bin H4 rfl rfl rfl (B_to (y := false) (B_lt Try.underlying3 _ _) (by decide))) rfl (P3 10 0 1 rfl rfl rfl) fun a5 H5 => ?_
  clear H4
  refine h_op H5 rfl (wn rfl) (R_mv H5 rfl rfl) rfl (P3 11 0 1 rfl rfl rfl) fun a6 H6 => ?_
  clear H5
  refine h_op H6 rfl (H6.wt rfl rfl rfl) (R_mv H6 rfl rfl) rfl (P4 12 11 0 1 rfl rfl rfl rfl) fun a7 H7 => ?_
  clear H6
  refine h_op H7 rfl (H7.wt rfl rfl rfl) (R_mv H7 rfl rfl) rfl (P5 13 12 11 0 1 rfl rfl rfl rfl rfl) fun a8 H8 => ?_
  clear H7
  refine h_op H8 rfl (H8.wt rfl rfl rfl) (R_len H8 rfl rfl Try.underlying9) rfl (P5 14 12 11 0 1 rfl rfl rfl rfl rfl) fun a9 H9 => ?_
  clear H8
  refine h_op H9 rfl (H9.wt rfl rfl rfl) (R_bin H9 rfl rfl rfl (B_to (y := false) (B_gt Try.underlying3 _ _) (decide_eq_false (by omega)))) rfl (P4 15 11 0 1 rfl rfl rfl rfl) fun a10 H10 => ?_
  clear H9
  refine h_op H10 rfl (wn rfl) (R_pick H10 rfl rfl rfl) rfl (P3 16 0 1 rfl rfl rfl) fun a11 H11 => ?_
  clear H10
  refine h_end ?_
  repeat (go_not_at_region 3; go_step)
  refine wp_cond_false (H11.ev (x := .tmp 16) rfl) ?_
  repeat (go_not_at_region 3; go_step)
  refine wp_region_lit ?_
  refine h_op H11 rfl (wn rfl) (R_mv H11 rfl rfl) rfl (P3 17 0 1 rfl rfl rfl) fun a12 H12 => ?_
  clear H11
  refine h_op H12 rfl (wn rfl) (R_mv H12 rfl rfl) rfl (P4 18 17 0 1 rfl rfl rfl rfl) fun a13 H13 => ?_
  clear H12
  refine h_op H13 rfl (wn rfl) (R_sll H13 rfl rfl rfl (sl_from s)) rfl (P3 19 0 1 rfl rfl rfl) fun a14 H14 => ?_
  clear H13
  refine h_op H14 rfl (wn rfl) (R_as H14 rfl rfl) rfl (P2 0 1 rfl rfl) fun a15 H15 => ?_
  clear H14
  refine h_end ?_
  by_cases h8 : s.size < 8
  · rw [if_pos h8] at hr
    repeat (go_not_at_region 4; go_step)
    refine wp_region_lit ?_
    refine h_op H15 rfl (wn rfl) (R_mv H15 rfl rfl) rfl (P1 20 rfl) fun a16 H16 => ?_
    clear H15
    refine h_op H16 rfl (wn rfl) (R_len H16 rfl rfl Try.underlying9) rfl (P1 21 rfl) fun a17 H17 => ?_
    clear H16
    refine h_op H17 rfl (wn rfl) (R_bin H17 rfl rfl rfl (B_to (y := true) (B_lt Try.underlying3 _ _) (decide_eq_true (by omega)))) rfl (P1 22 rfl) fun a18 H18 => ?_
    clear H17
    refine h_end ?_
    repeat (go_not_at_region 5; go_step)
    refine wp_cond_true (H18.ev (x := .tmp 22) rfl) ?_
    repeat (go_not_at_region 5; go_step)
    repeat (go_not_at_region 5; go_step)
    refine wp_region_lit ?_
    refine h_op H18 rfl (wn rfl) (R_as H18 rfl rfl) rfl (P1 4 rfl) fun a19 H19 => ?_
    clear H18
    refine h_op H19 rfl (wn rfl) (R_as H19 rfl rfl) rfl (P2 5 4 rfl rfl) fun a20 H20 => ?_
    clear H19
    refine h_op H20 rfl (wn rfl) (R_as H20 rfl rfl) rfl (P3 6 5 4 rfl rfl rfl) fun a21 H21 => ?_
    clear H20
    refine h_end ?_
    repeat (go_not_at_region 999; go_step)
    refine H21.ret3 rfl rfl rfl rfl ⟨?_, hL.1⟩
    rw [hr] at hY
    rw [hY]
    rfl
  rw [if_neg h8] at hr
  repeat (go_not_at_region 4; go_step)
  refine wp_region_lit ?_
  refine h_op H15 rfl (wn rfl) (R_mv H15 rfl rfl) rfl (P3 20 0 1 rfl rfl rfl) fun a16 H16 => ?_
  clear H15
  refine h_op H16 rfl (wn rfl) (R_len H16 rfl rfl Try.underlying9) rfl (P3 21 0 1 rfl rfl rfl) fun a17 H17 => ?_
  clear H16
  refine h_op H17 rfl (wn rfl) (R_bin H17 rfl rfl rfl (B_to (y := false) (B_lt Try.underlying3 _ _) (decide_eq_false (by omega)))) rfl (P3 22 0 1 rfl rfl rfl) fun a18 H18 => ?_
  clear H17
  refine h_end ?_
  repeat (go_not_at_region 6; go_step)
  refine wp_cond_false (H18.ev (x := .tmp 22) rfl) ?_
  repeat (go_not_at_region 6; go_step)
  have hx1 : (s.extract 0 4).size < 140737488351233 := by rw [ByteArray.size_extract]; omega
  have hf1 := four_ne (s := s) (n := 4) (c := crcM (bytesOf (s.extract 0 4))) (by omega) crcM_lt
  obtain ⟨t1, ht1⟩ : ∃ t, t = decide (get4 (bytesOf s) 4 ≠ crcM (bytesOf (s.extract 0 4))) := ⟨_, rfl⟩
  rw [← ht1] at hf1
  refine wp_region_held_drew (S := fun w' => Live W [] w') (by kernel_rfl) hL.drew (fun hL' => ?_)
  replace hL := hL'
  clear hL'
  refine a_op 0 H18 rfl rfl (by kernel_rfl) (by kernel_rfl) (by kernel_rfl) (fun _ _ _ h => h) (wn rfl) (fun w hL => R_mv H18 rfl rfl) hL rfl (P3 23 0 1 rfl rfl rfl) fun a19 H19 => ?_
  clear H18
  refine a_op 4 H19 rfl rfl (by kernel_rfl) (by kernel_rfl) (by kernel_rfl) (fun _ _ _ h => h) (wn rfl) (fun w hL => R_mv H19 rfl rfl) hL rfl (P4 27 23 0 1 rfl rfl rfl rfl) fun a20 H20 => ?_
  clear H19
  refine a_op 1 H20 rfl rfl (by kernel_rfl) (by kernel_rfl) (by kernel_rfl) (fun _ _ _ h => h) (wn rfl) (fun w hL => R_slh H20 rfl rfl rfl (sl_hi s 4 (by omega))) hL rfl (P4 24 27 0 1 rfl rfl rfl rfl) fun a21 H21 => ?_
  clear H20
  refine a_op 5 H21 rfl rfl (by kernel_rfl) (by kernel_rfl) (by kernel_rfl) (fun _ _ _ h => h) (wn rfl) (fun w hL => R_slb H21 rfl rfl rfl rfl (sl_both s 4 8 (by omega) (by omega))) hL rfl (P4 28 24 0 1 rfl rfl rfl rfl) fun a22 H22 => ?_
  clear H21
  refine a_all1 2 (by kernel_rfl) ?_
  refine o_callB 2 H22 rfl rfl (wn rfl) (R_call1 H22 rfl rfl (fun w => by simp [go_sem])) rfl hL (rCrcB hx1) (P4 25 28 0 1 rfl rfl rfl rfl) fun a23 w23 H23 hL' => ⟨hL', ?_⟩
  replace hL := hL'
  clear H22 hL'
  refine a_all1 3 (by kernel_rfl) ?_
  refine o_callB 3 H23 rfl rfl (wn rfl) (R_call1 H23 rfl rfl (fun w => by simp [go_sem])) rfl hL (four_any crcM_lt) (P4 26 28 0 1 rfl rfl rfl rfl) fun a24 w24 H24 hL' => ⟨hL', ?_⟩
  replace hL := hL'
  clear H23 hL'
  refine a_op 6 H24 rfl rfl (by kernel_rfl) (by kernel_rfl) (by kernel_rfl) (fun _ _ _ h => h) (wn rfl) (fun w hL => R_bin H24 rfl rfl rfl (B_to (B_nes _ _) hf1)) hL rfl (P3 29 0 1 rfl rfl rfl) fun a25 H25 => ?_
  clear H24
  refine wpAnyH_done (by kernel_rfl) ?_ _
  replace H25 := H25.pick [(29, _), (0, _), (1, _)] (P3 29 0 1 rfl rfl rfl)
  by_cases hg1 : get4 (bytesOf s) 4 ≠ crcM (bytesOf (s.extract 0 4))
  · rw [if_pos hg1] at hr
    rw [decide_eq_true hg1] at ht1
    subst ht1
    repeat (go_not_at_region 7; go_step)
    refine wp_cond_true (H25.ev (x := .tmp 29) rfl) ?_
    repeat (go_not_at_region 7; go_step)
    repeat (go_not_at_region 7; go_step)
    refine wp_region_lit ?_
    refine h_op H25 rfl (wn rfl) (R_as H25 rfl rfl) rfl (P1 4 rfl) fun a26 H26 => ?_
    clear H25
    refine h_op H26 rfl (wn rfl) (R_as H26 rfl rfl) rfl (P2 5 4 rfl rfl) fun a27 H27 => ?_
    clear H26
    refine h_op H27 rfl (wn rfl) (R_as H27 rfl rfl) rfl (P3 6 5 4 rfl rfl rfl) fun a28 H28 => ?_
    clear H27
    refine h_end ?_
    repeat (go_not_at_region 999; go_step)
    refine H28.ret3 rfl rfl rfl rfl ⟨?_, hL.1⟩
    rw [hr] at hY
    rw [hY]
    rfl
  rw [if_neg hg1] at hr
  rw [decide_eq_false hg1] at ht1
  subst ht1
  repeat (go_not_at_region 8; go_step)
  refine wp_cond_false (H25.ev (x := .tmp 29) rfl) ?_
  repeat (go_not_at_region 8; go_step)
  clear hg1 hf1
  have hb0 : (s[0]'(by omega)).toNat < 256 := UInt8.toNat_lt _
  have hb1 : (s[1]'(by omega)).toNat < 256 := UInt8.toNat_lt _
  have hb2 : (s[2]'(by omega)).toNat < 256 := UInt8.toNat_lt _
  have hb3 : (s[3]'(by omega)).toNat < 256 := UInt8.toNat_lt _
  have hz : (s[0]'(by omega)).toNat + 256 * (s[1]'(by omega)).toNat + 65536 * (s[2]'(by omega)).toNat + 16777216 * (s[3]'(by omega)).toNat = get4 (bytesOf s) 0 := by
    unfold get4
    rw [byte_at, byte_at, byte_at, byte_at]
  have hi0 : ∀ w : World, (Instr.index 9 (.string s) (.int .i64 0)).run Try.prog w = .ok (.int .u8 (((s[0]'(by omega)).toNat : Nat) : Int)) w := fun w => ix_str (j := 0) (show 0 < s.size by omega)
  have hi1 : ∀ w : World, (Instr.index 9 (.string s) (.int .i64 1)).run Try.prog w = .ok (.int .u8 (((s[1]'(by omega)).toNat : Nat) : Int)) w := fun w => ix_str (j := 1) (show 1 < s.size by omega)
  have hi2 : ∀ w : World, (Instr.index 9 (.string s) (.int .i64 2)).run Try.prog w = .ok (.int .u8 (((s[2]'(by omega)).toNat : Nat) : Int)) w := fun w => ix_str (j := 2) (show 2 < s.size by omega)
  have hi3 : ∀ w : World, (Instr.index 9 (.string s) (.int .i64 3)).run Try.prog w = .ok (.int .u8 (((s[3]'(by omega)).toNat : Nat) : Int)) w := fun w => ix_str (j := 3) (show 3 < s.size by omega)
  generalize (s[0]'(by omega)).toNat = x0 at hb0 hz hi0
  generalize (s[1]'(by omega)).toNat = x1 at hb1 hz hi1
  generalize (s[2]'(by omega)).toNat = x2 at hb2 hz hi2
  generalize (s[3]'(by omega)).toNat = x3 at hb3 hz hi3
  refine wp_region_held_drew (S := fun w' => Live W [] w') (by kernel_rfl) hL.drew (fun hL' => ?_)
  replace hL := hL'
  clear hL'
  refine a_op 0 H25 rfl rfl (by kernel_rfl) (by kernel_rfl) (by kernel_rfl) (fun _ _ _ h => h) (wn rfl) (fun w hL => R_mv H25 rfl rfl) hL rfl (P3 30 0 1 rfl rfl rfl) fun a26 H26 => ?_
  clear H25
  refine a_op 3 H26 rfl rfl (by kernel_rfl) (by kernel_rfl) (by kernel_rfl) (fun _ _ _ h => h) (wn rfl) (fun w hL => R_mv H26 rfl rfl) hL rfl (P4 33 30 0 1 rfl rfl rfl rfl) fun a27 H27 => ?_
  clear H26
  refine a_op 8 H27 rfl rfl (by kernel_rfl) (by kernel_rfl) (by kernel_rfl) (fun _ _ _ h => h) (wn rfl) (fun w hL => R_mv H27 rfl rfl) hL rfl (P5 38 33 30 0 1 rfl rfl rfl rfl rfl) fun a28 H28 => ?_
  clear H27
  refine a_op 13 H28 rfl rfl (by kernel_rfl) (by kernel_rfl) (by kernel_rfl) (fun _ _ _ h => h) (wn rfl) (fun w hL => R_mv H28 rfl rfl) hL rfl (P6 43 38 33 30 0 1 rfl rfl rfl rfl rfl rfl) fun a29 H29 => ?_
  clear H28
  refine a_op 1 H29 rfl rfl (by kernel_rfl) (by kernel_rfl) (by kernel_rfl) (fun _ _ _ h => h) (wn rfl) (fun w hL => R_ix H29 rfl rfl rfl (hi0 _)) hL rfl (P6 31 43 38 33 0 1 rfl rfl rfl rfl rfl rfl) fun a30 H30 => ?_
  clear H29
  refine a_op 4 H30 rfl rfl (by kernel_rfl) (by kernel_rfl) (by kernel_rfl) (fun _ _ _ h => h) (wn rfl) (fun w hL => R_ix H30 rfl rfl rfl (hi1 _)) hL rfl (P6 34 31 43 38 0 1 rfl rfl rfl rfl rfl rfl) fun a31 H31 => ?_
  clear H30
  refine a_op 9 H31 rfl rfl (by kernel_rfl) (by kernel_rfl) (by kernel_rfl) (fun _ _ _ h => h) (wn rfl) (fun w hL => R_ix H31 rfl rfl rfl (hi2 _)) hL rfl (P6 39 34 31 43 0 1 rfl rfl rfl rfl rfl rfl) fun a32 H32 => ?_
  clear H31
  refine a_op 14 H32 rfl rfl (by kernel_rfl) (by kernel_rfl) (by kernel_rfl) (fun _ _ _ h => h) (wn rfl) (fun w hL => R_ix H32 rfl rfl rfl (hi3 _)) hL rfl (P6 44 39 34 31 0 1 rfl rfl rfl rfl rfl rfl) fun a33 H33 => ?_
  clear H32
  refine a_op 2 H33 rfl rfl (by kernel_rfl) (by kernel_rfl) (by kernel_rfl) (fun _ _ _ h => h) (wn rfl) (fun w hL => R_cv H33 rfl rfl (cv8_int x0 hb0)) hL rfl (P6 32 44 39 34 0 1 rfl rfl rfl rfl rfl rfl) fun a34 H34 => ?_
  clear H33
  refine a_op 5 H34 rfl rfl (by kernel_rfl) (by kernel_rfl) (by kernel_rfl) (fun _ _ _ h => h) (wn rfl) (fun w hL => R_cv H34 rfl rfl (cv8_int x1 hb1)) hL rfl (P6 35 32 44 39 0 1 rfl rfl rfl rfl rfl rfl) fun a35 H35 => ?_
  clear H34
  refine a_op 10 H35 rfl rfl (by kernel_rfl) (by kernel_rfl) (by kernel_rfl) (fun _ _ _ h => h) (wn rfl) (fun w hL => R_cv H35 rfl rfl (cv8_int x2 hb2)) hL rfl (P6 40 35 32 44 0 1 rfl rfl rfl rfl rfl rfl) fun a36 H36 => ?_
  clear H35
  refine a_op 15 H36 rfl rfl (by kernel_rfl) (by kernel_rfl) (by kernel_rfl) (fun _ _ _ h => h) (wn rfl) (fun w hL => R_cv H36 rfl rfl (cv8_int x3 hb3)) hL rfl (P6 45 40 35 32 0 1 rfl rfl rfl rfl rfl rfl) fun a37 H37 => ?_
  clear H36
  refine a_op 6 H37 rfl rfl (by kernel_rfl) (by kernel_rfl) (by kernel_rfl) (fun _ _ _ h => h) (wn rfl) (fun w hL => R_bin H37 rfl rfl rfl (Bi_mulK 256 x1 (by omega))) hL rfl (P6 36 45 40 32 0 1 rfl rfl rfl rfl rfl rfl) fun a38 H38 => ?_
  clear H37
  refine a_op 11 H38 rfl rfl (by kernel_rfl) (by kernel_rfl) (by kernel_rfl) (fun _ _ _ h => h) (wn rfl) (fun w hL => R_bin H38 rfl rfl rfl (Bi_mulK 65536 x2 (by omega))) hL rfl (P6 41 36 45 32 0 1 rfl rfl rfl rfl rfl rfl) fun a39 H39 => ?_
  clear H38
  refine a_op 16 H39 rfl rfl (by kernel_rfl) (by kernel_rfl) (by kernel_rfl) (fun _ _ _ h => h) (wn rfl) (fun w hL => R_bin H39 rfl rfl rfl (Bi_mulK 16777216 x3 (by omega))) hL rfl (P6 46 41 36 32 0 1 rfl rfl rfl rfl rfl rfl) fun a40 H40 => ?_
  clear H39
  refine a_op 7 H40 rfl rfl (by kernel_rfl) (by kernel_rfl) (by kernel_rfl) (fun _ _ _ h => h) (wn rfl) (fun w hL => R_bin H40 rfl rfl rfl (Bi_addB x0 (256 * x1) (by omega))) hL rfl (P5 37 46 41 0 1 rfl rfl rfl rfl rfl) fun a41 H41 => ?_
  clear H40
  refine a_op 12 H41 rfl rfl (by kernel_rfl) (by kernel_rfl) (by kernel_rfl) (fun _ _ _ h => h) (wn rfl) (fun w hL => R_bin H41 rfl rfl rfl (Bi_addB (x0 + 256 * x1) (65536 * x2) (by omega))) hL rfl (P4 42 46 0 1 rfl rfl rfl rfl) fun a42 H42 => ?_
  clear H41
  refine a_op 17 H42 rfl rfl (by kernel_rfl) (by kernel_rfl) (by kernel_rfl) (fun _ _ _ h => h) (wn rfl) (fun w hL => R_bin H42 rfl rfl rfl (Bi_addB (x0 + 256 * x1 + 65536 * x2) (16777216 * x3) (by omega))) hL rfl (P3 47 0 1 rfl rfl rfl) fun a43 H43 => ?_
  clear H42
  refine a_op 18 H43 rfl rfl (by kernel_rfl) (by kernel_rfl) (by kernel_rfl) (fun _ _ _ h => h) (wn rfl) (fun w hL => R_as H43 rfl rfl) hL rfl (P3 7 0 1 rfl rfl rfl) fun a44 H44 => ?_
  clear H43
  refine wpAnyH_done (by kernel_rfl) ?_ _
  replace H44 := H44.pick [(7, _), (0, _), (1, _)] (P3 7 0 1 rfl rfl rfl)
  rw [hz] at H44
  generalize get4 (bytesOf s) 0 = z at *
  clear hz hi0 hi1 hi2 hi3 hb0 hb1 hb2 hb3
  by_cases hbig : 16384 < z
  · rw [if_pos hbig] at hr
    repeat (go_not_at_region 9; go_step)
    refine wp_region_lit ?_
    refine h_op H44 rfl (wn rfl) (R_mv H44 rfl rfl) rfl (P1 48 rfl) fun a45 H45 => ?_
    clear H44
    refine h_op H45 rfl (wn rfl) (R_bin H45 rfl rfl rfl (B_to (y := true) (B_gt Try.underlying3 _ _) (decide_eq_true (by omega)))) rfl (P1 49 rfl) fun a46 H46 => ?_
    clear H45
    refine h_end ?_
    repeat (go_not_at_region 10; go_step)
    refine wp_cond_true (H46.ev (x := .tmp 49) rfl) ?_
    repeat (go_not_at_region 10; go_step)
    repeat (go_not_at_region 10; go_step)
    refine wp_region_lit ?_
    refine h_op H46 rfl (wn rfl) (R_as H46 rfl rfl) rfl (P1 4 rfl) fun a47 H47 => ?_
    clear H46
    refine h_op H47 rfl (wn rfl) (R_as H47 rfl rfl) rfl (P2 5 4 rfl rfl) fun a48 H48 => ?_
    clear H47
    refine h_op H48 rfl (wn rfl) (R_as H48 rfl rfl) rfl (P3 6 5 4 rfl rfl rfl) fun a49 H49 => ?_
    clear H48
    refine h_end ?_
    repeat (go_not_at_region 999; go_step)
    refine H49.ret3 rfl rfl rfl rfl ⟨?_, hL.1⟩
    rw [hr] at hY
    rw [hY]
    rfl
  rw [if_neg hbig] at hr
  repeat (go_not_at_region 9; go_step)
  refine wp_region_lit ?_
  refine h_op H44 rfl (wn rfl) (R_mv H44 rfl rfl) rfl (P4 48 7 0 1 rfl rfl rfl rfl) fun a45 H45 => ?_
  clear H44
  refine h_op H45 rfl (wn rfl) (R_bin H45 rfl rfl rfl (B_to (y := false) (B_gt Try.underlying3 _ _) (decide_eq_false (by omega)))) rfl (P4 49 7 0 1 rfl rfl rfl rfl) fun a46 H46 => ?_
  clear H45
  refine h_end ?_
  repeat (go_not_at_region 11; go_step)
  refine wp_cond_false (H46.ev (x := .tmp 49) rfl) ?_
  by_cases hsh : s.size < z + 12
  · rw [if_pos hsh] at hr
    repeat (go_not_at_region 11; go_step)
    refine wp_region_lit ?_
    refine h_op H46 rfl (wn rfl) (R_mv H46 rfl rfl) rfl (P2 50 7 rfl rfl) fun a47 H47 => ?_
    clear H46
    refine h_op H47 rfl (wn rfl) (R_len H47 rfl rfl Try.underlying9) rfl (P2 51 7 rfl rfl) fun a48 H48 => ?_
    clear H47
    refine h_op H48 rfl (wn rfl) (R_mv H48 rfl rfl) rfl (P2 52 51 rfl rfl) fun a49 H49 => ?_
    clear H48
    refine h_op H49 rfl (wn rfl) (R_bin H49 rfl rfl rfl (Bi_addB z 12 (by omega))) rfl (P2 53 51 rfl rfl) fun a50 H50 => ?_
    clear H49
    refine h_op H50 rfl (wn rfl) (R_bin H50 rfl rfl rfl (B_to (y := true) (B_lt Try.underlying3 _ _) (decide_eq_true (by omega)))) rfl (P1 54 rfl) fun a51 H51 => ?_
    clear H50
    refine h_end ?_
    repeat (go_not_at_region 12; go_step)
    refine wp_cond_true (H51.ev (x := .tmp 54) rfl) ?_
    repeat (go_not_at_region 12; go_step)
    repeat (go_not_at_region 12; go_step)
    refine wp_region_lit ?_
    refine h_op H51 rfl (wn rfl) (R_as H51 rfl rfl) rfl (P1 4 rfl) fun a52 H52 => ?_
    clear H51
    refine h_op H52 rfl (wn rfl) (R_as H52 rfl rfl) rfl (P2 5 4 rfl rfl) fun a53 H53 => ?_
    clear H52
    refine h_op H53 rfl (wn rfl) (R_as H53 rfl rfl) rfl (P3 6 5 4 rfl rfl rfl) fun a54 H54 => ?_
    clear H53
    refine h_end ?_
    repeat (go_not_at_region 999; go_step)
    refine H54.ret3 rfl rfl rfl rfl ⟨?_, hL.1⟩
    rw [hr] at hY
    rw [hY]
    rfl
  rw [if_neg hsh] at hr
  repeat (go_not_at_region 11; go_step)
  refine wp_region_lit ?_
  refine h_op H46 rfl (wn rfl) (R_mv H46 rfl rfl) rfl (P4 50 7 0 1 rfl rfl rfl rfl) fun a47 H47 => ?_
  clear H46
  refine h_op H47 rfl (wn rfl) (R_len H47 rfl rfl Try.underlying9) rfl (P4 51 7 0 1 rfl rfl rfl rfl) fun a48 H48 => ?_
  clear H47
  refine h_op H48 rfl (wn rfl) (R_mv H48 rfl rfl) rfl (P5 52 51 7 0 1 rfl rfl rfl rfl rfl) fun a49 H49 => ?_
  clear H48
  refine h_op H49 rfl (wn rfl) (R_bin H49 rfl rfl rfl (Bi_addB z 12 (by omega))) rfl (P5 53 51 7 0 1 rfl rfl rfl rfl rfl) fun a50 H50 => ?_
  clear H49
  refine h_op H50 rfl (wn rfl) (R_bin H50 rfl rfl rfl (B_to (y := false) (B_lt Try.underlying3 _ _) (decide_eq_false (by omega)))) rfl (P4 54 7 0 1 rfl rfl rfl rfl) fun a51 H51 => ?_
  clear H50
  refine h_end ?_
  repeat (go_not_at_region 13; go_step)
  refine wp_cond_false (H51.ev (x := .tmp 54) rfl) ?_
  repeat (go_not_at_region 13; go_step)
  refine wp_region_lit ?_
  refine h_op H51 rfl (wn rfl) (R_mv H51 rfl rfl) rfl (P4 55 7 0 1 rfl rfl rfl rfl) fun a52 H52 => ?_
  clear H51
  refine h_op H52 rfl (wn rfl) (R_mv H52 rfl rfl) rfl (P5 56 55 7 0 1 rfl rfl rfl rfl rfl) fun a53 H53 => ?_
  clear H52
  refine h_op H53 rfl (wn rfl) (R_bin H53 rfl rfl rfl (Bi_addB 8 z (by omega))) rfl (P5 57 55 7 0 1 rfl rfl rfl rfl rfl) fun a54 H54 => ?_
  clear H53
  refine h_op H54 rfl (wn rfl) (R_slb H54 rfl rfl rfl rfl (sl_both s 8 (8 + z) (by omega) (by omega))) rfl (P4 58 7 0 1 rfl rfl rfl rfl) fun a55 H55 => ?_
  clear H54
  refine h_op H55 rfl (wn rfl) (R_as H55 rfl rfl) rfl (P4 8 7 0 1 rfl rfl rfl rfl) fun a56 H56 => ?_
  clear H55
  refine h_end ?_
  repeat (go_not_at_region 14; go_step)
  have hx2 : (s.extract 8 (8 + z)).size < 140737488351233 := by rw [ByteArray.size_extract]; omega
  have hf2 := four_ne (s := s) (n := 8 + z) (c := crcM (bytesOf (s.extract 8 (8 + z)))) (by omega) crcM_lt
  obtain ⟨t2, ht2⟩ : ∃ t, t = decide (get4 (bytesOf s) (8 + z) ≠ crcM (bytesOf (s.extract 8 (8 + z)))) := ⟨_, rfl⟩
  rw [← ht2, show 8 + z + 4 = 12 + z by omega] at hf2
  refine wp_region_held_drew (S := fun w' => Live W [] w') (by kernel_rfl) hL.drew (fun hL' => ?_)
  replace hL := hL'
  clear hL'
  refine a_op 0 H56 rfl rfl (by kernel_rfl) (by kernel_rfl) (by kernel_rfl) (fun _ _ _ h => h) (wn rfl) (fun w hL => R_mv H56 rfl rfl) hL rfl (P5 59 8 7 0 1 rfl rfl rfl rfl rfl) fun a57 H57 => ?_
  clear H56
  refine a_op 3 H57 rfl rfl (by kernel_rfl) (by kernel_rfl) (by kernel_rfl) (fun _ _ _ h => h) (wn rfl) (fun w hL => R_mv H57 rfl rfl) hL rfl (P6 62 59 8 7 0 1 rfl rfl rfl rfl rfl rfl) fun a58 H58 => ?_
  clear H57
  refine a_op 4 H58 rfl rfl (by kernel_rfl) (by kernel_rfl) (by kernel_rfl) (fun _ _ _ h => h) (wn rfl) (fun w hL => R_mv H58 rfl rfl) hL rfl (P7 63 62 59 8 7 0 1 rfl rfl rfl rfl rfl rfl rfl) fun a59 H59 => ?_
  clear H58
  refine a_op 6 H59 rfl rfl (by kernel_rfl) (by kernel_rfl) (by kernel_rfl) (fun _ _ _ h => h) (wn rfl) (fun w hL => R_mv H59 rfl rfl) hL rfl (P8 65 63 62 59 8 7 0 1 rfl rfl rfl rfl rfl rfl rfl rfl) fun a60 H60 => ?_
  clear H59
  refine a_op 5 H60 rfl rfl (by kernel_rfl) (by kernel_rfl) (by kernel_rfl) (fun _ _ _ h => h) (wn rfl) (fun w hL => R_bin H60 rfl rfl rfl (Bi_addB 8 z (by omega))) hL rfl (P8 64 65 62 59 8 7 0 1 rfl rfl rfl rfl rfl rfl rfl rfl) fun a61 H61 => ?_
  clear H60
  refine a_op 7 H61 rfl rfl (by kernel_rfl) (by kernel_rfl) (by kernel_rfl) (fun _ _ _ h => h) (wn rfl) (fun w hL => R_bin H61 rfl rfl rfl (Bi_addB 12 z (by omega))) hL rfl (P8 66 64 62 59 8 7 0 1 rfl rfl rfl rfl rfl rfl rfl rfl) fun a62 H62 => ?_
  clear H61
  refine a_op 8 H62 rfl rfl (by kernel_rfl) (by kernel_rfl) (by kernel_rfl) (fun _ _ _ h => h) (wn rfl) (fun w hL => R_slb H62 rfl rfl rfl rfl (sl_both s (8 + z) (12 + z) (by omega) (by omega))) hL rfl (P6 67 59 8 7 0 1 rfl rfl rfl rfl rfl rfl) fun a63 H63 => ?_
  clear H62
  refine a_all1 1 (by kernel_rfl) ?_
  refine o_callB 1 H63 rfl rfl (wn rfl) (R_call1 H63 rfl rfl (fun w => by simp [go_sem])) rfl hL (rCrcB hx2) (P6 60 67 8 7 0 1 rfl rfl rfl rfl rfl rfl) fun a64 w64 H64 hL' => ⟨hL', ?_⟩
  replace hL := hL'
  clear H63 hL'
  refine a_all1 2 (by kernel_rfl) ?_
  refine o_callB 2 H64 rfl rfl (wn rfl) (R_call1 H64 rfl rfl (fun w => by simp [go_sem])) rfl hL (four_any crcM_lt) (P6 61 67 8 7 0 1 rfl rfl rfl rfl rfl rfl) fun a65 w65 H65 hL' => ⟨hL', ?_⟩
  replace hL := hL'
  clear H64 hL'
  refine a_op 9 H65 rfl rfl (by kernel_rfl) (by kernel_rfl) (by kernel_rfl) (fun _ _ _ h => h) (wn rfl) (fun w hL => R_bin H65 rfl rfl rfl (B_to (B_nes _ _) hf2)) hL rfl (P5 68 8 7 0 1 rfl rfl rfl rfl rfl) fun a66 H66 => ?_
  clear H65
  refine wpAnyH_done (by kernel_rfl) ?_ _
  replace H66 := H66.pick [(68, _), (8, _), (7, _), (1, _)] (P4 68 8 7 1 rfl rfl rfl rfl)
  by_cases hg2 : get4 (bytesOf s) (8 + z) ≠ crcM (bytesOf (s.extract 8 (8 + z)))
  · rw [if_pos hg2] at hr
    rw [decide_eq_true hg2] at ht2
    subst ht2
    repeat (go_not_at_region 15; go_step)
    refine wp_cond_true (H66.ev (x := .tmp 68) rfl) ?_
    repeat (go_not_at_region 15; go_step)
    repeat (go_not_at_region 15; go_step)
    refine wp_region_lit ?_
    refine h_op H66 rfl (wn rfl) (R_as H66 rfl rfl) rfl (P1 4 rfl) fun a67 H67 => ?_
    clear H66
    refine h_op H67 rfl (wn rfl) (R_as H67 rfl rfl) rfl (P2 5 4 rfl rfl) fun a68 H68 => ?_
    clear H67
    refine h_op H68 rfl (wn rfl) (R_as H68 rfl rfl) rfl (P3 6 5 4 rfl rfl rfl) fun a69 H69 => ?_
    clear H68
    refine h_end ?_
    repeat (go_not_at_region 999; go_step)
    refine H69.ret3 rfl rfl rfl rfl ⟨?_, hL.1⟩
    rw [hr] at hY
    rw [hY]
    rfl
  rw [if_neg hg2] at hr
  rw [decide_eq_false hg2] at ht2
  subst ht2
  repeat (go_not_at_region 16; go_step)
  refine wp_cond_false (H66.ev (x := .tmp 68) rfl) ?_
  repeat (go_not_at_region 16; go_step)
  refine wp_region_lit ?_
  refine h_op H66 rfl (wn rfl) (R_mv H66 rfl rfl) rfl (P3 69 7 1 rfl rfl rfl) fun a67 H67 => ?_
  clear H66
  refine h_op H67 rfl (wn rfl) (R_mv H67 rfl rfl) rfl (P3 70 69 7 rfl rfl rfl) fun a68 H68 => ?_
  clear H67
  refine h_op H68 rfl (wn rfl) (R_bin H68 rfl rfl rfl (Bi_addB 0 12 (by omega))) rfl (P3 71 69 7 rfl rfl rfl) fun a69 H69 => ?_
  clear H68
  refine h_op H69 rfl (wn rfl) (R_mv H69 rfl rfl) rfl (P3 72 71 69 rfl rfl rfl) fun a70 H70 => ?_
  clear H69
  refine h_op H70 rfl (wn rfl) (R_bin H70 rfl rfl rfl (Bi_addB (0 + 12) z (by omega))) rfl (P2 73 69 rfl rfl) fun a71 H71 => ?_
  clear H70
  refine h_op H71 rfl (wn rfl) (R_as H71 rfl rfl) rfl (P2 4 73 rfl rfl) fun a72 H72 => ?_
  clear H71
  refine h_op H72 rfl (wn rfl) (R_as H72 rfl rfl) rfl (P2 5 4 rfl rfl) fun a73 H73 => ?_
  clear H72
  refine h_op H73 rfl (wn rfl) (R_as H73 rfl rfl) rfl (P3 6 5 4 rfl rfl rfl) fun a74 H74 => ?_
  clear H73
  refine h_end ?_
  repeat (go_not_at_region 999; go_step)
  refine H74.ret3 rfl rfl rfl rfl ⟨?_, hL.1⟩
  rw [hr] at hY
  rw [hY]
  show _ = Ending.returned (.tuple #[_, .int .i64 ((8 + z + 4 : Nat) : Int), _])
  rw [show 8 + z + 4 = 0 + 12 + z by omega]
end
end Go.Proofs.Ytmmhchpilcjflaa
