/-
  frame.Next at a text's beginning; frame.Whole.
-/
import Derived.Test.YthkeiclhllikjaaGreatFrA
import Derived.Test.YthkeiclhllikjaaGreatMsgQa
import Derived.Test.YthkeiclhllikjaaGreatMsgWk
import Derived.Laws.DeepStrings4
import Derived.Deep.Cut
import Derived.Test.YthkeiclhllikjaaGreatMsgEm
set_option linter.unusedSimpArgs false
set_option linter.unusedVariables false
namespace Go.Proofs.YthkeiclhllikjaaGreat
open Go.RowKit
def nextM (s : ByteArray) : Except Int (ByteArray × Nat) :=
 if s.size < 8 then .error 7
 else if get4 (bytesOf s) 4 ≠ crcM (bytesOf (s.extract 0 4)) then .error 9
 else if 16384 < get4 (bytesOf s) 0 then .error 3
 else if s.size < get4 (bytesOf s) 0 + 12 then .error 7
 else if get4 (bytesOf s) (8 + get4 (bytesOf s) 0) ≠ crcM (bytesOf (s.extract 8 (8 + get4 (bytesOf s) 0))) then .error 9
 else .ok (s.extract 8 (8 + get4 (bytesOf s) 0), 8 + get4 (bytesOf s) 0 + 4)
section
variable {w0 W : World} {L : List Blk} {s : ByteArray}
set_option maxHeartbeats 4000000 in
set_option maxRecDepth 100000 in
theorem Next_any (hs : s.size < 140737488351233) (hL : Live w0 L W) :
  Calls Tryz.prog 86 #[.string s, .int .i64 0] W fun e W' => Said (nextM s) (fun x => e = .returned (.tuple #[.string x.1, .int .i64 (x.2 : Nat), .int .i64 0]) ∧ Live w0 L W') (fun f => e = .returned (.tuple #[.string .empty, .int .i64 0, .int .i64 f]) ∧ Live w0 L W') := by
 obtain ⟨r, hr⟩ : ∃ r, r = nextM s := ⟨_, rfl⟩
 rw [← hr]
 unfold nextM at hr
 obtain ⟨z, hz⟩ : ∃ z, z = s.size := ⟨_, rfl⟩
 have a1 : decide ((s.size : Int) < 0) = false := decide_eq_false (by omega)
 have a2 : decide ((0 : Int) > s.size) = false := decide_eq_false (by omega)
 by_cases h8 : s.size < 8
 ·rw [if_pos h8] at hr
  have b1 : decide ((s.size : Int) < 8) = true := decide_eq_true (by omega)
  have Hr := Lib.hid hr
  clear hr h8
  go_enter Tryz.func86, Tryz.ntmps86
  go_wp2
  refine bodyPost_ret (v := .tuple #[.string .empty, .int .i64 0, .int .i64 7]) (by simp [results, Tryz.results86, go_sem] <;> rfl) rfl ?_
  rw [Hr.out]
  exact ⟨rfl, hL⟩
 ·rw [if_neg h8] at hr
  have b1 : decide ((s.size : Int) < 8) = false := decide_eq_false (by omega)
  have hg := get_any (s := s) (n := 4) (W := W) (by omega) hs
  have hget : ∀ w, Calls Tryz.prog 114 #[.string s, .int .i64 4] w fun e W' => e = .returned (.int .u32 (get4 (bytesOf s) 4 : Nat)) ∧ w = W' := fun w => get_any (s := s) (n := 4) (by omega) hs
  have hget0 : ∀ w, Calls Tryz.prog 114 #[.string s, .int .i64 0] w fun e W' => e = .returned (.int .u32 (get4 (bytesOf s) 0 : Nat)) ∧ w = W' := fun w => get_any (s := s) (n := 0) (by omega) hs
  have hsl := slice_str (s := s) (n := 0) (m := 4) (i := 0) (j := 4) rfl rfl (by omega) (by omega)
  have hcrc : ∀ {w : World}, Live w0 L w → Calls Tryz.prog 85 #[.string (s.extract 0 4)] w fun x W' => x = .returned (.int .u32 (crcM (bytesOf (s.extract 0 4)) : Nat)) ∧ Live w0 L W' := fun h => crc_any (by rw [ByteArray.size_extract]; omega) h
  obtain ⟨c1, hc1⟩ : ∃ c, c = crcM (bytesOf (s.extract 0 4)) := ⟨_, rfl⟩
  obtain ⟨g1, hg1⟩ : ∃ c, c = get4 (bytesOf s) 4 := ⟨_, rfl⟩
  rw [← hc1] at hcrc hr
  rw [← hg1] at hget hr
  have Hs := Lib.hid hs
  have H8 := Lib.hid h8
  have Hr := Lib.hid hr
  have hLd := hL.drew
  clear hr h8 hc1 hg1 hg
  go_enter Tryz.func86, Tryz.ntmps86
  go_upto_region 5 with fail
  refine wp_region_held_drew (S := fun w' => Live w0 L w') (by kernel_rfl) hLd (fun hHeld => ?_)
  refine take_at (i := 0) (v := ?_) rfl rfl (by kernel_rfl) (by kernel_rfl) (by kernel_rfl) (fun _ _ _ h => h) (Or.inl ⟨by rfl, ?_⟩) (by assumption) ?_
  rotate_left; (intro w hSw; (try dsimp only at hSw); go_simp; try with_reducible rfl)
  simp only [Act.put, List.setIfInBounds_toArray, List.set_cons_zero, List.set_cons_succ]
  refine take_at (i := 1) (v := ?_) rfl rfl (by kernel_rfl) (by kernel_rfl) (by kernel_rfl) (fun _ _ _ h => h) (Or.inl ⟨by rfl, ?_⟩) (by assumption) ?_
  rotate_left; (intro w hSw; (try dsimp only at hSw); go_simp; try with_reducible rfl)
  simp only [Act.put, List.setIfInBounds_toArray, List.set_cons_zero, List.set_cons_succ]
  refine take_at (i := 2) (v := .int .i64 4) rfl rfl (by kernel_rfl) (by kernel_rfl) (by kernel_rfl) (fun _ _ _ h => h) (Or.inl ⟨by rfl, ?_⟩) (by assumption) ?_
  ·(intro w hSw; (try dsimp only at hSw); go_simp; try rfl)
  simp only [Act.put, List.setIfInBounds_toArray, List.set_cons_zero, List.set_cons_succ]
  refine gives_at (i := 3) (v := .int .u32 (g1 : Nat)) rfl rfl (by kernel_rfl) (by kernel_rfl) (by kernel_rfl) (fun _ _ _ h => h) (Or.inl ⟨by rfl, ?_⟩) (by assumption) ?_
  ·(intro w hSw; clear hSw; unfold Oper.quietAt; go_simp; refine (hget _).mono ?_; rintro e w' ⟨rfl, rfl⟩; exact ⟨rfl, rfl⟩)
  simp only [Act.put, List.setIfInBounds_toArray, List.set_cons_zero, List.set_cons_succ]
  refine take_at (i := 4) (v := ?_) rfl rfl (by kernel_rfl) (by kernel_rfl) (by kernel_rfl) (fun _ _ _ h => h) (Or.inl ⟨by rfl, ?_⟩) (by assumption) ?_
  rotate_left; (intro w hSw; (try dsimp only at hSw); go_simp; try with_reducible rfl)
  simp only [Act.put, List.setIfInBounds_toArray, List.set_cons_zero, List.set_cons_succ]
  refine take_at (i := 5) (v := ?_) rfl rfl (by kernel_rfl) (by kernel_rfl) (by kernel_rfl) (fun _ _ _ h => h) (Or.inl ⟨by rfl, ?_⟩) (by assumption) ?_
  rotate_left; (intro w hSw; (try dsimp only at hSw); go_simp; try with_reducible rfl)
  simp only [Act.put, List.setIfInBounds_toArray, List.set_cons_zero, List.set_cons_succ]
  refine take_at (i := 6) (v := ?_) rfl rfl (by kernel_rfl) (by kernel_rfl) (by kernel_rfl) (fun _ _ _ h => h) (Or.inl ⟨by rfl, ?_⟩) (by assumption) ?_
  rotate_left; (intro w hSw; (try dsimp only at hSw); go_simp; try with_reducible rfl)
  simp only [Act.put, List.setIfInBounds_toArray, List.set_cons_zero, List.set_cons_succ]
  refine take_at (i := 7) (v := .int .i64 4) rfl rfl (by kernel_rfl) (by kernel_rfl) (by kernel_rfl) (fun _ _ _ h => h) (Or.inl ⟨by rfl, ?_⟩) (by assumption) ?_
  ·(intro w hSw; (try dsimp only at hSw); go_simp; try rfl)
  simp only [Act.put, List.setIfInBounds_toArray, List.set_cons_zero, List.set_cons_succ]
  refine take_at (i := 8) (v := .string (s.extract 0 4)) rfl rfl (by kernel_rfl) (by kernel_rfl) (by kernel_rfl) (fun _ _ _ h => h) (Or.inl ⟨by rfl, ?_⟩) (by assumption) ?_
  ·(intro w hSw; (try dsimp only at hSw); go_simp; try rfl)
  simp only [Act.put, List.setIfInBounds_toArray, List.set_cons_zero, List.set_cons_succ]
  refine step_at (i := 9) (by kernel_rfl) rfl rfl (by rfl) (fun K hK => ?_)
  go_simp
  refine (hcrc hHeld).mono ?_
  rintro e w1 ⟨rfl, h1⟩
  refine hK.out _ _ (h1) (fun hHeld2 => ?_)
  clear hK K hHeld
  have hHeld := hHeld2
  clear hHeld2
  simp only [Act.put, List.setIfInBounds_toArray, List.set_cons_zero, List.set_cons_succ]
  refine take_at (i := 10) (v := ?_) rfl rfl (by kernel_rfl) (by kernel_rfl) (by kernel_rfl) (fun _ _ _ h => h) (Or.inl ⟨by rfl, ?_⟩) (by assumption) ?_
  rotate_left; (intro w hSw; (try dsimp only at hSw); go_simp; try with_reducible rfl)
  simp only [Act.put, List.setIfInBounds_toArray, List.set_cons_zero, List.set_cons_succ]
  refine take_at (i := 11) (v := ?_) rfl rfl (by kernel_rfl) (by kernel_rfl) (by kernel_rfl) (fun _ _ _ h => h) (Or.inl ⟨by rfl, ?_⟩) (by assumption) ?_
  rotate_left; (intro w hSw; (try dsimp only at hSw); go_simp; try with_reducible rfl)
  simp only [Act.put, List.setIfInBounds_toArray, List.set_cons_zero, List.set_cons_succ]
  refine wpAnyH_done (by kernel_rfl) ?_ _
  clear hget hcrc hsl hLd
  by_cases h9 : g1 ≠ c1
  ·have hr := Hr.out
   rw [if_pos h9] at hr
   have q1 : ((g1 : Int) != (c1 : Int)) = true := bne_iff_ne.2 (by omega)
   have Hr := Lib.hid hr
   clear hr h9
   go_wp2
   refine bodyPost_ret (v := .tuple #[.string .empty, .int .i64 0, .int .i64 9]) (by simp [results, Tryz.results86, go_sem] <;> rfl) rfl ?_
   rw [Hr.out]
   exact ⟨rfl, h1⟩
  ·have hr := Hr.out
   rw [if_neg h9] at hr
   have q1 : ((g1 : Int) != (c1 : Int)) = false := by rw [Decidable.not_not.1 h9]; simp
   have hyl : get4 (bytesOf s) 0 < 4294967296 := get4_lt
   obtain ⟨y, hy⟩ : ∃ y, y = get4 (bytesOf s) 0 := ⟨_, rfl⟩
   rw [← hy] at hget0 hr hyl
   have Hr := Lib.hid hr
   have Hyl := Lib.hid hyl
   have f0 : IntKind.i64.wrap (y : Int) = y := by rw [IntKind.wrap_i64]; omega
   have f1 : IntKind.i64.wrap (8 + (y : Int)) = 8 + y := by rw [IntKind.wrap_i64]; omega
   have f2 : IntKind.i64.wrap (8 + (y : Int) + 4) = 8 + y + 4 := by rw [IntKind.wrap_i64]; omega
   have f3 : IntKind.i64.wrap ((y : Int) + 4) = y + 4 := by rw [IntKind.wrap_i64]; omega
   have f4 : IntKind.i64.wrap ((s.size : Int) - 8) = s.size - 8 := by rw [IntKind.wrap_i64]; omega
   clear hr h9 hy hyl
   go_wp2_with fail
   refine (hget0 _).mono ?_
   rintro e w2 ⟨rfl, rfl⟩
   clear hget0 q1
   by_cases h3 : 16384 < y
   ·have hr := Hr.out
    rw [if_pos h3] at hr
    have q2 : decide ((y : Int) > 16384) = true := decide_eq_true (by omega)
    have q3 : decide (16384 < y) = true := decide_eq_true h3
    have Hr := Lib.hid hr
    clear hr h3
    go_wp2
    refine bodyPost_ret (v := .tuple #[.string .empty, .int .i64 0, .int .i64 3]) (by simp [results, Tryz.results86, go_sem] <;> rfl) rfl ?_
    rw [Hr.out]
    exact ⟨rfl, h1⟩
   ·have hr := Hr.out
    rw [if_neg h3] at hr
    have q2 : decide ((y : Int) > 16384) = false := decide_eq_false (by omega)
    have q3 : decide (16384 < y) = false := decide_eq_false h3
    have hb : y ≤ 16384 := by omega
    have e1 : ((s.size : Int) - 8) = ((s.size - 8 : Nat) : Int) := by have := H8.out; omega
    by_cases h7 : s.size < y + 12
    ·rw [if_pos h7] at hr
     have q4 : decide ((s.size : Int) - 8 < (y : Int) + 4) = true := decide_eq_true (by omega)
     have Hr := Lib.hid hr
     clear hr h7 e1 h3
     go_wp2
     refine bodyPost_ret (v := .tuple #[.string .empty, .int .i64 0, .int .i64 7]) (by simp [results, Tryz.results86, go_sem] <;> rfl) rfl ?_
     rw [Hr.out]
     exact ⟨rfl, h1⟩
    ·rw [if_neg h7] at hr
     have q4 : decide ((s.size : Int) - 8 < (y : Int) + 4) = false := decide_eq_false (by omega)
     have hget : ∀ w, Calls Tryz.prog 114 #[.string s, .int .i64 (8 + y : Int)] w fun e W' => e = .returned (.int .u32 (get4 (bytesOf s) (8 + y) : Nat)) ∧ w = W' := fun w => get_any (s := s) (n := 8 + y) (by omega) hs
     have hsl := slice_str (s := s) (n := 8) (m := 8 + y) (i := 8) (j := 8 + y) rfl rfl (by omega) (by omega)
     have hcrc : ∀ {w : World}, Live w0 L w → Calls Tryz.prog 85 #[.string (s.extract 8 (8 + y))] w fun x W' => x = .returned (.int .u32 (crcM (bytesOf (s.extract 8 (8 + y))) : Nat)) ∧ Live w0 L W' := fun h => crc_any (by rw [ByteArray.size_extract]; omega) h
     obtain ⟨c2, hc2⟩ : ∃ c, c = crcM (bytesOf (s.extract 8 (8 + y))) := ⟨_, rfl⟩
     obtain ⟨g2, hg2⟩ : ∃ c, c = get4 (bytesOf s) (8 + y) := ⟨_, rfl⟩
     rw [← hc2] at hcrc hr
     rw [← hg2] at hget hr
     have Hr := Lib.hid hr
     have hLd := h1.drew
     clear hr h7 hc2 hg2 h3 e1
     go_upto_region 13 with fail
     refine wp_region_held_drew (S := fun w' => Live w0 L w') (by kernel_rfl) hLd (fun hHeld => ?_)
     refine take_at (i := 0) (v := ?_) rfl rfl (by kernel_rfl) (by kernel_rfl) (by kernel_rfl) (fun _ _ _ h => h) (Or.inl ⟨by rfl, ?_⟩) (by assumption) ?_
     rotate_left; (intro w hSw; (try dsimp only at hSw); go_simp; try with_reducible rfl)
     simp only [Act.put, List.setIfInBounds_toArray, List.set_cons_zero, List.set_cons_succ]
     refine take_at (i := 1) (v := ?_) rfl rfl (by kernel_rfl) (by kernel_rfl) (by kernel_rfl) (fun _ _ _ h => h) (Or.inl ⟨by rfl, ?_⟩) (by assumption) ?_
     rotate_left; (intro w hSw; (try dsimp only at hSw); go_simp; try with_reducible rfl)
     simp only [Act.put, List.setIfInBounds_toArray, List.set_cons_zero, List.set_cons_succ]
     refine take_at (i := 2) (v := ?_) rfl rfl (by kernel_rfl) (by kernel_rfl) (by kernel_rfl) (fun _ _ _ h => h) (Or.inl ⟨by rfl, ?_⟩) (by assumption) ?_
     rotate_left; (intro w hSw; (try dsimp only at hSw); go_simp; try with_reducible rfl)
     simp only [Act.put, List.setIfInBounds_toArray, List.set_cons_zero, List.set_cons_succ]
     refine take_at (i := 3) (v := .int .i64 (8 + y : Int)) rfl rfl (by kernel_rfl) (by kernel_rfl) (by kernel_rfl) (fun _ _ _ h => h) (Or.inl ⟨by rfl, ?_⟩) (by assumption) ?_
     ·(intro w hSw; (try dsimp only at hSw); go_simp; try rfl)
     simp only [Act.put, List.setIfInBounds_toArray, List.set_cons_zero, List.set_cons_succ]
     refine gives_at (i := 4) (v := .int .u32 (g2 : Nat)) rfl rfl (by kernel_rfl) (by kernel_rfl) (by kernel_rfl) (fun _ _ _ h => h) (Or.inl ⟨by rfl, ?_⟩) (by assumption) ?_
     ·(intro w hSw; clear hSw; unfold Oper.quietAt; go_simp; refine (hget _).mono ?_; rintro e w' ⟨rfl, rfl⟩; exact ⟨rfl, rfl⟩)
     simp only [Act.put, List.setIfInBounds_toArray, List.set_cons_zero, List.set_cons_succ]
     refine take_at (i := 5) (v := ?_) rfl rfl (by kernel_rfl) (by kernel_rfl) (by kernel_rfl) (fun _ _ _ h => h) (Or.inl ⟨by rfl, ?_⟩) (by assumption) ?_
     rotate_left; (intro w hSw; (try dsimp only at hSw); go_simp; try with_reducible rfl)
     simp only [Act.put, List.setIfInBounds_toArray, List.set_cons_zero, List.set_cons_succ]
     refine take_at (i := 6) (v := ?_) rfl rfl (by kernel_rfl) (by kernel_rfl) (by kernel_rfl) (fun _ _ _ h => h) (Or.inl ⟨by rfl, ?_⟩) (by assumption) ?_
     rotate_left; (intro w hSw; (try dsimp only at hSw); go_simp; try with_reducible rfl)
     simp only [Act.put, List.setIfInBounds_toArray, List.set_cons_zero, List.set_cons_succ]
     refine take_at (i := 7) (v := ?_) rfl rfl (by kernel_rfl) (by kernel_rfl) (by kernel_rfl) (fun _ _ _ h => h) (Or.inl ⟨by rfl, ?_⟩) (by assumption) ?_
     rotate_left; (intro w hSw; (try dsimp only at hSw); go_simp; try with_reducible rfl)
     simp only [Act.put, List.setIfInBounds_toArray, List.set_cons_zero, List.set_cons_succ]
     refine take_at (i := 8) (v := ?_) rfl rfl (by kernel_rfl) (by kernel_rfl) (by kernel_rfl) (fun _ _ _ h => h) (Or.inl ⟨by rfl, ?_⟩) (by assumption) ?_
     rotate_left; (intro w hSw; (try dsimp only at hSw); go_simp; try with_reducible rfl)
     simp only [Act.put, List.setIfInBounds_toArray, List.set_cons_zero, List.set_cons_succ]
     refine take_at (i := 9) (v := .int .i64 (8 + y : Int)) rfl rfl (by kernel_rfl) (by kernel_rfl) (by kernel_rfl) (fun _ _ _ h => h) (Or.inl ⟨by rfl, ?_⟩) (by assumption) ?_
     ·(intro w hSw; (try dsimp only at hSw); go_simp; try rfl)
     simp only [Act.put, List.setIfInBounds_toArray, List.set_cons_zero, List.set_cons_succ]
     refine take_at (i := 10) (v := .string (s.extract 8 (8 + y))) rfl rfl (by kernel_rfl) (by kernel_rfl) (by kernel_rfl) (fun _ _ _ h => h) (Or.inl ⟨by rfl, ?_⟩) (by assumption) ?_
     ·(intro w hSw; (try dsimp only at hSw); go_simp; try rfl)
     simp only [Act.put, List.setIfInBounds_toArray, List.set_cons_zero, List.set_cons_succ]
     refine step_at (i := 11) (by kernel_rfl) rfl rfl (by rfl) (fun K hK => ?_)
     go_simp
     refine (hcrc hHeld).mono ?_
     rintro e w1 ⟨rfl, h1⟩
     refine hK.out _ _ (h1) (fun hHeld2 => ?_)
     clear hK K hHeld
     have hHeld := hHeld2
     clear hHeld2
     simp only [Act.put, List.setIfInBounds_toArray, List.set_cons_zero, List.set_cons_succ]
     refine take_at (i := 12) (v := ?_) rfl rfl (by kernel_rfl) (by kernel_rfl) (by kernel_rfl) (fun _ _ _ h => h) (Or.inl ⟨by rfl, ?_⟩) (by assumption) ?_
     rotate_left; (intro w hSw; (try dsimp only at hSw); go_simp; try with_reducible rfl)
     simp only [Act.put, List.setIfInBounds_toArray, List.set_cons_zero, List.set_cons_succ]
     refine take_at (i := 13) (v := ?_) rfl rfl (by kernel_rfl) (by kernel_rfl) (by kernel_rfl) (fun _ _ _ h => h) (Or.inl ⟨by rfl, ?_⟩) (by assumption) ?_
     rotate_left; (intro w hSw; (try dsimp only at hSw); go_simp; try with_reducible rfl)
     simp only [Act.put, List.setIfInBounds_toArray, List.set_cons_zero, List.set_cons_succ]
     refine wpAnyH_done (by kernel_rfl) ?_ _
     clear hget hcrc hLd
     by_cases h9 : g2 ≠ c2
     ·have hr := Hr.out
      rw [if_pos h9] at hr
      have q1 : ((g2 : Int) != (c2 : Int)) = true := bne_iff_ne.2 (by omega)
      have Hr := Lib.hid hr
      clear hr h9
      go_wp2
      refine bodyPost_ret (v := .tuple #[.string .empty, .int .i64 0, .int .i64 9]) (by simp [results, Tryz.results86, go_sem] <;> rfl) rfl ?_
      rw [Hr.out]
      exact ⟨rfl, h1⟩
     ·have hr := Hr.out
      rw [if_neg h9] at hr
      have q1 : ((g2 : Int) != (c2 : Int)) = false := by rw [Decidable.not_not.1 h9]; simp
      have Hr := Lib.hid hr
      clear hr h9
      go_wp2
      refine bodyPost_ret (v := .tuple #[.string (s.extract 8 (8 + y)), .int .i64 (8 + y + 4 : Int), .int .i64 0]) (by simp [results, Tryz.results86, go_sem] <;> rfl) rfl ?_
      rw [Hr.out]
      exact ⟨rfl, h1⟩
def wholeM (s : ByteArray) : Except Int ByteArray :=
 match nextM s with
 | .ok x => if x.2 ≠ s.size then .error 8 else .ok x.1
 | .error f => .error f
theorem next_ne {f : Int} (h : nextM s = .error f) : f ≠ 0 := by
 unfold nextM at h
 repeat' split at h
 all_goals (cases h; try decide)
theorem next_le {x : ByteArray × Nat} (h : nextM s = .ok x) : x.2 ≤ s.size := by
 unfold nextM at h
 repeat' split at h
 all_goals cases h
 show 8 + get4 (bytesOf s) 0 + 4 ≤ s.size
 omega
set_option maxRecDepth 100000 in
theorem Whole_any (hs : s.size < 140737488351233) (hL : Live w0 L W) :
  Calls Tryz.prog 60 #[.string s] W fun e W' => Said (wholeM s) (fun b => e = .returned (.tuple #[.string b, .int .i64 0]) ∧ Live w0 L W') (fun f => e = .returned (.tuple #[.string .empty, .int .i64 f]) ∧ Live w0 L W') := by
 have hN := Next_any hs hL
 obtain ⟨r, hr⟩ : ∃ r, r = nextM s := ⟨_, rfl⟩
 unfold wholeM
 rw [← hr] at hN ⊢
 have Hs := Lib.hid hs
 have Hr := Lib.hid hr
 clear hr
 go_enter Tryz.func60, Tryz.ntmps60
 go_wp2_with fail
 refine hN.mono ?_
 intro e w1 h
 unfold Said at h
 cases r with
 | ok x =>
  obtain ⟨rfl, h1⟩ := h
  obtain ⟨b, n⟩ := x
  have hle : n ≤ s.size := next_le Hr.out.symm
  dsimp only
  clear hN
  by_cases hn : n = s.size
  ·have q1 : ((n : Int) != (s.size : Int)) = false := by rw [hn]; simp
   have Hn := Lib.hid hn
   clear hn
   go_wp2
   refine bodyPost_ret (v := .tuple #[.string b, .int .i64 0]) (by simp [results, Tryz.results60, go_sem] <;> rfl) rfl ?_
   exact ⟨rfl, h1⟩
  ·have q1 : ((n : Int) != (s.size : Int)) = true := bne_iff_ne.2 (by omega)
   have Hn := Lib.hid hn
   clear hn
   go_wp2
   refine bodyPost_ret (v := .tuple #[.string .empty, .int .i64 8]) (by simp [results, Tryz.results60, go_sem] <;> rfl) rfl ?_
   exact ⟨rfl, h1⟩
 | error f =>
  obtain ⟨rfl, h1⟩ := h
  have hf := next_ne Hr.out.symm
  have q1 : (f == 0) = false := beq_eq_false_iff_ne.2 hf
  clear hN hf
  go_wp2
  refine bodyPost_ret (v := .tuple #[.string .empty, .int .i64 f]) (by simp [results, Tryz.results60, go_sem] <;> rfl) rfl ?_
  exact ⟨rfl, h1⟩
end
end Go.Proofs.YthkeiclhllikjaaGreat
/-
 frame.Put: a text's frame.
-/
namespace Go.Proofs.YthkeiclhllikjaaGreat
open Go.RowKit
def packL (xs : List Nat) : ByteArray := ⟨(xs.map UInt8.ofNat).toArray⟩
def headL (n : Nat) : List Nat := le4 n ++ le4 (crcM (le4 n))
def frameL (s : ByteArray) : List Nat := headL s.size ++ bytesOf s ++ le4 (crcM (bytesOf s))
def putM (s : ByteArray) : Except Int ByteArray := if 16384 < s.size then .error 3 else .ok (packL (frameL s))
theorem packL_bytes {xs : List Nat} (h : ∀ x ∈ xs, x < 256) : bytesOf (packL xs) = xs := by
 unfold bytesOf packL
 simp only [List.map_map]
 refine (List.map_congr_left fun x hx => ?_).trans (List.map_id xs)
 simp only [Function.comp_apply, id]
 exact UInt8.toNat_ofNat_of_lt' (h x hx)
theorem packL_size (xs : List Nat) : (packL xs).size = xs.length := by
 show ((xs.map UInt8.ofNat).toArray).size = _
 simp
theorem headL_all (n : Nat) : ∀ b ∈ headL n, b < 256 := by
 intro b hb
 rcases List.mem_append.1 hb with hb | hb
 ·exact le4_all _ b hb
 ·exact le4_all _ b hb
theorem bytesOf_lt {s : ByteArray} : ∀ b ∈ bytesOf s, b < 256 := by
 intro b hb
 obtain ⟨u, _, rfl⟩ := List.mem_map.1 hb
 exact UInt8.toNat_lt u
theorem frameL_all (s : ByteArray) : ∀ b ∈ frameL s, b < 256 := by
 intro b hb
 rcases List.mem_append.1 hb with hb | hb
 ·rcases List.mem_append.1 hb with hb | hb
  ·exact headL_all _ b hb
  ·exact bytesOf_lt b hb
 ·exact le4_all _ b hb
section
variable {w0 W : World} {L : List Blk} {s : ByteArray}
set_option maxHeartbeats 4000000 in
set_option maxRecDepth 100000 in
theorem Put_any (hs : s.size < 140737488351233) (hL : Live w0 L W) :
  Calls Tryz.prog 59 #[.string s] W fun e W' => Said (putM s) (fun b => e = .returned (.tuple #[.string b, .int .i64 0]) ∧ Live w0 L W') (fun f => e = .returned (.tuple #[.string .empty, .int .i64 f]) ∧ Live w0 L W') := by
 obtain ⟨i0, hi, hz0, hz1, hz2⟩ := info_parts infoU8
 unfold putM
 by_cases h3 : 16384 < s.size
 ·rw [if_pos h3]
  have q2 : decide ((s.size : Int) > 16384) = true := decide_eq_true (by omega)
  clear h3
  go_enter Tryz.func59, Tryz.ntmps59
  go_wp2
  refine bodyPost_ret (v := .tuple #[.string .empty, .int .i64 3]) (by simp [results, Tryz.results59, go_sem] <;> rfl) rfl ?_
  exact ⟨rfl, hL⟩
 ·rw [if_neg h3]
  have q2 : decide ((s.size : Int) > 16384) = false := decide_eq_false (by omega)
  have hz : s.size ≤ 16384 := by omega
  have f1 : (s.size : Int) % 4294967296 = s.size := by omega
  have Hz := Lib.hid hz
  have Hlen2 := Lib.hid (show (headL s.size ++ bytesOf s).length + 20 ≤ 140737488355328 by
   have e : (bytesOf s).length = s.size := by simp [bytesOf]
   have e2 : (headL s.size).length = 8 := rfl
   rw [List.length_append]
   omega)
  clear h3 hz
  go_enter Tryz.func59, Tryz.ntmps59
  go_wp2_with fail
  refine (put_any (xs := []) (B := []) (v := .slice none 0 0) (n := s.size) (by have := Hz.out; omega) (RowIs.nil _) hL (by simp)).mono ?_
  rintro e w1 ⟨v1, B1, rfl, hr1, h1⟩
  rw [List.nil_append] at hr1
  have hst := string_run hr1 h1 (le4_all _)
  have hcv : ∀ w : World, w = w1 → (convert 72 9 v1).run Tryz.prog w = .ok (.string (packL (le4 s.size))) w := by
   rintro w rfl
   exact hst
  have hcv1 := hcv w1 rfl
  clear hst hcv
  go_wp2_with fail
  refine (crc_any (s := packL (le4 s.size)) (by rw [packL_size, le4_len]; decide) h1).mono ?_
  rintro e w2 ⟨rfl, h2⟩
  rw [packL_bytes (le4_all _)]
  obtain ⟨a1, n1, c1, rfl⟩ := hr1.shape
  clear hcv1
  go_wp2_with fail
  refine (put_any (xs := le4 s.size) (B := B1) (n := crcM (le4 s.size)) crcM_lt hr1 h2 (by rw [le4_len]; decide)).mono ?_
  rintro e w3 ⟨v2, B2, rfl, hr2, h3⟩
  have hr2' : RowIs 5 v2 (u8s (headL s.size)) B2 := hr2
  clear hr1 hr2
  obtain ⟨a2, n2, c2, rfl⟩ := hr2'.shape
  have Hr2 := Lib.hid hr2'
  clear hr2' h1 h2
  have Hlen := Lib.hid (show (u8s (headL s.size)).length + s.size ≤ 140737488355328 by
   have := Hz.out
   have e : (u8s (headL s.size)).length = 8 := by rw [u8s_length]; rfl
   omega)
  go_wp2_with (at_builtin; refine wpList_append_row_string rfl (.tmp 17) (.tmp 18) 72 9 rfl 5 i0 Tryz.underlying72 Tryz.underlying9 hi hz0 hz1 hz2 _ (u8s (headL s.size)) rfl Hr2.out h3 s rfl Hlen.out ?_)
  intro v3 w4 B3 hr3 h4
  have hr3' : RowIs 5 v3 (u8s (headL s.size ++ bytesOf s)) B3 := by rw [u8s_append, u8s_bytesOf]; exact hr3
  clear hr3 h3
  obtain ⟨a3, n3, c3, rfl⟩ := hr3'.shape
  have Hr3 := Lib.hid hr3'
  clear hr3'
  go_wp2_with fail
  refine (crc_any (s := s) hs h4).mono ?_
  rintro e w5 ⟨rfl, h5⟩
  go_wp2_with fail
  refine (put_any (xs := headL s.size ++ bytesOf s) (B := B3) (n := crcM (bytesOf s)) crcM_lt Hr3.out h5 Hlen2.out).mono ?_
  rintro e w6 ⟨v6, B6, rfl, hr6, h6⟩
  have hcv1 := string_run hr6 h6 (frameL_all s)
  obtain ⟨a6, n6, c6, rfl⟩ := hr6.shape
  go_wp2
  refine bodyPost_ret (v := .tuple #[.string (packL (frameL s)), .int .i64 0]) (by simp [results, Tryz.results59, go_sem, packL, frameL]) rfl ?_
  exact ⟨rfl, hr6.rest h6⟩
end
end Go.Proofs.YthkeiclhllikjaaGreat
/-
 A frame is read back; a frame cut is too short.
-/
namespace Go.Proofs.YthkeiclhllikjaaGreat
open Go.RowKit
theorem get4_le4 {xs ys : List Nat} {n k : Nat} (hk : k = xs.length) (hn : n < 4294967296) : get4 (xs ++ (le4 n ++ ys)) k = n := by
 subst hk
 have e : ∀ j, j < 4 → (xs ++ (le4 n ++ ys)).getD (xs.length + j) 0 = (le4 n).getD j 0 := fun j hj => by
  rw [List.getD_eq_getElem?_getD, List.getD_eq_getElem?_getD, List.getElem?_append_right (by omega), Nat.add_sub_cancel_left, List.getElem?_append_left (by rw [le4_len]; exact hj)]
 unfold get4
 have e0 := e 0 (by decide)
 rw [Nat.add_zero] at e0
 rw [e0, e 1 (by decide), e 2 (by decide), e 3 (by decide)]
 simp [le4]
 omega
theorem ext_bytes {s : ByteArray} {i j : Nat} : bytesOf (s.extract i j) = ((bytesOf s).drop i).take (j - i) := by
 simp [bytesOf, ByteArray.data_extract, List.map_take, List.map_drop]
theorem bytes_size (s : ByteArray) : (bytesOf s).length = s.size := by simp [bytesOf]
theorem mid_take {a b c : List Nat} {i j : Nat} (hi : i = a.length) (hj : j = a.length + b.length) : ((a ++ (b ++ c)).drop i).take (j - i) = b := by
 subst hi hj
 rw [List.drop_left, Nat.add_sub_cancel_left, List.take_left]
section
variable {s b : ByteArray}
theorem next_of {rest : List Nat} (hs : s.size ≤ 16384) (hb : bytesOf b = headL s.size ++ (bytesOf s ++ (le4 (crcM (bytesOf s)) ++ rest))) : nextM b = .ok (s, 8 + s.size + 4) := by
 have hlen : b.size = 12 + s.size + rest.length := by
  have := congrArg List.length hb
  rw [bytes_size] at this
  simp only [List.length_append, bytes_size, le4_len] at this
  have e : (headL s.size).length = 8 := rfl
  omega
 have hb2 : bytesOf b = [] ++ (le4 s.size ++ (le4 (crcM (le4 s.size)) ++ (bytesOf s ++ (le4 (crcM (bytesOf s)) ++ rest)))) := by
  rw [hb]
  simp [headL]
 have hb3 : bytesOf b = le4 s.size ++ (le4 (crcM (le4 s.size)) ++ (bytesOf s ++ (le4 (crcM (bytesOf s)) ++ rest))) := hb2
 have hb4 : bytesOf b = (headL s.size ++ bytesOf s) ++ (le4 (crcM (bytesOf s)) ++ rest) := by rw [hb]; simp
 have g4 : get4 (bytesOf b) 4 = crcM (le4 s.size) := by rw [hb3]; exact get4_le4 rfl crcM_lt
 have g0 : get4 (bytesOf b) 0 = s.size := by rw [hb2]; exact get4_le4 rfl (by omega)
 have g8 : get4 (bytesOf b) (8 + s.size) = crcM (bytesOf s) := by
  rw [hb4]
  refine get4_le4 ?_ crcM_lt
  rw [List.length_append, bytes_size]
  rfl
 have x0 : bytesOf (b.extract 0 4) = le4 s.size := by rw [ext_bytes, hb2]; exact mid_take rfl rfl
 have x8 : bytesOf (b.extract 8 (8 + s.size)) = bytesOf s := by
  rw [ext_bytes, hb]
  refine mid_take rfl ?_
  rw [bytes_size]
  rfl
 unfold nextM
 rw [if_neg (by omega), g4, x0, if_neg (by simp), g0, if_neg (by omega), if_neg (by omega), g8, x8, if_neg (by simp), bytes_inj x8]
theorem whole_put (hs : s.size ≤ 16384) : wholeM (packL (frameL s)) = .ok s := by
 have hb := packL_bytes (frameL_all s)
 have hn := next_of (rest := []) hs (b := packL (frameL s)) (by rw [hb]; simp [frameL])
 unfold wholeM
 rw [hn]
 have hz : (packL (frameL s)).size = 8 + s.size + 4 := by
  rw [packL_size]
  simp only [frameL, List.length_append, bytes_size, le4_len]
  rfl
 simp [hz]
end
end Go.Proofs.YthkeiclhllikjaaGreat
