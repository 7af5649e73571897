/-
  frame.Next at a text's beginning; frame.Whole.
-/
import Derived.Test.YtmmhchpilcjflaaFrA
import Derived.Test.YtmmhchpilcjflaaMsgQa
import Derived.Test.YtmmhchpilcjflaaMsgWk
import Derived.Laws.DeepStrings4
import Derived.Deep.Cut
set_option linter.unusedSimpArgs false
set_option linter.unusedVariables false
namespace Go.Proofs.Ytmmhchpilcjflaa
open Go.RowKit

/-- The body of the frame at a text's beginning, and where it ends; or the fault. -/
def nextM (s : ByteArray) : Except Int (ByteArray × Nat) :=
  if s.size < 8 then .error 7
  else if get4 (bytesOf s) 4 ≠ crcM (bytesOf (s.extract 0 4)) then .error 9
  else if 16384 < get4 (bytesOf s) 0 then .error 3
  else if s.size < get4 (bytesOf s) 0 + 12 then .error 7
  else if get4 (bytesOf s) (8 + get4 (bytesOf s) 0) ≠ crcM (bytesOf (s.extract 8 (8 + get4 (bytesOf s) 0))) then .error 9
  else .ok (s.extract 8 (8 + get4 (bytesOf s) 0), 8 + get4 (bytesOf s) 0 + 4)
section
variable {w0 W : World} {L : List Blk} {s : ByteArray}
set_option maxHeartbeats 4000000 in
set_option maxRecDepth 100000 in
theorem Next_any (hs : s.size < 140737488351233) (hL : Live w0 L W) :
    Calls Try.prog 66 #[.string s, .int .i64 0] W fun e W' => Said (nextM s) (fun x => e = .returned (.tuple #[.string x.1, .int .i64 (x.2 : Nat), .int .i64 0]) ∧ Live w0 L W') (fun f => e = .returned (.tuple #[.string .empty, .int .i64 0, .int .i64 f]) ∧ Live w0 L W') := by
  obtain ⟨r, hr⟩ : ∃ r, r = nextM s := ⟨_, rfl⟩
  rw [← hr]
  unfold nextM at hr
  obtain ⟨z, hz⟩ : ∃ z, z = s.size := ⟨_, rfl⟩
  have a1 : decide ((s.size : Int) < 0) = false := decide_eq_false (by omega)
  have a2 : decide ((0 : Int) > s.size) = false := decide_eq_false (by omega)
  by_cases h8 : s.size < 8
  · rw [if_pos h8] at hr
    have b1 : decide ((s.size : Int) < 8) = true := decide_eq_true (by omega)
    have Hr := Lib.hid hr
    clear hr h8
    go_enter Try.func66, Try.ntmps66
    go_wp2
    refine bodyPost_ret (v := .tuple #[.string .empty, .int .i64 0, .int .i64 7]) (by simp [results, Try.results66, go_sem] <;> rfl) rfl ?_
    rw [Hr.out]
    exact ⟨rfl, hL⟩
  · rw [if_neg h8] at hr
    have b1 : decide ((s.size : Int) < 8) = false := decide_eq_false (by omega)
    have hg := get_any (s := s) (n := 4) (W := W) (by omega) hs
    have hget : ∀ w, Calls Try.prog 70 #[.string s, .int .i64 4] w fun e W' => e = .returned (.int .u32 (get4 (bytesOf s) 4 : Nat)) ∧ w = W' := fun w => get_any (s := s) (n := 4) (by omega) hs
    have hget0 : ∀ w, Calls Try.prog 70 #[.string s, .int .i64 0] w fun e W' => e = .returned (.int .u32 (get4 (bytesOf s) 0 : Nat)) ∧ w = W' := fun w => get_any (s := s) (n := 0) (by omega) hs
    have hsl := slice_str (s := s) (n := 0) (m := 4) (i := 0) (j := 4) rfl rfl (by omega) (by omega)
    have hcrc : ∀ {w : World}, Live w0 L w → Calls Try.prog 62 #[.string (s.extract 0 4)] w fun x W' => x = .returned (.int .u32 (crcM (bytesOf (s.extract 0 4)) : Nat)) ∧ Live w0 L W' := fun h => crc_any (by rw [ByteArray.size_extract]; omega) h
    obtain ⟨c1, hc1⟩ : ∃ c, c = crcM (bytesOf (s.extract 0 4)) := ⟨_, rfl⟩
    obtain ⟨g1, hg1⟩ : ∃ c, c = get4 (bytesOf s) 4 := ⟨_, rfl⟩
    rw [← hc1] at hcrc hr
    rw [← hg1] at hget hr
    have Hs := Lib.hid hs
    have H8 := Lib.hid h8
    have Hr := Lib.hid hr
    have hLd := hL.drew
    clear hr h8 hc1 hg1 hg
    go_enter Try.func66, Try.ntmps66
    go_upto_region 5 with fail
    refine wp_region_held_drew (S := fun w' => Live w0 L w') (by kernel_rfl) hLd (fun hHeld => ?_)
    refine take_at (i := 0) (v := ?_) rfl rfl (by kernel_rfl) (by kernel_rfl) (by kernel_rfl) (fun _ _ _ h => h) (Or.inl ⟨by rfl, ?_⟩) (by assumption) ?_
    rotate_left; (intro w hSw; (try dsimp only at hSw); go_simp; try with_reducible rfl)
    simp only [Act.put, List.setIfInBounds_toArray, List.set_cons_zero, List.set_cons_succ]
    refine take_at (i := 1) (v := ?_) rfl rfl (by kernel_rfl) (by kernel_rfl) (by kernel_rfl) (fun _ _ _ h => h) (Or.inl ⟨by rfl, ?_⟩) (by assumption) ?_
    rotate_left; (intro w hSw; (try dsimp only at hSw); go_simp; try with_reducible rfl)
    simp only [Act.put, List.setIfInBounds_toArray, List.set_cons_zero, List.set_cons_succ]
    refine take_at (i := 2) (v := .int .i64 4) rfl rfl (by kernel_rfl) (by kernel_rfl) (by kernel_rfl) (fun _ _ _ h => h) (Or.inl ⟨by rfl, ?_⟩) (by assumption) ?_
    · (intro w hSw; (try dsimp only at hSw); go_simp; try rfl)
    simp only [Act.put, List.setIfInBounds_toArray, List.set_cons_zero, List.set_cons_succ]
    refine gives_at (i := 3) (v := .int .u32 (g1 : Nat)) rfl rfl (by kernel_rfl) (by kernel_rfl) (by kernel_rfl) (fun _ _ _ h => h) (Or.inl ⟨by rfl, ?_⟩) (by assumption) ?_
    · (intro w hSw; clear hSw; unfold Oper.quietAt; go_simp; refine (hget _).mono ?_; rintro e w' ⟨rfl, rfl⟩; exact ⟨rfl, rfl⟩)
    simp only [Act.put, List.setIfInBounds_toArray, List.set_cons_zero, List.set_cons_succ]
    refine take_at (i := 4) (v := ?_) rfl rfl (by kernel_rfl) (by kernel_rfl) (by kernel_rfl) (fun _ _ _ h => h) (Or.inl ⟨by rfl, ?_⟩) (by assumption) ?_
    rotate_left; (intro w hSw; (try dsimp only at hSw); go_simp; try with_reducible rfl)
    simp only [Act.put, List.setIfInBounds_toArray, List.set_cons_zero, List.set_cons_succ]
    refine take_at (i := 5) (v := ?_) rfl rfl (by kernel_rfl) (by kernel_rfl) (by kernel_rfl) (fun _ _ _ h => h) (Or.inl ⟨by rfl, ?_⟩) (by assumption) ?_
    rotate_left; (intro w hSw; (try dsimp only at hSw); go_simp; try with_reducible rfl)
    simp only [Act.put, List.setIfInBounds_toArray, List.set_cons_zero, List.set_cons_succ]
    refine take_at (i := 6) (v := ?_) rfl rfl (by kernel_rfl) (by kernel_rfl) (by kernel_rfl) (fun _ _ _ h => h) (Or.inl ⟨by rfl, ?_⟩) (by assumption) ?_
    rotate_left; (intro w hSw; (try dsimp only at hSw); go_simp; try with_reducible rfl)
    simp only [Act.put, List.setIfInBounds_toArray, List.set_cons_zero, List.set_cons_succ]
    refine take_at (i := 7) (v := .int .i64 4) rfl rfl (by kernel_rfl) (by kernel_rfl) (by kernel_rfl) (fun _ _ _ h => h) (Or.inl ⟨by rfl, ?_⟩) (by assumption) ?_
    · (intro w hSw; (try dsimp only at hSw); go_simp; try rfl)
    simp only [Act.put, List.setIfInBounds_toArray, List.set_cons_zero, List.set_cons_succ]
    refine take_at (i := 8) (v := .string (s.extract 0 4)) rfl rfl (by kernel_rfl) (by kernel_rfl) (by kernel_rfl) (fun _ _ _ h => h) (Or.inl ⟨by rfl, ?_⟩) (by assumption) ?_
    · (intro w hSw; (try dsimp only at hSw); go_simp; try rfl)
    simp only [Act.put, List.setIfInBounds_toArray, List.set_cons_zero, List.set_cons_succ]
    refine step_at (i := 9) (by kernel_rfl) rfl rfl (by rfl) (fun K hK => ?_)
    go_simp
    refine (hcrc hHeld).mono ?_
    rintro e w1 ⟨rfl, h1⟩
    refine hK.out _ _ (h1) (fun hHeld2 => ?_)
    clear hK K hHeld
    have hHeld := hHeld2
    clear hHeld2
    simp only [Act.put, List.setIfInBounds_toArray, List.set_cons_zero, List.set_cons_succ]
    refine take_at (i := 10) (v := ?_) rfl rfl (by kernel_rfl) (by kernel_rfl) (by kernel_rfl) (fun _ _ _ h => h) (Or.inl ⟨by rfl, ?_⟩) (by assumption) ?_
    rotate_left; (intro w hSw; (try dsimp only at hSw); go_simp; try with_reducible rfl)
    simp only [Act.put, List.setIfInBounds_toArray, List.set_cons_zero, List.set_cons_succ]
    refine take_at (i := 11) (v := ?_) rfl rfl (by kernel_rfl) (by kernel_rfl) (by kernel_rfl) (fun _ _ _ h => h) (Or.inl ⟨by rfl, ?_⟩) (by assumption) ?_
    rotate_left; (intro w hSw; (try dsimp only at hSw); go_simp; try with_reducible rfl)
    simp only [Act.put, List.setIfInBounds_toArray, List.set_cons_zero, List.set_cons_succ]
    refine wpAnyH_done (by kernel_rfl) ?_ _
    clear hget hcrc hsl hLd
    by_cases h9 : g1 ≠ c1
    · have hr := Hr.out
      rw [if_pos h9] at hr
      have q1 : ((g1 : Int) != (c1 : Int)) = true := bne_iff_ne.2 (by omega)
      have Hr := Lib.hid hr
      clear hr h9
      go_wp2
      refine bodyPost_ret (v := .tuple #[.string .empty, .int .i64 0, .int .i64 9]) (by simp [results, Try.results66, go_sem] <;> rfl) rfl ?_
      rw [Hr.out]
      exact ⟨rfl, h1⟩
    · have hr := Hr.out
      rw [if_neg h9] at hr
      have q1 : ((g1 : Int) != (c1 : Int)) = false := by rw [Decidable.not_not.1 h9]; simp
      have hyl : get4 (bytesOf s) 0 < 4294967296 := get4_lt
      obtain ⟨y, hy⟩ : ∃ y, y = get4 (bytesOf s) 0 := ⟨_, rfl⟩
      rw [← hy] at hget0 hr hyl
      have Hr := Lib.hid hr
      have Hyl := Lib.hid hyl
      have f0 : IntKind.i64.wrap (y : Int) = y := by rw [IntKind.wrap_i64]; omega
      have f1 : IntKind.i64.wrap (8 + (y : Int)) = 8 + y := by rw [IntKind.wrap_i64]; omega
      have f2 : IntKind.i64.wrap (8 + (y : Int) + 4) = 8 + y + 4 := by rw [IntKind.wrap_i64]; omega
      have f3 : IntKind.i64.wrap ((y : Int) + 4) = y + 4 := by rw [IntKind.wrap_i64]; omega
      have f4 : IntKind.i64.wrap ((s.size : Int) - 8) = s.size - 8 := by rw [IntKind.wrap_i64]; omega
      clear hr h9 hy hyl
      go_wp2_with fail
      refine (hget0 _).mono ?_
      rintro e w2 ⟨rfl, rfl⟩
      clear hget0 q1
      by_cases h3 : 16384 < y
      · have hr := Hr.out
        rw [if_pos h3] at hr
        have q2 : decide ((y : Int) > 16384) = true := decide_eq_true (by omega)
        have q3 : decide (16384 < y) = true := decide_eq_true h3
        have Hr := Lib.hid hr
        clear hr h3
        go_wp2
        refine bodyPost_ret (v := .tuple #[.string .empty, .int .i64 0, .int .i64 3]) (by simp [results, Try.results66, go_sem] <;> rfl) rfl ?_
        rw [Hr.out]
        exact ⟨rfl, h1⟩
      · have hr := Hr.out
        rw [if_neg h3] at hr
        have q2 : decide ((y : Int) > 16384) = false := decide_eq_false (by omega)
        have q3 : decide (16384 < y) = false := decide_eq_false h3
        have hb : y ≤ 16384 := by omega
        have e1 : ((s.size : Int) - 8) = ((s.size - 8 : Nat) : Int) := by have := H8.out; omega
        by_cases h7 : s.size < y + 12
        · rw [if_pos h7] at hr
          have q4 : decide ((s.size : Int) - 8 < (y : Int) + 4) = true := decide_eq_true (by omega)
          have Hr := Lib.hid hr
          clear hr h7 e1 h3
          go_wp2
          refine bodyPost_ret (v := .tuple #[.string .empty, .int .i64 0, .int .i64 7]) (by simp [results, Try.results66, go_sem] <;> rfl) rfl ?_
          rw [Hr.out]
          exact ⟨rfl, h1⟩
        · rw [if_neg h7] at hr
          have q4 : decide ((s.size : Int) - 8 < (y : Int) + 4) = false := decide_eq_false (by omega)
          have hget : ∀ w, Calls Try.prog 70 #[.string s, .int .i64 (8 + y : Int)] w fun e W' => e = .returned (.int .u32 (get4 (bytesOf s) (8 + y) : Nat)) ∧ w = W' := fun w => get_any (s := s) (n := 8 + y) (by omega) hs
          have hsl := slice_str (s := s) (n := 8) (m := 8 + y) (i := 8) (j := 8 + y) rfl rfl (by omega) (by omega)
          have hcrc : ∀ {w : World}, Live w0 L w → Calls Try.prog 62 #[.string (s.extract 8 (8 + y))] w fun x W' => x = .returned (.int .u32 (crcM (bytesOf (s.extract 8 (8 + y))) : Nat)) ∧ Live w0 L W' := fun h => crc_any (by rw [ByteArray.size_extract]; omega) h
          obtain ⟨c2, hc2⟩ : ∃ c, c = crcM (bytesOf (s.extract 8 (8 + y))) := ⟨_, rfl⟩
          obtain ⟨g2, hg2⟩ : ∃ c, c = get4 (bytesOf s) (8 + y) := ⟨_, rfl⟩
          rw [← hc2] at hcrc hr
          rw [← hg2] at hget hr
          have Hr := Lib.hid hr
          have hLd := h1.drew
          clear hr h7 hc2 hg2 h3 e1
          go_upto_region 13 with fail
          refine wp_region_held_drew (S := fun w' => Live w0 L w') (by kernel_rfl) hLd (fun hHeld => ?_)
          refine take_at (i := 0) (v := ?_) rfl rfl (by kernel_rfl) (by kernel_rfl) (by kernel_rfl) (fun _ _ _ h => h) (Or.inl ⟨by rfl, ?_⟩) (by assumption) ?_
          rotate_left; (intro w hSw; (try dsimp only at hSw); go_simp; try with_reducible rfl)
          simp only [Act.put, List.setIfInBounds_toArray, List.set_cons_zero, List.set_cons_succ]
          refine take_at (i := 1) (v := ?_) rfl rfl (by kernel_rfl) (by kernel_rfl) (by kernel_rfl) (fun _ _ _ h => h) (Or.inl ⟨by rfl, ?_⟩) (by assumption) ?_
          rotate_left; (intro w hSw; (try dsimp only at hSw); go_simp; try with_reducible rfl)
          simp only [Act.put, List.setIfInBounds_toArray, List.set_cons_zero, List.set_cons_succ]
          refine take_at (i := 2) (v := ?_) rfl rfl (by kernel_rfl) (by kernel_rfl) (by kernel_rfl) (fun _ _ _ h => h) (Or.inl ⟨by rfl, ?_⟩) (by assumption) ?_
          rotate_left; (intro w hSw; (try dsimp only at hSw); go_simp; try with_reducible rfl)
          simp only [Act.put, List.setIfInBounds_toArray, List.set_cons_zero, List.set_cons_succ]
          refine take_at (i := 3) (v := .int .i64 (8 + y : Int)) rfl rfl (by kernel_rfl) (by kernel_rfl) (by kernel_rfl) (fun _ _ _ h => h) (Or.inl ⟨by rfl, ?_⟩) (by assumption) ?_
          · (intro w hSw; (try dsimp only at hSw); go_simp; try rfl)
          simp only [Act.put, List.setIfInBounds_toArray, List.set_cons_zero, List.set_cons_succ]
          refine gives_at (i := 4) (v := .int .u32 (g2 : Nat)) rfl rfl (by kernel_rfl) (by kernel_rfl) (by kernel_rfl) (fun _ _ _ h => h) (Or.inl ⟨by rfl, ?_⟩) (by assumption) ?_
          · (intro w hSw; clear hSw; unfold Oper.quietAt; go_simp; refine (hget _).mono ?_; rintro e w' ⟨rfl, rfl⟩; exact ⟨rfl, rfl⟩)
          simp only [Act.put, List.setIfInBounds_toArray, List.set_cons_zero, List.set_cons_succ]
          refine take_at (i := 5) (v := ?_) rfl rfl (by kernel_rfl) (by kernel_rfl) (by kernel_rfl) (fun _ _ _ h => h) (Or.inl ⟨by rfl, ?_⟩) (by assumption) ?_
          rotate_left; (intro w hSw; (try dsimp only at hSw); go_simp; try with_reducible rfl)
          simp only [Act.put, List.setIfInBounds_toArray, List.set_cons_zero, List.set_cons_succ]
          refine take_at (i := 6) (v := ?_) rfl rfl (by kernel_rfl) (by kernel_rfl) (by kernel_rfl) (fun _ _ _ h => h) (Or.inl ⟨by rfl, ?_⟩) (by assumption) ?_
          rotate_left; (intro w hSw; (try dsimp only at hSw); go_simp; try with_reducible rfl)
          simp only [Act.put, List.setIfInBounds_toArray, List.set_cons_zero, List.set_cons_succ]
          refine take_at (i := 7) (v := ?_) rfl rfl (by kernel_rfl) (by kernel_rfl) (by kernel_rfl) (fun _ _ _ h => h) (Or.inl ⟨by rfl, ?_⟩) (by assumption) ?_
          rotate_left; (intro w hSw; (try dsimp only at hSw); go_simp; try with_reducible rfl)
          simp only [Act.put, List.setIfInBounds_toArray, List.set_cons_zero, List.set_cons_succ]
          refine take_at (i := 8) (v := ?_) rfl rfl (by kernel_rfl) (by kernel_rfl) (by kernel_rfl) (fun _ _ _ h => h) (Or.inl ⟨by rfl, ?_⟩) (by assumption) ?_
          rotate_left; (intro w hSw; (try dsimp only at hSw); go_simp; try with_reducible rfl)
          simp only [Act.put, List.setIfInBounds_toArray, List.set_cons_zero, List.set_cons_succ]
          refine take_at (i := 9) (v := .int .i64 (8 + y : Int)) rfl rfl (by kernel_rfl) (by kernel_rfl) (by kernel_rfl) (fun _ _ _ h => h) (Or.inl ⟨by rfl, ?_⟩) (by assumption) ?_
          · (intro w hSw; (try dsimp only at hSw); go_simp; try rfl)
          simp only [Act.put, List.setIfInBounds_toArray, List.set_cons_zero, List.set_cons_succ]
          refine take_at (i := 10) (v := .string (s.extract 8 (8 + y))) rfl rfl (by kernel_rfl) (by kernel_rfl) (by kernel_rfl) (fun _ _ _ h => h) (Or.inl ⟨by rfl, ?_⟩) (by assumption) ?_
          · (intro w hSw; (try dsimp only at hSw); go_simp; try rfl)
          simp only [Act.put, List.setIfInBounds_toArray, List.set_cons_zero, List.set_cons_succ]
          refine step_at (i := 11) (by kernel_rfl) rfl rfl (by rfl) (fun K hK => ?_)
          go_simp
          refine (hcrc hHeld).mono ?_
          rintro e w1 ⟨rfl, h1⟩
          refine hK.out _ _ (h1) (fun hHeld2 => ?_)
          clear hK K hHeld
          have hHeld := hHeld2
          clear hHeld2
          simp only [Act.put, List.setIfInBounds_toArray, List.set_cons_zero, List.set_cons_succ]
          refine take_at (i := 12) (v := ?_) rfl rfl (by kernel_rfl) (by kernel_rfl) (by kernel_rfl) (fun _ _ _ h => h) (Or.inl ⟨by rfl, ?_⟩) (by assumption) ?_
          rotate_left; (intro w hSw; (try dsimp only at hSw); go_simp; try with_reducible rfl)
          simp only [Act.put, List.setIfInBounds_toArray, List.set_cons_zero, List.set_cons_succ]
          refine take_at (i := 13) (v := ?_) rfl rfl (by kernel_rfl) (by kernel_rfl) (by kernel_rfl) (fun _ _ _ h => h) (Or.inl ⟨by rfl, ?_⟩) (by assumption) ?_
          rotate_left; (intro w hSw; (try dsimp only at hSw); go_simp; try with_reducible rfl)
          simp only [Act.put, List.setIfInBounds_toArray, List.set_cons_zero, List.set_cons_succ]
          refine wpAnyH_done (by kernel_rfl) ?_ _
          clear hget hcrc hLd
          by_cases h9 : g2 ≠ c2
          · have hr := Hr.out
            rw [if_pos h9] at hr
            have q1 : ((g2 : Int) != (c2 : Int)) = true := bne_iff_ne.2 (by omega)
            have Hr := Lib.hid hr
            clear hr h9
            go_wp2
            refine bodyPost_ret (v := .tuple #[.string .empty, .int .i64 0, .int .i64 9]) (by simp [results, Try.results66, go_sem] <;> rfl) rfl ?_
            rw [Hr.out]
            exact ⟨rfl, h1⟩
          · have hr := Hr.out
            rw [if_neg h9] at hr
            have q1 : ((g2 : Int) != (c2 : Int)) = false := by rw [Decidable.not_not.1 h9]; simp
            have Hr := Lib.hid hr
            clear hr h9
            go_wp2
            refine bodyPost_ret (v := .tuple #[.string (s.extract 8 (8 + y)), .int .i64 (8 + y + 4 : Int), .int .i64 0]) (by simp [results, Try.results66, go_sem] <;> rfl) rfl ?_
            rw [Hr.out]
            exact ⟨rfl, h1⟩
/-- The body of a text that is one frame, or the fault. -/
def wholeM (s : ByteArray) : Except Int ByteArray :=
  match nextM s with
  | .ok x => if x.2 ≠ s.size then .error 8 else .ok x.1
  | .error f => .error f
theorem next_ne {f : Int} (h : nextM s = .error f) : f ≠ 0 := by
  unfold nextM at h
  repeat' split at h
  all_goals (cases h; try decide)
theorem next_le {x : ByteArray × Nat} (h : nextM s = .ok x) : x.2 ≤ s.size := by
  unfold nextM at h
  repeat' split at h
  all_goals cases h
  show 8 + get4 (bytesOf s) 0 + 4 ≤ s.size
  omega
set_option maxRecDepth 100000 in
theorem Whole_any (hs : s.size < 140737488351233) (hL : Live w0 L W) :
    Calls Try.prog 54 #[.string s] W fun e W' => Said (wholeM s) (fun b => e = .returned (.tuple #[.string b, .int .i64 0]) ∧ Live w0 L W') (fun f => e = .returned (.tuple #[.string .empty, .int .i64 f]) ∧ Live w0 L W') := by
  have hN := Next_any hs hL
  obtain ⟨r, hr⟩ : ∃ r, r = nextM s := ⟨_, rfl⟩
  unfold wholeM
  rw [← hr] at hN ⊢
  have Hs := Lib.hid hs
  have Hr := Lib.hid hr
  clear hr
  go_enter Try.func54, Try.ntmps54
  go_wp2_with fail
  refine hN.mono ?_
  intro e w1 h
  unfold Said at h
  cases r with
  | ok x =>
    obtain ⟨rfl, h1⟩ := h
    obtain ⟨b, n⟩ := x
    have hle : n ≤ s.size := next_le Hr.out.symm
    dsimp only
    clear hN
    by_cases hn : n = s.size
    · have q1 : ((n : Int) != (s.size : Int)) = false := by rw [hn]; simp
      have Hn := Lib.hid hn
      clear hn
      go_wp2
      refine bodyPost_ret (v := .tuple #[.string b, .int .i64 0]) (by simp [results, Try.results54, go_sem] <;> rfl) rfl ?_
      exact ⟨rfl, h1⟩
    · have q1 : ((n : Int) != (s.size : Int)) = true := bne_iff_ne.2 (by omega)
      have Hn := Lib.hid hn
      clear hn
      go_wp2
      refine bodyPost_ret (v := .tuple #[.string .empty, .int .i64 8]) (by simp [results, Try.results54, go_sem] <;> rfl) rfl ?_
      exact ⟨rfl, h1⟩
  | error f =>
    obtain ⟨rfl, h1⟩ := h
    have hf := next_ne Hr.out.symm
    have q1 : (f == 0) = false := beq_eq_false_iff_ne.2 hf
    clear hN hf
    go_wp2
    refine bodyPost_ret (v := .tuple #[.string .empty, .int .i64 f]) (by simp [results, Try.results54, go_sem] <;> rfl) rfl ?_
    exact ⟨rfl, h1⟩
end
end Go.Proofs.Ytmmhchpilcjflaa
