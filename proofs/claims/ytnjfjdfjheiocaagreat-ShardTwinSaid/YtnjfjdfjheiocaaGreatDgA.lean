/-
  shardkey.Print.
-/
import Derived.Test.YtnjfjdfjheiocaaGreatPkO
set_option linter.unusedSimpArgs false
set_option linter.unusedVariables false
namespace Go.Proofs.YtnjfjdfjheiocaaGreat
open Go.RowKit
def prS (n b : Nat) : Nat := ((n ^^^ b) * 1099511628211) % 18446744073709551616
/-- A text's print. -/
def prN (l : List Nat) : Nat := l.foldl prS 14695981039346656037
theorem prS_val (n b : Nat) : prS n b = ((n ^^^ b) * 1099511628211) % 18446744073709551616 := rfl
theorem prS_lt (n b : Nat) : prS n b < 18446744073709551616 := Nat.mod_lt _ (by decide)
theorem prN_lt (l : List Nat) : prN l < 18446744073709551616 := by
  unfold prN
  have key : ∀ (l : List Nat) (n : Nat), n < 18446744073709551616 → l.foldl prS n < 18446744073709551616 := by
    intro l
    induction l with
    | nil => intro n h; exact h
    | cons b t ih => intro n _; exact ih _ (prS_lt n b)
  exact key l _ (by decide)
theorem fold_next {α : Type} (f : α → Nat → α) (n : α) {l : List Nat} {j : Nat} (hj : j < l.length) : (l.take (j + 1)).foldl f n = f ((l.take j).foldl f n) l[j] := by
  rw [List.take_succ_eq_append_getElem hj, List.foldl_append]
  rfl
theorem u64_idz {n : Int} (h0 : 0 ≤ n) (h1 : n < 18446744073709551616) : IntKind.u64.wrap n = n := by
  rw [wrap_u64]
  omega
section
variable {W w : World} {s : ByteArray}
theorem B64_xorN {X Y : Operand} (x y : Nat) (hx : x < 18446744073709551616) (hy : y < 18446744073709551616) : ((do eqGuard .xor 47 X Y (.int .u64 (x : Nat)) (.int .u64 (y : Nat)); binOp .xor 47 (.int .u64 (x : Nat)) (.int .u64 (y : Nat))) : Sem Value).run Tryz.prog w = .ok (.int .u64 (x ^^^ y : Nat)) w := by
  have e := u64_xor_nat x y hx hy
  simp [go_sem, e]
theorem B64_mulP {X Y : Operand} (x : Nat) : ((do eqGuard .mul 47 X Y (.int .u64 (x : Nat)) (.int .u64 1099511628211); binOp .mul 47 (.int .u64 (x : Nat)) (.int .u64 1099511628211)) : Sem Value).run Tryz.prog w = .ok (.int .u64 (x * 1099511628211 % 18446744073709551616 : Nat)) w := by
  have e : IntKind.u64.wrap ((x : Int) * 1099511628211) = ((x * 1099511628211 % 18446744073709551616 : Nat) : Int) := by
    unfold IntKind.wrap
    simp [IntKind.signed, IntKind.bits]
  simp [go_sem, e]
theorem cv8_64 (x : Nat) (h : x < 256) : (convert 5 47 (.int .u8 (x : Nat))).run Tryz.prog w = .ok (.int .u64 (x : Nat)) w := by
  have e : IntKind.u64.wrap (x : Int) = x := u64_idz (by omega) (by omega)
  simp [go_sem, e]
theorem ix_strN {n : Nat} (h : n < s.size) : (Instr.index 9 (.string s) (.int .i64 (n : Nat))).run Tryz.prog w = .ok (.int .u8 (((bytesOf s)[n]'(by unfold bytesOf; rw [List.length_map]; exact h) : Nat) : Int)) w := by
  have e : (bytesOf s)[n]'(by unfold bytesOf; rw [List.length_map]; exact h) = (s.get n h).toNat := by
    unfold bytesOf
    rw [List.getElem_map]
    rfl
  rw [e]
  simp [go_sem, h]
  rfl
theorem bytesOf_len : (bytesOf s).length = s.size := by unfold bytesOf; rw [List.length_map, Array.length_toList]; rfl
theorem bytesOf_lt : ∀ x ∈ bytesOf s, x < 256 := by
  intro x hx
  unfold bytesOf at hx
  obtain ⟨b, _, rfl⟩ := List.mem_map.1 hx
  exact b.toNat_lt
set_option maxRecDepth 100000 in
theorem print_any (hs : s.size < 140737488351233) (W : World) : Calls Tryz.prog 45 #[.string s] W fun e W' => e = .returned (.int .u64 (prN (bytesOf s) : Nat)) ∧ W' = W := by
  go_enter Tryz.func45, Tryz.ntmps45
  refine wp_fr (n := 20) (m := [(0, _)]) ⟨rfl, rfl, by intro p hp; simp only [List.mem_cons, List.not_mem_nil, or_false] at hp; rcases hp with rfl <;> rfl⟩ fun a0 H0 => ?_
  repeat (go_not_at_region 0; go_step)
  refine wp_region_lit ?_
  refine us 1 H0 rfl fun _ H1 => ?_
  refine h_end ?_
  repeat (go_not_at_region 1; go_step)
  refine wp_region_lit ?_
  refine us 1 H1 rfl fun _ H2 => ?_
  refine h_end ?_
  repeat (go_not_at_region 2; go_step)
  refine wp_region_lit ?_
  refine us 3 H2 rfl fun _ H3 => ?_
  refine h_end ?_
  repeat (go_not_at_region 3; go_step)
  obtain ⟨I, hI⟩ : ∃ I : Nat → Act → World → Prop, ∀ n a' w', I n a' w' ↔ ∃ j : Nat, n = s.size - j ∧ j ≤ s.size ∧ Fr a' 20 [(0, .string s), (3, .int .u64 (((bytesOf s).take j).foldl prS 14695981039346656037 : Nat)), (6, .int .i64 (s.size : Nat)), (7, .int .i64 (j : Nat))] ∧ w' = W := ⟨_, fun _ _ _ => Iff.rfl⟩
  have HI := Lib.hid hI
  clear hI
  refine wp_loop_ghost I s.size ((HI.out _ _ _).2 ⟨0, rfl, Nat.zero_le _, H3.pick _ (P4 0 3 6 7 rfl rfl rfl rfl), rfl⟩) ?_
  clear H3
  intro n a1 wl hi'
  obtain ⟨j, rfl, hj, H0, rfl⟩ := (HI.out _ _ _).1 hi'
  clear hi'
  by_cases hjl : j < s.size
  · have hlen := bytesOf_len (s := s)
    have hnl : ((bytesOf s).take j).foldl prS 14695981039346656037 < 18446744073709551616 := prN_lt _
    have hb : (bytesOf s)[j]'(by omega) < 256 := bytesOf_lt _ (List.getElem_mem _)
    repeat (go_not_at_region 3; go_step)
    refine wp_region_lit ?_
    refine uv 0 H0 rfl (lt_t (by omega)) rfl fun _ H1 => ?_
    refine h_end ?_
    repeat (go_not_at_region 4; go_step)
    refine wp_cond_true (H1.ev (x := .tmp 8) rfl) ?_
    repeat (go_not_at_region 4; go_step)
    refine wp_region_lit ?_
    refine us 2 H1 rfl fun _ H2 => ?_
    refine h_end ?_
    repeat (go_not_at_region 5; go_step)
    refine wp_region_lit ?_
    refine uv 3 H2 rfl (ix_strN hjl) rfl fun _ H3 => ?_
    refine uv 0 H3 rfl (cv8_64 _ hb) rfl fun _ H4 => ?_
    refine uv 0 H4 rfl (B64_xorN _ _ hnl (by omega)) rfl fun _ H5 => ?_
    refine us 1 H5 rfl fun _ H6 => ?_
    refine h_end ?_
    repeat (go_not_at_region 6; go_step)
    refine wp_region_lit ?_
    refine uv 1 H6 rfl (B64_mulP _) rfl fun _ H7 => ?_
    refine us 1 H7 rfl fun _ H8 => ?_
    refine h_end ?_
    rw [← prS_val] at H8
    repeat (go_not_at_region 7; go_step)
    refine wp_region_lit ?_
    refine uv 0 H8 rfl (add_i (by omega) (by omega)) rfl fun _ H9 => ?_
    refine us 1 H9 rfl fun _ H10 => ?_
    refine h_end ?_
    refine ⟨s.size - (j + 1), by omega, (HI.out _ _ _).2 ⟨j + 1, rfl, by omega, ?_, rfl⟩⟩
    rw [fold_next prS _ (by omega)]
    exact H10.pick _ (P4 0 3 6 7 rfl rfl rfl rfl)
  · repeat (go_not_at_region 3; go_step)
    refine wp_region_lit ?_
    refine uv 0 H0 rfl (lt_f (by omega)) rfl fun _ H1 => ?_
    refine h_end ?_
    repeat (go_not_at_region 8; go_step)
    refine wp_cond_false (H1.ev (x := .tmp 8) rfl) ?_
    repeat (go_not_at_region 8; go_step)
    refine wp_region_lit ?_
    refine us 2 H1 rfl fun _ H2 => ?_
    refine h_end ?_
    have hlen := bytesOf_len (s := s)
    rw [List.take_of_length_le (by omega)] at H2
    repeat (go_not_at_region 999; go_step)
    exact H2.ret1 rfl rfl ⟨rfl, rfl⟩
end
end Go.Proofs.YtnjfjdfjheiocaaGreat
