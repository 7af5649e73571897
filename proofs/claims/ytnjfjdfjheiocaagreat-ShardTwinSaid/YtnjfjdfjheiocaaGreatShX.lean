/-
  Rows of items; Great.
-/
import Derived.Test.YtnjfjdfjheiocaaGreatShW
set_option linter.unusedSimpArgs false
set_option linter.unusedVariables false
namespace Go.Proofs.YtnjfjdfjheiocaaGreat
open Go.RowKit
theorem cell_some_lt {W : World} {a : Addr} {v : Value} (h : W.cell? a = some v) : a.block < W.heap.size := by
  rcases Nat.lt_or_ge a.block W.heap.size with hlt | hge
  · exact hlt
  · simp [World.cell?, Array.getElem?_eq_none hge] at h
/-- A row of old memory: its elements, each of K cells. -/
def RdC (W : World) (K : Nat) (v : Value) (rows : List (Array Value)) : Prop :=
  (v = .slice none 0 0 ∧ rows = []) ∨ ∃ a c, v = .slice (some a) rows.length c ∧ ∀ (i : Nat) r, rows[i]? = some r → ∀ (k : Nat) u, r[k]? = some u → W.cell? ((a.add (i * K)).add k) = some u
section
variable {W W' : World} {K : Nat} {v : Value} {rows : List (Array Value)}
theorem RdC.kept (h : RdC W K v rows) (hb : ∀ k, k < W.heap.size → W'.heap[k]? = W.heap[k]?) : RdC W' K v rows := by
  rcases h with h | ⟨a, c, hv, h⟩
  · exact .inl h
  · refine .inr ⟨a, c, hv, fun i r hr k u hu => ?_⟩
    have h1 := h i r hr k u hu
    have h2 := cell_some_lt h1
    rw [← h1]
    unfold World.cell?
    rw [hb _ h2]
theorem RdC.slc (h : RdC W K v rows) : ∃ A c, v = .slice A rows.length c := by
  rcases h with ⟨rfl, rfl⟩ | ⟨a, c, rfl, _⟩
  · exact ⟨_, _, rfl⟩
  · exact ⟨_, _, rfl⟩
theorem RdC.elem {A : Option Addr} {n c : Nat} (h : RdC W K (.slice A n c) rows) (hn : rows.length = n) {j : Nat} (hj : j < n) : ∃ a, A = some a ∧ ∀ (k : Nat) u, (rows[j]'(by omega))[k]? = some u → W.cell? ((a.add (j * K)).add k) = some u := by
  rcases h with ⟨he, rfl⟩ | ⟨a, c', he, h⟩
  · cases hn
    cases hj
  · cases he
    exact ⟨a, rfl, h j _ (List.getElem?_eq_getElem (by omega))⟩
end
section
variable {w W : World} {a : Addr} {n c j : Nat} {x : PItem}
theorem ix_itA (h : j < n) : (Instr.indexAt 22 (.slice (some a) n c) (.int .i64 (j : Nat))).run Tryz.prog w = .ok (.pointer (some (a.add (j * 8)))) w := by
  simp [go_sem, h]
theorem ld_itA (h : ∀ (k : Nat) u, (itC x)[k]? = some u → w.cell? (a.add k) = some u) : (Instr.loadAt 42 (.pointer (some a))).run Tryz.prog w = .ok (.agg (itC x)) w := by
  have h0 := h 0 _ rfl
  have h1 := h 1 _ rfl
  have h2 := h 2 _ rfl
  have h3 := h 3 _ rfl
  have h4 := h 4 _ rfl
  have h5 := h 5 _ rfl
  have h6 := h 6 _ rfl
  have h7 := h 7 _ rfl
  simp [Addr.add] at h0 h1 h2 h3 h4 h5 h6 h7
  simp [go_sem, h0, h1, h2, h3, h4, h5, h6, h7]
theorem fi_itA {i : Nat} (hi : i < 8) : (Instr.fieldAt 42 (.pointer (some a)) i).run Tryz.prog w = .ok (.pointer (some (a.add i))) w := by
  rcases i with _ | _ | _ | _ | _ | _ | _ | _ | i
  all_goals first | (exfalso; omega) | simp [go_sem]
theorem ld_strA {s : ByteArray} (h : w.cell? a = some (.string s)) : (Instr.loadAt 9 (.pointer (some a))).run Tryz.prog w = .ok (.string s) w := by simp [go_sem, h]
set_option maxRecDepth 100000 in
theorem great_any {v : Value} {l : List PItem} (hl : RdC W 8 v (l.map itC)) (hll : l.length ≤ maxLen) : Calls Tryz.prog 9 #[v] W fun e W' => ∃ b, e = .returned (.bool b) ∧ W' = W ∧ (b = false → l.length ≤ 300 ∧ ∀ x ∈ l, x.key.size ≤ 100) := by
  obtain ⟨q, c, rfl⟩ := hl.slc
  rw [List.length_map] at hl ⊢
  go_enter Tryz.func9, Tryz.ntmps9
  refine wp_fr (n := 20) (m := [(0, _)]) ⟨rfl, rfl, by intro p hp; simp only [List.mem_cons, List.not_mem_nil, or_false] at hp; rcases hp with rfl <;> rfl⟩ fun a0 H0 => ?_
  repeat (go_not_at_region 0; go_step)
  refine wp_region_lit ?_
  refine h_op H0 rfl (wn rfl) (R_as H0 rfl rfl) rfl (P1 0 rfl) fun a1 H1 => ?_
  clear H0
  refine h_end ?_
  repeat (go_not_at_region 1; go_step)
  refine wp_region_lit ?_
  refine h_op H1 rfl (wn rfl) (R_mv H1 rfl rfl) rfl (P2 4 0 rfl rfl) fun a2 H2 => ?_
  clear H1
  refine h_op H2 rfl (wn rfl) (R_lenS H2 rfl rfl Tryz.underlying22) rfl (P2 5 0 rfl rfl) fun a3 H3 => ?_
  clear H2
  refine h_op H3 rfl (wn rfl) (R_bin H3 rfl rfl rfl (B_gt Tryz.underlying3 _ _)) rfl (P2 6 0 rfl rfl) fun a4 H4 => ?_
  clear H3
  refine h_end ?_
  by_cases h3 : (l.length : Int) > 300
  · rw [decide_eq_true h3] at H4
    repeat (go_not_at_region 2; go_step)
    refine wp_cond_true (H4.ev (x := .tmp 6) rfl) ?_
    repeat (go_not_at_region 2; go_step)
    refine wp_region_lit ?_
    refine h_op H4 rfl (wn rfl) (R_as H4 rfl rfl) rfl (P1 2 rfl) fun a5 H5 => ?_
    clear H4
    refine h_end ?_
    repeat (go_not_at_region 999; go_step)
    exact H5.ret1 rfl rfl ⟨true, rfl, rfl, fun e => by cases e⟩
  rw [decide_eq_false h3] at H4
  repeat (go_not_at_region 3; go_step)
  refine wp_cond_false (H4.ev (x := .tmp 6) rfl) ?_
  repeat (go_not_at_region 3; go_step)
  refine wp_region_lit ?_
  refine h_op H4 rfl (wn rfl) (R_as H4 rfl rfl) rfl (P2 3 0 rfl rfl) fun a5 H5 => ?_
  clear H4
  refine h_end ?_
  repeat (go_not_at_region 4; go_step)
  obtain ⟨I, hI⟩ : ∃ I : Nat → Act → World → Prop, ∀ n a' w', I n a' w' ↔ ∃ j : Nat, n = l.length - j ∧ j ≤ l.length ∧ (∀ x ∈ l.take j, x.key.size ≤ 100) ∧ Fr a' 20 [(0, .slice q l.length c), (3, .int .i64 (j : Nat))] ∧ w' = W := ⟨_, fun _ _ _ => Iff.rfl⟩
  have HI := Lib.hid hI
  clear hI
  refine wp_loop_ghost I l.length ((HI.out _ _ _).2 ⟨0, rfl, Nat.zero_le _, by simp, H5.pick _ (P2 0 3 rfl rfl), rfl⟩) ?_
  clear H5
  intro n a1 wl hi'
  obtain ⟨j, rfl, hj, hsm, H0, rfl⟩ := (HI.out _ _ _).1 hi'
  clear hi'
  by_cases hjl : j < l.length
  · repeat (go_not_at_region 4; go_step)
    refine wp_region_lit ?_
    refine h_op H0 rfl (wn rfl) (R_mv H0 rfl rfl) rfl (P3 7 0 3 rfl rfl rfl) fun a1 H1 => ?_
    clear H0
    refine h_op H1 rfl (wn rfl) (R_mv H1 rfl rfl) rfl (P4 8 7 0 3 rfl rfl rfl rfl) fun a2 H2 => ?_
    clear H1
    refine h_op H2 rfl (wn rfl) (R_lenS H2 rfl rfl Tryz.underlying22) rfl (P4 9 7 0 3 rfl rfl rfl rfl) fun a3 H3 => ?_
    clear H2
    refine h_op H3 rfl (wn rfl) (R_bin H3 rfl rfl rfl (B_to (y := true) (B_lt Tryz.underlying3 _ _) (decide_eq_true (by omega)))) rfl (P3 10 0 3 rfl rfl rfl) fun a4 H4 => ?_
    clear H3
    refine h_end ?_
    repeat (go_not_at_region 6; go_step)
    refine wp_cond_true (H4.ev (x := .tmp 10) rfl) ?_
    obtain ⟨ad, rfl, hc⟩ := hl.elem (List.length_map _) hjl
    rw [List.getElem_map] at hc
    repeat (go_not_at_region 6; go_step)
    refine wp_region_lit ?_
    refine h_op H4 rfl (wn rfl) (R_mv H4 rfl rfl) rfl (P3 13 0 3 rfl rfl rfl) fun a5 H5 => ?_
    clear H4
    refine h_op H5 rfl (wn rfl) (R_mv H5 rfl rfl) rfl (P4 14 13 0 3 rfl rfl rfl rfl) fun a6 H6 => ?_
    clear H5
    refine h_op H6 rfl (wn rfl) (R_ixa H6 rfl rfl rfl (ix_itA hjl)) rfl (P3 15 0 3 rfl rfl rfl) fun a7 H7 => ?_
    clear H6
    refine h_op H7 rfl (wn rfl) (R_fa H7 rfl rfl (fi_itA (by decide))) rfl (P3 16 0 3 rfl rfl rfl) fun a8 H8 => ?_
    clear H7
    refine h_op H8 rfl (wn rfl) (R_ld H8 rfl rfl (ld_strA (hc 4 _ rfl))) rfl (P3 17 0 3 rfl rfl rfl) fun a9 H9 => ?_
    clear H8
    refine h_op H9 rfl (wn rfl) (R_len H9 rfl rfl Tryz.underlying9) rfl (P3 18 0 3 rfl rfl rfl) fun a10 H10 => ?_
    clear H9
    refine h_op H10 rfl (wn rfl) (R_bin H10 rfl rfl rfl (B_gt Tryz.underlying3 _ _)) rfl (P3 19 0 3 rfl rfl rfl) fun a11 H11 => ?_
    clear H10
    refine h_end ?_
    by_cases hk : ((l[j].key.size : Nat) : Int) > 100
    · rw [decide_eq_true hk] at H11
      repeat (go_not_at_region 7; go_step)
      refine wp_cond_true (H11.ev (x := .tmp 19) rfl) ?_
      repeat (go_not_at_region 7; go_step)
      refine wp_region_lit ?_
      refine h_op H11 rfl (wn rfl) (R_as H11 rfl rfl) rfl (P1 2 rfl) fun a12 H12 => ?_
      clear H11
      refine h_end ?_
      repeat (go_not_at_region 999; go_step)
      exact H12.ret1 rfl rfl ⟨true, rfl, rfl, fun e => by cases e⟩
    · rw [decide_eq_false hk] at H11
      repeat (go_not_at_region 5; go_step)
      refine wp_cond_false (H11.ev (x := .tmp 19) rfl) ?_
      repeat (go_not_at_region 5; go_step)
      refine wp_region_lit ?_
      refine h_op H11 rfl (wn rfl) (R_mv H11 rfl rfl) rfl (P3 11 0 3 rfl rfl rfl) fun a12 H12 => ?_
      clear H11
      refine h_op H12 rfl (wn rfl) (R_bin H12 rfl rfl rfl (B_add Tryz.underlying3 _ _ (by omega) (by omega))) rfl (P3 12 0 3 rfl rfl rfl) fun a13 H13 => ?_
      clear H12
      refine h_op H13 rfl (wn rfl) (R_as H13 rfl rfl) rfl (P2 3 0 rfl rfl) fun a14 H14 => ?_
      clear H13
      refine h_end ?_
      refine ⟨l.length - (j + 1), by omega, (HI.out _ _ _).2 ⟨j + 1, rfl, by omega, fun x hx => ?_, H14.pick _ (P2 0 3 rfl rfl), rfl⟩⟩
      rw [List.take_succ_eq_append_getElem hjl, List.mem_append, List.mem_singleton] at hx
      rcases hx with hx | rfl
      · exact hsm x hx
      · omega
  · repeat (go_not_at_region 4; go_step)
    refine wp_region_lit ?_
    refine h_op H0 rfl (wn rfl) (R_mv H0 rfl rfl) rfl (P3 7 0 3 rfl rfl rfl) fun a1 H1 => ?_
    clear H0
    refine h_op H1 rfl (wn rfl) (R_mv H1 rfl rfl) rfl (P4 8 7 0 3 rfl rfl rfl rfl) fun a2 H2 => ?_
    clear H1
    refine h_op H2 rfl (wn rfl) (R_lenS H2 rfl rfl Tryz.underlying22) rfl (P4 9 7 0 3 rfl rfl rfl rfl) fun a3 H3 => ?_
    clear H2
    refine h_op H3 rfl (wn rfl) (R_bin H3 rfl rfl rfl (B_to (y := false) (B_lt Tryz.underlying3 _ _) (decide_eq_false (by omega)))) rfl (P3 10 0 3 rfl rfl rfl) fun a4 H4 => ?_
    clear H3
    refine h_end ?_
    repeat (go_not_at_region 8; go_step)
    refine wp_cond_false (H4.ev (x := .tmp 10) rfl) ?_
    repeat (go_not_at_region 8; go_step)
    refine wp_region_lit ?_
    refine h_op H4 rfl (wn rfl) (R_as H4 rfl rfl) rfl (P1 2 rfl) fun a5 H5 => ?_
    clear H4
    refine h_end ?_
    repeat (go_not_at_region 999; go_step)
    refine H5.ret1 rfl rfl ⟨false, rfl, rfl, fun _ => ⟨by omega, fun x hx => hsm x ?_⟩⟩
    rw [List.take_of_length_le (by omega)]
    exact hx
end
end Go.Proofs.YtnjfjdfjheiocaaGreat
