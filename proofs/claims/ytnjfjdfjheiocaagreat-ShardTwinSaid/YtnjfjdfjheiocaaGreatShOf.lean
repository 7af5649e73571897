/-
  tell.Of.
-/
import Derived.Test.YtnjfjdfjheiocaaGreatShSt
set_option linter.unusedSimpArgs false
set_option linter.unusedVariables false
namespace Go.Proofs.YtnjfjdfjheiocaaGreat
open Go.RowKit
/-- Windows that are laid, one behind the other. -/
def setsM (mark : Int) : Wins → Wins → Int × Wins
  | M, [] => (0, M)
  | M, p :: r => if overI p.1.1 mark then (12, M) else if (setS M p).2 ≠ 0 then ((setS M p).2, M) else setsM mark (setS M p).1 r
def tofM (mark : Int) (O : Wins) : Int × Wins := if rightI mark then setsM mark [] O else (1, [])
theorem setS_len (M : Wins) (p : Win × A8) : (setS M p).1.length ≤ M.length + 1 := by
  unfold setS
  split
  · exact Nat.le_succ _
  · split
    · exact Nat.le_succ _
    · split
      · exact Nat.le_succ _
      · exact putW_len _ _ _
section
variable {w0 W w : World} {L : List Thg} {O : Wins} {q : Option Addr} {c : Nat} {mark : Int}
set_option maxRecDepth 100000 in
set_option maxHeartbeats 1000000 in
theorem tof_any (hL : LV w0 L W) (r : RdW w0 L 10 outA q O) (hO : O.length < 100000) (hk : ∀ p ∈ O, KOk p.1) : Calls Tryz.prog 46 #[.int .i64 mark, .slice q O.length c] W fun e W' => ∃ v, e = .returned (.tuple #[v, .int .i64 (tofM mark O).1]) ∧ (((tofM mark O).1 = 0 ∧ ∃ pl ps b, v = .pointer (some ⟨pl, 0, none⟩) ∧ LV w0 (bk pl (lnC ps mark) 111 :: bk ps (stC b) 151 :: mw b (tofM mark O).2 :: L) W') ∨ ((tofM mark O).1 ≠ 0 ∧ v = .pointer none ∧ LV w0 L W')) := by
  obtain ⟨y, hy⟩ : ∃ y, y = tofM mark O := ⟨_, rfl⟩
  rw [← hy]
  unfold tofM at hy
  go_enter Tryz.func46, Tryz.ntmps46
  refine wp_fr (n := 38) (m := [(0, _), (1, _)]) ⟨rfl, rfl, by intro p hp; simp only [List.mem_cons, List.not_mem_nil, or_false] at hp; rcases hp with rfl | rfl <;> rfl⟩ fun a0 H0 => ?_
  repeat (go_not_at_region 0; go_step)
  refine wp_region_lit ?_
  refine us 2 H0 rfl fun _ H1 => ?_
  refine h_end ?_
  repeat (go_not_at_region 1; go_step)
  refine wp_region_lit ?_
  refine uc 1 H1 rfl (by kernel_rfl) (rightI_any _ _) ?_
  rintro e w2 ⟨rfl, hw⟩
  replace hL := hL.eqw hw
  refine ⟨_, rfl, _, rfl, fun _ H2 => ?_⟩
  by_cases hr : rightI mark = true
  rotate_left
  · have hr2 : rightI mark = false := by simpa using hr
    rw [hr2] at hy
    rw [hr2] at H2
    refine us 1 H2 rfl fun _ H3 => ?_
    refine h_end ?_
    repeat (go_not_at_region 2; go_step)
    refine wp_cond_true (H3.ev (x := .tmp 12) rfl) ?_
    repeat (go_not_at_region 2; go_step)
    refine wp_region_lit ?_
    refine us 2 H3 rfl fun _ H4 => ?_
    refine h_end ?_
    repeat (go_not_at_region 999; go_step)
    refine H4.ret2 rfl rfl rfl ⟨_, by rw [hy]; rfl, .inr ⟨by rw [hy]; exact (by decide : (1 : Int) ≠ 0), rfl, hL⟩⟩
  rw [if_pos hr] at hy
  rw [hr] at H2
  refine us 1 H2 rfl fun _ H3 => ?_
  refine h_end ?_
  repeat (go_not_at_region 3; go_step)
  refine wp_cond_false (H3.ev (x := .tmp 12) rfl) ?_
  repeat (go_not_at_region 3; go_step)
  refine wp_region_lit ?_
  refine uc 0 H3 rfl (by kernel_rfl) (stnew_any hL) ?_
  rintro e w4 ⟨ps, b, rfl, hL⟩
  refine ⟨_, rfl, _, rfl, fun _ H4 => ?_⟩
  refine uv 1 H4 rfl bd_ln rfl fun _ H5 => ?_
  refine uvS 0 H5 rfl bx_ln (hL.alloc _ _) rfl fun _ w6 H6 hL => ?_
  refine us 1 H6 rfl fun _ H7 => ?_
  refine h_end ?_
  obtain ⟨pl, hpl⟩ : ∃ g, g = w4.heap.size := ⟨_, rfl⟩
  rw [← hpl] at H7 hL
  clear hpl
  repeat (go_not_at_region 4; go_step)
  refine wp_region_lit ?_
  refine us 3 H7 rfl fun _ H8 => ?_
  refine h_end ?_
  repeat (go_not_at_region 5; go_step)
  obtain ⟨I, hI⟩ : ∃ I : Nat → Act → World → Prop, ∀ n a' w', I n a' w' ↔ ∃ (j : Nat) (M : Wins), n = O.length - j ∧ j ≤ O.length ∧ M.length ≤ j ∧ y = setsM mark M (O.drop j) ∧ Fr a' 38 [(0, .int .i64 mark), (6, .pointer (some ⟨pl, 0, none⟩)), (17, .slice q O.length c), (18, .int .i64 (O.length : Nat)), (19, .int .i64 (j : Nat))] ∧ LV w0 (bk pl (lnC ps mark) 111 :: bk ps (stC b) 151 :: mw b M :: L) w' := ⟨_, fun _ _ _ => Iff.rfl⟩
  have HI := Lib.hid hI
  clear hI
  refine wp_loop_ghost I O.length ((HI.out _ _ _).2 ⟨0, [], rfl, Nat.zero_le _, Nat.le_refl _, hy, H8.pick _ (P5 0 6 17 18 19 rfl rfl rfl rfl rfl), hL⟩) ?_
  clear hL hy
  intro n a1 wl hi'
  obtain ⟨j, M, rfl, hj, hM, hy, H0, hL⟩ := (HI.out _ _ _).1 hi'
  clear hi'
  by_cases hjl : j < O.length
  · obtain ⟨p, hp⟩ : ∃ p, p = O[j] := ⟨_, rfl⟩
    have hpk := hk p (hp ▸ List.getElem_mem hjl)
    rw [List.drop_eq_getElem_cons hjl, ← hp] at hy
    unfold setsM at hy
    obtain ⟨ad, hq, hc⟩ := r _ hL.tail.tail.tail j hjl
    rw [← hp] at hc
    repeat (go_not_at_region 5; go_step)
    refine wp_region_lit ?_
    refine uv 0 H0 rfl (lt_t (by omega)) rfl fun _ H1 => ?_
    refine h_end ?_
    repeat (go_not_at_region 6; go_step)
    refine wp_cond_true (H1.ev (x := .tmp 20) rfl) ?_
    repeat (go_not_at_region 6; go_step)
    refine wp_region_lit ?_
    refine uv 0 H1 rfl (by rw [hq]; exact ix_out rfl hjl) rfl fun _ H2 => ?_
    refine uv 0 H2 rfl (ld_outA hc) rfl fun _ H3 => ?_
    refine uvS 0 H3 rfl al_out (hL.alloc _ _) rfl fun _ w4 H4 hL => ?_
    refine ustS 0 H4 rfl (strw rfl hL.at_ rfl (out_one p)) (hL.row _) fun _ w5 H5 hL => ?_
    refine h_end ?_
    obtain ⟨g8, hg8⟩ : ∃ g, g = wl.heap.size := ⟨_, rfl⟩
    rw [← hg8] at H5 hL
    clear hg8
    repeat (go_not_at_region 7; go_step)
    refine wp_region_lit ?_
    refine uv 1 H5 rfl (ld1 rfl (hL.cell 1)) rfl fun _ H6 => ?_
    refine uc 1 H6 rfl (by kernel_rfl) (overI_any _ _ _) ?_
    rintro e w7 ⟨rfl, hw⟩
    replace hL := hL.eqw hw
    refine ⟨_, rfl, _, rfl, fun _ H7 => ?_⟩
    refine h_end ?_
    by_cases ho : overI p.1.1 mark = true
    · rw [ho] at H7 hy
      rw [if_pos rfl] at hy
      repeat (go_not_at_region 8; go_step)
      refine wp_cond_true (H7.ev (x := .tmp 26) rfl) ?_
      repeat (go_not_at_region 8; go_step)
      refine wp_region_lit ?_
      refine us 2 H7 rfl fun _ H8 => ?_
      refine h_end ?_
      repeat (go_not_at_region 999; go_step)
      refine H8.ret2 rfl rfl rfl ⟨_, by rw [hy], .inr ⟨by rw [hy]; exact (by decide : (12 : Int) ≠ 0), rfl, hL.tail.tail.tail.tail⟩⟩
    have ho2 : overI p.1.1 mark = false := by simpa using ho
    rw [ho2] at H7 hy
    rw [if_neg (by decide)] at hy
    repeat (go_not_at_region 9; go_step)
    refine wp_cond_false (H7.ev (x := .tmp 26) rfl) ?_
    repeat (go_not_at_region 9; go_step)
    have hL2 : LV w0 (bk ps (stC b) 151 :: mw b M :: (bk g8 (outA p) 57 :: bk pl (lnC ps mark) 111 :: L)) _ := hL.drew.perm (List.perm_append_comm_assoc [_, _] [_, _] L)
    refine wp_region_held_drew (S := fun w' => (w'.heap[pl]? = some (.cells (lnC ps mark) 111 (0, 0)) ∧ w'.heap[g8]? = some (.cells (outA p) 57 (0, 0)))) (by kernel_rfl) (⟨hL.drew.mem_at (by simp), hL.drew.mem_at (by simp)⟩) (fun _ => ?_)
    replace hL := hL.drew
    refine auv 4 [0, 1, 2] 3 rfl H7 rfl (by kernel_rfl) ⟨hL.mem_at (by simp), hL.mem_at (by simp)⟩ (fun _ _ _ _ _ h => h) (fun _ hL => (ld_pst (cells_at hL.1 0))) rfl fun _ H8 => ?_
    refine auv 1 [] 4 rfl H8 rfl (by kernel_rfl) ⟨hL.mem_at (by simp), hL.mem_at (by simp)⟩ (fun _ _ _ _ _ h => h) (fun _ hL => (ldb rfl hL.2)) rfl fun _ H9 => ?_
    refine a_all1 5 (by kernel_rfl) ?_
    refine o_uc 5 H9 rfl (by kernel_rfl) (sset_any hpk (by omega) hL2) ?_
    rintro e w10 ⟨rfl, hL3⟩
    have hL : LV w0 (bk g8 (outA p) 57 :: bk pl (lnC ps mark) 111 :: bk ps (stC b) 151 :: mw b (setS M p).1 :: L) _ := hL3.perm (List.perm_append_comm_assoc [_, _] [_, _] L)
    clear hL2 hL3
    refine ⟨_, rfl, _, rfl, fun _ H10 => ?_⟩
    refine ⟨⟨hL.mem_at (by simp), hL.mem_at (by simp)⟩, ?_⟩
    refine aus 1 [6] rfl H10 rfl (by kernel_rfl) ⟨hL.mem_at (by simp), hL.mem_at (by simp)⟩ (fun _ _ _ _ _ h => h) fun _ H11 => ?_
    refine wpAnyH_done (by kernel_rfl) ?_ _
    repeat (go_not_at_region 10; go_step)
    refine wp_region_lit ?_
    by_cases hz : (setS M p).2 = 0
    · rw [if_neg (fun h => h hz)] at hy
      refine uv 1 H11 rfl (ne_f hz) rfl fun _ H12 => ?_
      refine h_end ?_
      repeat (go_not_at_region 12; go_step)
      refine wp_cond_false (H12.ev (x := .tmp 34) rfl) ?_
      try refine wp_skip ?_
      repeat (go_not_at_region 12; go_step)
      refine wp_region_lit ?_
      refine uv 0 H12 rfl (add_i (by omega) (by omega)) rfl fun _ H13 => ?_
      refine us 1 H13 rfl fun _ H14 => ?_
      refine h_end ?_
      exact ⟨O.length - (j + 1), by omega, (HI.out _ _ _).2 ⟨j + 1, (setS M p).1, rfl, by omega, by have := setS_len M p; omega, hy, H14.pick _ (P5 0 6 17 18 19 rfl rfl rfl rfl rfl), hL.tail⟩⟩
    · rw [if_pos hz] at hy
      refine uv 1 H11 rfl (ne_t hz) rfl fun _ H12 => ?_
      refine h_end ?_
      repeat (go_not_at_region 11; go_step)
      refine wp_cond_true (H12.ev (x := .tmp 34) rfl) ?_
      repeat (go_not_at_region 11; go_step)
      refine wp_region_lit ?_
      refine us 3 H12 rfl fun _ H13 => ?_
      refine h_end ?_
      repeat (go_not_at_region 999; go_step)
      refine H13.ret2 rfl rfl rfl ⟨_, by rw [hy], .inr ⟨by rw [hy]; exact hz, rfl, hL.tail.tail.tail.tail⟩⟩
  · obtain rfl : j = O.length := by omega
    rw [List.drop_length] at hy
    unfold setsM at hy
    repeat (go_not_at_region 5; go_step)
    refine wp_region_lit ?_
    refine uv 0 H0 rfl (lt_f (by omega)) rfl fun _ H1 => ?_
    refine h_end ?_
    repeat (go_not_at_region 13; go_step)
    refine wp_cond_false (H1.ev (x := .tmp 20) rfl) ?_
    repeat (go_not_at_region 13; go_step)
    refine wp_region_lit ?_
    refine us 3 H1 rfl fun _ H2 => ?_
    refine h_end ?_
    repeat (go_not_at_region 999; go_step)
    refine H2.ret2 rfl rfl rfl ⟨_, by rw [hy], .inl ⟨by rw [hy], pl, ps, b, rfl, ?_⟩⟩
    rw [hy]
    exact hL
end
end Go.Proofs.YtnjfjdfjheiocaaGreat
