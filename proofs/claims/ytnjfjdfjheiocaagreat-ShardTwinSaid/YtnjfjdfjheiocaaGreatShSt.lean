/-
  store.Set.
-/
import Derived.Test.YtnjfjdfjheiocaaGreatShRt
import Derived.Test.YtnjfjdfjheiocaaGreatShSv
set_option linter.unusedSimpArgs false
set_option linter.unusedVariables false
namespace Go.Proofs.YtnjfjdfjheiocaaGreat
open Go.RowKit
/-- Is a window as it may be told? -/
def winR (p : Win × A8) : Bool := keyB p.1.2 && (decide (¬ endI p.1.1 < 0) && (rightB p.2 && decide (p.2.c ≠ 0)))
/-- What a window that is laid comes to. -/
def setS (M : Wins) (p : Win × A8) : Wins × Int :=
  if !winR p then (M, 1) else if (lookW M p.1).isSome then (M, 5) else if !roomW M p.1 then (M, 6) else (putW M p.1 p.2, 0)
section
variable {w0 W w : World} {L : List Thg} {b ps g : Nat} {M : Wins} {p : Win × A8} {k : Win}
theorem bx_o {cs : Array Value} : (Instr.box 57 (.agg cs)).run Tryz.prog w = .ok (.pointer (some ⟨w.heap.size, 0, none⟩)) (w.alloc (.cells cs 57)) := by
  simp [go_sem]
abbrev wnC (k : Win) : Array Value := #[.int .i64 k.1, .string k.2]
theorem al_wn : (Instr.alloc 162 true (.tuple #[])).run Tryz.prog w = .ok (.pointer (some ⟨w.heap.size, 0, none⟩)) (w.alloc (.cells #[.int .i64 0, .string .empty] 162)) := by
  simp [go_sem]
  rfl
theorem wn_one (k : Win) : (wnC k).all (·.oneCell') = true := by
  simp only [List.all_toArray, List.all_cons, List.all_nil, Bool.and_true]
  rfl
theorem bd_wn {s : Int} {key : ByteArray} : (Instr.build 162 #[(0, .int .i64 s), (1, .string key)]).run Tryz.prog w = .ok (.agg (wnC (s, key))) w := by
  simp [go_sem]
theorem agg_cells (h : w.heap[g]? = some (.cells (outA p) 57 (0, 0))) : ∀ (j : Nat) u, p.2.arr[j]? = some u → w.cell? ((⟨g, 2, none⟩ : Addr).add j) = some u := by
  intro j u hu
  rw [show (⟨g, 2, none⟩ : Addr).add j = ⟨g, 2 + j, none⟩ from by unfold Addr.add; by_cases hk : j = 0 <;> simp [hk], cells_at h]
  have hj : j < 8 := by
    have := (Array.getElem?_eq_some_iff.1 hu).1
    exact this
  match j, hj with
  | 0, _ | 1, _ | 2, _ | 3, _ | 4, _ | 5, _ | 6, _ | 7, _ => exact hu
set_option maxRecDepth 100000 in
set_option maxHeartbeats 1000000 in
theorem sset_any (hk : KOk p.1) (hn : M.length < 1000000) (hL : LV w0 (bk ps (stC b) 151 :: mw b M :: L) W) : Calls Tryz.prog 79 #[.pointer (some ⟨ps, 0, none⟩), .agg (outA p)] W fun e W' => e = .returned (.int .i64 (setS M p).2) ∧ LV w0 (bk ps (stC b) 151 :: mw b (setS M p).1 :: L) W' := by
  obtain ⟨y, hy⟩ : ∃ y, y = setS M p := ⟨_, rfl⟩
  rw [← hy]
  unfold setS at hy
  go_enter Tryz.func79, Tryz.ntmps79
  refine wp_fr (n := 56) (m := [(0, _), (1, _)]) ⟨rfl, rfl, by intro p hp; simp only [List.mem_cons, List.not_mem_nil, or_false] at hp; rcases hp with rfl | rfl <;> rfl⟩ fun a0 H0 => ?_
  repeat (go_not_at_region 0; go_step)
  refine wp_region_lit ?_
  refine uvS 0 H0 rfl bx_o (hL.alloc _ _) rfl fun _ w1 H1 hL => ?_
  refine us 1 H1 rfl fun _ H2 => ?_
  refine h_end ?_
  obtain ⟨g3, hg3⟩ : ∃ g, g = W.heap.size := ⟨_, rfl⟩
  rw [← hg3] at H2 hL
  clear hg3
  repeat (go_not_at_region 1; go_step)
  refine wp_region_lit ?_
  refine us 2 H2 rfl fun _ H3 => ?_
  refine h_end ?_
  repeat (go_not_at_region 3; go_step)
  refine wp_cond_false (H3.ev (x := .tmp 9) rfl) ?_
  repeat (go_not_at_region 3; go_step)
  refine wp_region_lit ?_
  refine uv 1 H3 rfl (ld1 rfl (hL.cell 0)) rfl fun _ H4 => ?_
  refine uc 0 H4 rfl (by kernel_rfl) (keyB_any _ _) ?_
  rintro e w5 ⟨rfl, hw⟩
  replace hL := hL.eqw hw
  refine ⟨_, rfl, _, rfl, fun _ H5 => ?_⟩
  by_cases hk1 : keyB p.1.2 = true
  rotate_left
  · have hk2 : keyB p.1.2 = false := by simpa using hk1
    rw [hk2] at H5
    refine us 19 H5 rfl fun _ H6 => ?_
    refine h_end ?_
    repeat (go_not_at_region 4; go_step)
    refine wp_cond_true (H6.ev (x := .tmp 31) rfl) ?_
    repeat (go_not_at_region 4; go_step)
    refine wp_region_lit ?_
    refine us 1 H6 rfl fun _ H7 => ?_
    refine h_end ?_
    repeat (go_not_at_region 999; go_step)
    have hw : winR p = false := by unfold winR; rw [hk2]; rfl
    rw [hw] at hy
    refine H7.ret1 rfl rfl ⟨by rw [hy]; rfl, ?_⟩
    rw [hy]
    exact hL.tail
  rw [hk1] at H5
  refine uv 3 H5 rfl (ld1 rfl (hL.cell 1)) rfl fun _ H6 => ?_
  refine uc 0 H6 rfl (by kernel_rfl) (endI_any _ _) ?_
  rintro e w7 ⟨rfl, hw⟩
  replace hL := hL.eqw hw
  refine ⟨_, rfl, _, rfl, fun _ H7 => ?_⟩
  by_cases he : endI p.1.1 < 0
  · refine uv 0 H7 rfl (lt_t he) rfl fun _ H8 => ?_
    refine us 13 H8 rfl fun _ H9 => ?_
    refine h_end ?_
    repeat (go_not_at_region 4; go_step)
    refine wp_cond_true (H9.ev (x := .tmp 31) rfl) ?_
    repeat (go_not_at_region 4; go_step)
    refine wp_region_lit ?_
    refine us 1 H9 rfl fun _ H10 => ?_
    refine h_end ?_
    repeat (go_not_at_region 999; go_step)
    have hw : winR p = false := by unfold winR; rw [decide_eq_false (by simpa using he), Bool.false_and, Bool.and_false]
    rw [hw] at hy
    refine H10.ret1 rfl rfl ⟨by rw [hy]; rfl, ?_⟩
    rw [hy]
    exact hL.tail
  refine uv 0 H7 rfl (lt_f he) rfl fun _ H8 => ?_
  refine uv 3 H8 rfl (ldr rfl (agg_cells hL.at_)) rfl fun _ H9 => ?_
  refine uc 0 H9 rfl (by kernel_rfl) (right8_any _ _) ?_
  rintro e w10 ⟨rfl, hb⟩
  replace hL := hL.call hb
  refine ⟨_, rfl, _, rfl, fun _ H10 => ?_⟩
  by_cases hr1 : rightB p.2 = true
  rotate_left
  · have hr2 : rightB p.2 = false := by simpa using hr1
    rw [hr2] at H10
    refine us 8 H10 rfl fun _ H11 => ?_
    refine h_end ?_
    repeat (go_not_at_region 4; go_step)
    refine wp_cond_true (H11.ev (x := .tmp 31) rfl) ?_
    repeat (go_not_at_region 4; go_step)
    refine wp_region_lit ?_
    refine us 1 H11 rfl fun _ H12 => ?_
    refine h_end ?_
    repeat (go_not_at_region 999; go_step)
    have hw : winR p = false := by unfold winR; rw [hr2, Bool.false_and, Bool.and_false, Bool.and_false]
    rw [hw] at hy
    refine H12.ret1 rfl rfl ⟨by rw [hy]; rfl, ?_⟩
    rw [hy]
    exact hL.tail
  rw [hr1] at H10
  refine uv 5 H10 rfl (ld1 rfl (hL.cell 2)) rfl fun _ H11 => ?_
  by_cases hc : p.2.c = 0
  · refine uv 0 H11 rfl (eq_t hc) rfl fun _ H12 => ?_
    refine us 1 H12 rfl fun _ H13 => ?_
    refine h_end ?_
    repeat (go_not_at_region 4; go_step)
    refine wp_cond_true (H13.ev (x := .tmp 31) rfl) ?_
    repeat (go_not_at_region 4; go_step)
    refine wp_region_lit ?_
    refine us 1 H13 rfl fun _ H14 => ?_
    refine h_end ?_
    repeat (go_not_at_region 999; go_step)
    have hw : winR p = false := by unfold winR; rw [decide_eq_false (show ¬ p.2.c ≠ 0 from fun h => h hc), Bool.and_false, Bool.and_false, Bool.and_false]
    rw [hw] at hy
    refine H14.ret1 rfl rfl ⟨by rw [hy]; rfl, ?_⟩
    rw [hy]
    exact hL.tail
  refine uv 0 H11 rfl (eq_f hc) rfl fun _ H12 => ?_
  refine us 1 H12 rfl fun _ H13 => ?_
  refine h_end ?_
  repeat (go_not_at_region 5; go_step)
  refine wp_cond_false (H13.ev (x := .tmp 31) rfl) ?_
  have hwr : winR p = true := by unfold winR; rw [hk1, decide_eq_true he, hr1, decide_eq_true hc]; rfl
  rw [hwr] at hy
  simp only [Bool.not_true, Bool.false_eq_true, if_false] at hy
  repeat (go_not_at_region 5; go_step)
  refine wp_region_lit ?_
  refine uv 1 H13 rfl (ld1 rfl (hL.cell 1)) rfl fun _ H14 => ?_
  refine uv 1 H14 rfl (ld1 rfl (hL.cell 0)) rfl fun _ H15 => ?_
  refine uv 0 H15 rfl bd_wn rfl fun _ H16 => ?_
  refine uvS 0 H16 rfl al_wn (hL.alloc _ _) rfl fun _ w17 H17 hL => ?_
  refine ustS 0 H17 rfl (strw rfl hL.at_ rfl (wn_one _)) (hL.row _) fun _ w18 H18 hL => ?_
  refine h_end ?_
  obtain ⟨g5, hg5⟩ : ∃ g, g = w10.heap.size := ⟨_, rfl⟩
  rw [← hg5] at H18 hL
  clear hg5
  replace hL : LV w0 (bk g5 (wnC p.1) 162 :: bk g3 (outA p) 57 :: bk ps (stC b) 151 :: mw b M :: L) w18 := hL
  repeat (go_not_at_region 6; go_step)
  refine wp_region_held_drew (S := fun w' => (w'.heap[ps]? = some (.cells (stC b) 151 (0, 0)) ∧ WinAt w' b M ∧ w'.heap[g5]? = some (.cells (wnC p.1) 162 (0, 0)))) (by kernel_rfl) (⟨hL.drew.mem_at (by simp), hL.drew.mem_win (by simp), hL.drew.mem_at (by simp)⟩) (fun _ => ?_)
  replace hL := hL.drew
  refine auv 4 [0, 1, 2] 3 rfl H18 rfl (by kernel_rfl) ⟨hL.mem_at (by simp), hL.mem_win (by simp), hL.mem_at (by simp)⟩ (fun _ _ _ _ _ h => h) (fun _ hL => (ld_mpw (cells_at hL.1 0))) rfl fun _ H19 => ?_
  refine auv 1 [] 4 rfl H19 rfl (by kernel_rfl) ⟨hL.mem_at (by simp), hL.mem_win (by simp), hL.mem_at (by simp)⟩ (fun _ _ _ _ _ h => h) (fun _ hL => (ldb rfl hL.2.2)) rfl fun _ H20 => ?_
  refine auv 1 [] 5 rfl H20 rfl (by kernel_rfl) ⟨hL.mem_at (by simp), hL.mem_win (by simp), hL.mem_at (by simp)⟩ (fun _ _ _ _ _ h => h) (fun _ hL => (lookWok_run hk hL.2.1)) rfl fun _ H21 => ?_
  refine aus 3 [6, 7, 8] rfl H21 rfl (by kernel_rfl) ⟨hL.mem_at (by simp), hL.mem_win (by simp), hL.mem_at (by simp)⟩ (fun _ _ _ _ _ h => h) fun _ H22 => ?_
  refine a_all1 9 (by kernel_rfl) ?_
  refine ouS 9 H22 rfl al_ag (hL.alloc _ _) rfl fun _ w23 H23 hL => ⟨⟨hL.mem_at (by simp), hL.mem_win (by simp), hL.mem_at (by simp)⟩, ?_⟩
  refine a_all1 10 (by kernel_rfl) ?_
  refine ostS 10 H23 rfl (strw rfl hL.at_ rfl (by rw [arr_jrow]; exact jrow_one)) (hL.row _) fun _ w24 H24 hL => ⟨⟨hL.mem_at (by simp), hL.mem_win (by simp), hL.mem_at (by simp)⟩, ?_⟩
  refine aus 1 [11] rfl H24 rfl (by kernel_rfl) ⟨hL.mem_at (by simp), hL.mem_win (by simp), hL.mem_at (by simp)⟩ (fun _ _ _ _ _ h => h) fun _ H25 => ?_
  refine wpAnyH_done (by kernel_rfl) ?_ _
  replace hL := hL.tail
  repeat (go_not_at_region 7; go_step)
  refine wp_region_lit ?_
  refine us 1 H25 rfl fun _ H26 => ?_
  refine h_end ?_
  by_cases hl : (lookW M p.1).isSome = true
  · rw [hl] at H26
    repeat (go_not_at_region 8; go_step)
    refine wp_cond_true (H26.ev (x := .tmp 46) rfl) ?_
    repeat (go_not_at_region 8; go_step)
    refine wp_region_lit ?_
    refine us 1 H26 rfl fun _ H27 => ?_
    refine h_end ?_
    repeat (go_not_at_region 999; go_step)
    rw [if_pos hl] at hy
    refine H27.ret1 rfl rfl ⟨by rw [hy], ?_⟩
    rw [hy]
    exact hL.tail.tail
  rw [if_neg hl] at hy
  rw [show (lookW M p.1).isSome = false by simpa using hl] at H26
  repeat (go_not_at_region 9; go_step)
  refine wp_cond_false (H26.ev (x := .tmp 46) rfl) ?_
  replace hL : LV w0 (bk ps (stC b) 151 :: mw b M :: (bk g5 (wnC p.1) 162 :: bk g3 (outA p) 57 :: L)) _ := hL.perm (List.perm_append_comm_assoc [_, _] [_, _] L)
  repeat (go_not_at_region 9; go_step)
  refine wp_region_lit ?_
  refine uv 1 H26 rfl (ldb rfl (hL.mem_at (A := wnC p.1) (t := 162) (by simp))) rfl fun _ H27 => ?_
  refine uc 0 H27 rfl (by kernel_rfl) (room_any (k := p.1) hk hL) ?_
  rintro e w28 ⟨rfl, hL⟩
  refine ⟨_, rfl, _, rfl, fun _ H28 => ?_⟩
  refine us 1 H28 rfl fun _ H29 => ?_
  refine h_end ?_
  by_cases hr : roomW M p.1 = true
  rotate_left
  · have hr2 : roomW M p.1 = false := by simpa using hr
    rw [hr2] at H29 hy
    repeat (go_not_at_region 10; go_step)
    refine wp_cond_true (H29.ev (x := .tmp 50) rfl) ?_
    repeat (go_not_at_region 10; go_step)
    refine wp_region_lit ?_
    refine us 1 H29 rfl fun _ H30 => ?_
    refine h_end ?_
    repeat (go_not_at_region 999; go_step)
    refine H30.ret1 rfl rfl ⟨by rw [hy]; rfl, ?_⟩
    rw [hy]
    exact (hL.perm (List.perm_append_comm_assoc [_, _] [_, _] L)).tail.tail
  rw [hr] at H29 hy
  repeat (go_not_at_region 11; go_step)
  refine wp_cond_false (H29.ev (x := .tmp 50) rfl) ?_
  repeat (go_not_at_region 11; go_step)
  refine wp_region_lit ?_
  refine uv 1 H29 rfl (ldb rfl (hL.mem_at (A := wnC p.1) (t := 162) (by simp))) rfl fun _ H30 => ?_
  refine uv 1 H30 rfl (ldr rfl (agg_cells (hL.mem_at (A := outA p) (t := 57) (by simp)))) rfl fun _ H31 => ?_
  refine uc 0 H31 rfl (by kernel_rfl) (set_any (k := p.1) (a := p.2) hk hn hL) ?_
  rintro e w32 ⟨rfl, hL⟩
  refine ⟨_, rfl, _, rfl, fun _ H32 => ?_⟩
  refine h_end ?_
  repeat (go_not_at_region 12; go_step)
  refine wp_region_lit ?_
  refine us 1 H32 rfl fun _ H33 => ?_
  refine h_end ?_
  repeat (go_not_at_region 999; go_step)
  refine H33.ret1 rfl rfl ⟨by rw [hy]; rfl, ?_⟩
  rw [hy]
  exact (hL.perm (List.perm_append_comm_assoc [_, _] [_, _] L)).tail.tail
end
end Go.Proofs.YtnjfjdfjheiocaaGreat
