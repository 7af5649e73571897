/-
  seen.Of.
-/
import Derived.Test.YtnjfjdfjheiocaaGreatShOf
set_option linter.unusedSimpArgs false
set_option linter.unusedVariables false
namespace Go.Proofs.YtnjfjdfjheiocaaGreat
open Go.RowKit
abbrev En := Int × Int × Int
/-- Is an entry beyond its table? -/
def badE (lo : Nat → Int) (x : En) : Bool := decide (x.1 < 0) || (decide (x.1 ≥ 4) || (!codeB x.2.2 || (decide (x.2.1 < lo x.1.toNat) || decide (x.2.1 ≥ lo x.1.toNat + 16))))
/-- Does it not stand behind the one ahead of it? -/
def notUp (p x : En) : Bool := decide (p.1 > x.1) || (decide (p.1 = x.1) && decide (p.2.1 ≥ x.2.1))
def prevE (l : List En) (j : Nat) (x : En) : Bool := match j with
  | 0 => false
  | i + 1 => match l[i]? with
    | some p => notUp p x
    | none => false
/-- Entries from the place j on. -/
def entsM (lo : Nat → Int) (l : List En) : Nat → Nat → (Nat → Cods) → Int × (Nat → Cods)
  | 0, _, cd => (0, cd)
  | n + 1, j, cd => match l[j]? with
    | none => (0, cd)
    | some x => if badE lo x then (1, cd) else if prevE l j x then (1, cd) else entsM lo l n (j + 1) (upd cd x.1.toNat (putC (cd x.1.toNat) x.2.1 x.2.2))
def lowB (z : Int) : Bool := decide (1 ≤ z) && decide (z ≤ 1099511627776)
def lowF (lows : List Int) : Nat → Int := fun i => lows.getD i 1
def sofM (lows : List Int) (l : List En) : Int × (Nat → Int) × (Nat → Cods) :=
  if lows.length ≠ 4 then (1, lowF lows, fun _ => []) else if lows.all lowB then ((entsM (lowF lows) l l.length 0 fun _ => []).1, lowF lows, (entsM (lowF lows) l l.length 0 fun _ => []).2) else (1, lowF lows, fun _ => [])
theorem badE_no {lo : Nat → Int} {x : En} (h : badE lo x = false) : 0 ≤ x.1 ∧ x.1 < 4 ∧ codeB x.2.2 = true ∧ lo x.1.toNat ≤ x.2.1 ∧ x.2.1 < lo x.1.toNat + 16 := by
  unfold badE at h
  simp only [Bool.or_eq_false_iff, decide_eq_false_iff_not, Bool.not_eq_false'] at h
  obtain ⟨h1, h2, h3, h4, h5⟩ := h
  exact ⟨by omega, by omega, h3, by omega, by omega⟩
theorem putC_len2 (l : Cods) (k c : Int) : (putC l k c).length ≤ l.length + 1 := putC_len l k c
section
variable {w0 W w : World} {L R : List Thg} {lo : Nat → Int} {bs : Nat → Nat} {cd : Nat → Cods} {g pn i : Nat}
theorem ixl_z {z : Int} (hz : z = (i : Nat)) (h : i < 4) : (Instr.indexAt 32 (.pointer (some ⟨g, 0, none⟩)) (.int .i64 z)).run Tryz.prog w = .ok (.pointer (some ⟨g, i, none⟩)) w := by
  subst hz
  exact ixl h
theorem ixm_z {z : Int} (hz : z = (i : Nat)) (h : i < 4) : (Instr.indexAt 113 (.pointer (some ⟨g, 4, none⟩)) (.int .i64 z)).run Tryz.prog w = .ok (.pointer (some ⟨g, 4 + i, none⟩)) w := by
  subst hz
  exact ixm h
theorem ix_enz {q : Option Addr} {a : Addr} {n c j : Nat} {z : Int} (e : q = some a) (hz : z = (j : Nat)) (h : j < n) : (Instr.indexAt 61 (.slice q n c) (.int .i64 z)).run Tryz.prog w = .ok (.pointer (some (a.add (j * 3)))) w := by
  subst hz
  exact ix_en e h
theorem al_en1 : (Instr.alloc 93 true (.tuple #[])).run Tryz.prog w = .ok (.pointer (some ⟨w.heap.size, 0, none⟩)) (w.alloc (.cells (enC (0, 0, 0)).toArray 93)) := by
  simp [go_sem]
theorem en_one1 (q : En) : (enC q).toArray.all (·.oneCell') = true := by
  unfold enC
  simp only [List.all_toArray, List.all_cons, List.all_nil, Bool.and_true]
  rfl
theorem fa_e0 {a : Addr} : (Instr.fieldAt 93 (.pointer (some a)) 0).run Tryz.prog w = .ok (.pointer (some (a.add 0))) w := by simp [go_sem]
theorem fa_e1 {a : Addr} : (Instr.fieldAt 93 (.pointer (some a)) 1).run Tryz.prog w = .ok (.pointer (some (a.add 1))) w := by simp [go_sem]
theorem LV.setL2 {v : Int} {t : TypeId} (h : LV w0 (bk pn (snP lo (fun j => some (bs j))) t :: R) W) (hi : i < 4) : LV w0 (bk pn (snP (upd lo i v) (fun j => some (bs j))) t :: R) (W.setCell ⟨pn, i, none⟩ (.int .i64 v)) := h.setL hi v
set_option maxRecDepth 100000 in
set_option maxHeartbeats 4000000 in
theorem sof_any {q q2 : Option Addr} {c c2 : Nat} {lows : List Int} {l : List En} (hL : LV w0 L W) (r : RdW w0 L 1 (fun z : Int => (#[.int .i64 z] : Array Value)) q lows) (r2 : RdW w0 L 3 (fun e : En => (enC e).toArray) q2 l) (hlows : lows.length < 1000000) (hl : l.length < 100000) : Calls Tryz.prog 47 #[.slice q lows.length c, .slice q2 l.length c2] W fun e W' => ∃ v, e = .returned (.tuple #[v, .int .i64 (sofM lows l).1]) ∧ (((sofM lows l).1 = 0 ∧ ∃ pn bs, v = .pointer (some ⟨pn, 0, none⟩) ∧ LV w0 (bk pn (snC (sofM lows l).2.1 bs) 115 :: (snT bs (sofM lows l).2.2 ++ L)) W') ∨ ((sofM lows l).1 ≠ 0 ∧ v = .pointer none ∧ LV w0 L W')) := by
  obtain ⟨y, hy⟩ : ∃ y, y = sofM lows l := ⟨_, rfl⟩
  rw [← hy]
  unfold sofM at hy
  go_enter Tryz.func47, Tryz.ntmps47
  refine wp_fr (n := 129) (m := [(0, _), (1, _)]) ⟨rfl, rfl, by intro p hp; simp only [List.mem_cons, List.not_mem_nil, or_false] at hp; rcases hp with rfl | rfl <;> rfl⟩ fun a0 H0 => ?_
  repeat (go_not_at_region 0; go_step)
  refine wp_region_lit ?_
  refine us 2 H0 rfl fun _ H1 => ?_
  refine h_end ?_
  by_cases h4 : lows.length = 4
  rotate_left
  · rw [if_pos h4] at hy
    repeat (go_not_at_region 1; go_step)
    refine wp_region_lit ?_
    refine uv 2 H1 rfl (ne_t (by omega)) rfl fun _ H2 => ?_
    refine h_end ?_
    repeat (go_not_at_region 2; go_step)
    refine wp_cond_true (H2.ev (x := .tmp 13) rfl) ?_
    repeat (go_not_at_region 2; go_step)
    refine wp_region_lit ?_
    refine us 2 H2 rfl fun _ H3 => ?_
    refine h_end ?_
    repeat (go_not_at_region 999; go_step)
    refine H3.ret2 rfl rfl rfl ⟨_, by rw [hy], .inr ⟨by rw [hy]; exact (by decide : (1 : Int) ≠ 0), rfl, hL⟩⟩
  rw [if_neg (fun h => h h4)] at hy
  repeat (go_not_at_region 1; go_step)
  refine wp_region_lit ?_
  refine uv 2 H1 rfl (ne_f (by omega)) rfl fun _ H2 => ?_
  refine h_end ?_
  repeat (go_not_at_region 3; go_step)
  refine wp_cond_false (H2.ev (x := .tmp 13) rfl) ?_
  repeat (go_not_at_region 3; go_step)
  refine wp_region_lit ?_
  refine uc 0 H2 rfl (by kernel_rfl) (snew_any hL) ?_
  rintro e w3 ⟨pn, bs, rfl, hL⟩
  refine ⟨_, rfl, _, rfl, fun _ H3 => ?_⟩
  refine us 1 H3 rfl fun _ H4 => ?_
  refine h_end ?_
  repeat (go_not_at_region 4; go_step)
  refine wp_region_lit ?_
  refine us 3 H4 rfl fun _ H5 => ?_
  refine h_end ?_
  have H6 := H5.kp [0, 1, 6, 15, 16, 17] rfl
  repeat (go_not_at_region 5; go_step)
  obtain ⟨I, hI⟩ : ∃ I : Nat → Act → World → Prop, ∀ n a' w', I n a' w' ↔ ∃ k : Nat, n = 4 - k ∧ k ≤ 4 ∧ (∀ z ∈ lows.take k, lowB z = true) ∧ Fr a' 129 [(0, .slice q lows.length c), (1, .slice q2 l.length c2), (6, .pointer (some ⟨pn, 0, none⟩)), (15, .slice q lows.length c), (16, .int .i64 (lows.length : Nat)), (17, .int .i64 (k : Nat))] ∧ LV w0 (bk pn (snP (fun i => if i < k then lowF lows i else 1) (fun j => some (bs j))) 115 :: (snT bs (fun _ => []) ++ L)) w' := ⟨_, fun _ _ _ => Iff.rfl⟩
  have HI := Lib.hid hI
  clear hI
  refine wp_loop_ghost I 4 ((HI.out _ _ _).2 ⟨0, rfl, by decide, by simp, H6.pick _ (P6 0 1 6 15 16 17 rfl rfl rfl rfl rfl rfl), hL⟩) ?_
  clear hL
  intro n a1 wl hi'
  obtain ⟨k, rfl, hk, hgood, H0, hL⟩ := (HI.out _ _ _).1 hi'
  clear hi'
  by_cases hk4 : k < 4
  · have hkl : k < lows.length := by omega
    obtain ⟨z, hz⟩ : ∃ z, z = lows[k] := ⟨_, rfl⟩
    obtain ⟨ad, hq, hc⟩ := r _ (LV.dropl (X := snT bs (fun _ => [])) hL.tail) k hkl
    rw [← hz] at hc
    have hnot : lowB z = false → lows.all lowB = false := fun h => by
      rw [List.all_eq_false]
      exact ⟨z, hz ▸ List.getElem_mem hkl, by rw [h]; decide⟩
    repeat (go_not_at_region 5; go_step)
    refine wp_region_lit ?_
    refine uv 0 H0 rfl (lt_t (by omega)) rfl fun _ H1 => ?_
    refine h_end ?_
    repeat (go_not_at_region 6; go_step)
    refine wp_cond_true (H1.ev (x := .tmp 18) rfl) ?_
    repeat (go_not_at_region 6; go_step)
    refine wp_region_lit ?_
    refine uv 1 H1 rfl (by rw [hq]; exact ix_in rfl hkl) rfl fun _ H2 => ?_
    refine uv 0 H2 rfl (ld_inA hc) rfl fun _ H3 => ?_
    refine us 2 H3 rfl fun _ H4 => ?_
    refine h_end ?_
    repeat (go_not_at_region 7; go_step)
    refine wp_region_lit ?_
    by_cases z1 : z < 1
    · refine uv 1 H4 rfl (lt_t z1) rfl fun _ H5 => ?_
      refine us 4 H5 rfl fun _ H6 => ?_
      refine h_end ?_
      repeat (go_not_at_region 8; go_step)
      refine wp_cond_true (H6.ev (x := .tmp 27) rfl) ?_
      repeat (go_not_at_region 8; go_step)
      refine wp_region_lit ?_
      refine us 2 H6 rfl fun _ H7 => ?_
      refine h_end ?_
      repeat (go_not_at_region 999; go_step)
      rw [if_neg (by rw [hnot (by unfold lowB; rw [decide_eq_false (by omega), Bool.false_and])]; decide)] at hy
      refine H7.ret2 rfl rfl rfl ⟨_, by rw [hy], .inr ⟨by rw [hy]; exact (by decide : (1 : Int) ≠ 0), rfl, LV.dropl (X := snT bs (fun _ => [])) hL.tail⟩⟩
    by_cases z2 : 1099511627776 < z
    · refine uv 1 H4 rfl (lt_f z1) rfl fun _ H5 => ?_
      refine uv 2 H5 rfl (gt_t z2) rfl fun _ H6 => ?_
      refine us 1 H6 rfl fun _ H7 => ?_
      refine h_end ?_
      repeat (go_not_at_region 8; go_step)
      refine wp_cond_true (H7.ev (x := .tmp 27) rfl) ?_
      repeat (go_not_at_region 8; go_step)
      refine wp_region_lit ?_
      refine us 2 H7 rfl fun _ H8 => ?_
      refine h_end ?_
      repeat (go_not_at_region 999; go_step)
      rw [if_neg (by rw [hnot (by unfold lowB; rw [decide_eq_false (show ¬ z ≤ 1099511627776 by omega), Bool.and_false])]; decide)] at hy
      refine H8.ret2 rfl rfl rfl ⟨_, by rw [hy], .inr ⟨by rw [hy]; exact (by decide : (1 : Int) ≠ 0), rfl, LV.dropl (X := snT bs (fun _ => [])) hL.tail⟩⟩
    refine uv 1 H4 rfl (lt_f z1) rfl fun _ H5 => ?_
    refine uv 2 H5 rfl (gt_f z2) rfl fun _ H6 => ?_
    refine us 1 H6 rfl fun _ H7 => ?_
    refine h_end ?_
    repeat (go_not_at_region 9; go_step)
    refine wp_cond_false (H7.ev (x := .tmp 27) rfl) ?_
    repeat (go_not_at_region 9; go_step)
    refine wp_region_lit ?_
    refine uv 5 H7 rfl (ixl hk4) rfl fun _ H8 => ?_
    refine ustS 0 H8 rfl (st_inn hL (snP_lo hk4)) (hL.setL2 hk4) fun _ w9 H9 hL => ?_
    refine h_end ?_
    repeat (go_not_at_region 10; go_step)
    refine wp_region_lit ?_
    refine uv 0 H9 rfl (add_i (by omega) (by omega)) rfl fun _ H10 => ?_
    refine us 1 H10 rfl fun _ H11 => ?_
    refine h_end ?_
    refine ⟨4 - (k + 1), by omega, (HI.out _ _ _).2 ⟨k + 1, rfl, by omega, fun x hx => ?_, H11.pick _ (P6 0 1 6 15 16 17 rfl rfl rfl rfl rfl rfl), ?_⟩⟩
    · rw [List.take_succ_eq_append_getElem hkl, List.mem_append, List.mem_singleton, ← hz] at hx
      rcases hx with hx | rfl
      · exact hgood x hx
      · unfold lowB
        rw [decide_eq_true (by omega), decide_eq_true (by omega)]
        rfl
    have e : upd (fun i => if i < k then lowF lows i else 1) k z = fun i => if i < k + 1 then lowF lows i else 1 := by
      funext i
      unfold upd
      by_cases e1 : i = k
      · rw [if_pos e1, if_pos (by omega), e1, hz]
        unfold lowF
        rw [List.getD_eq_getElem?_getD, List.getElem?_eq_getElem hkl]
        rfl
      · rw [if_neg e1]
        dsimp only
        by_cases e2 : i < k
        · rw [if_pos e2, if_pos (by omega)]
        · rw [if_neg e2, if_neg (by omega)]
    rw [← e]
    exact hL
  · obtain rfl : k = 4 := by omega
    rw [List.take_of_length_le (by omega)] at hgood
    rw [if_pos (List.all_eq_true.2 hgood)] at hy
    have elo : (fun i => if i < 4 then lowF lows i else 1) = lowF lows := by
      funext i
      by_cases e : i < 4
      · rw [if_pos e]
      · rw [if_neg e]
        unfold lowF
        rw [List.getD_eq_getElem?_getD, List.getElem?_eq_none (by omega)]
        rfl
    rw [elo] at hL
    have hlo : ∀ i, i < 4 → 1 ≤ lowF lows i ∧ lowF lows i ≤ 1099511627776 := fun i hi => by
      have hil : i < lows.length := by omega
      have := hgood _ (List.getElem_mem hil)
      unfold lowB at this
      rw [Bool.and_eq_true, decide_eq_true_eq, decide_eq_true_eq] at this
      unfold lowF
      rw [List.getD_eq_getElem?_getD, List.getElem?_eq_getElem hil]
      exact this
    obtain ⟨lo, hlof⟩ : ∃ lo, lo = lowF lows := ⟨_, rfl⟩
    rw [← hlof] at hL hlo hy
    clear hlof elo
    repeat (go_not_at_region 5; go_step)
    refine wp_region_lit ?_
    refine uv 0 H0 rfl (lt_f (by omega)) rfl fun _ H1 => ?_
    refine h_end ?_
    repeat (go_not_at_region 11; go_step)
    refine wp_cond_false (H1.ev (x := .tmp 18) rfl) ?_
    repeat (go_not_at_region 11; go_step)
    refine wp_region_lit ?_
    refine us 3 H1 rfl fun _ H2 => ?_
    refine h_end ?_
    have H3 := H2.kp [1, 6, 35, 36, 37] rfl
    repeat (go_not_at_region 12; go_step)
    obtain ⟨J, hJ⟩ : ∃ I : Nat → Act → World → Prop, ∀ n a' w', I n a' w' ↔ ∃ (j : Nat) (cd : Nat → Cods), n = l.length - j ∧ j ≤ l.length ∧ (∀ i, (cd i).length ≤ j) ∧ y = ((entsM lo l (l.length - j) j cd).1, lo, (entsM lo l (l.length - j) j cd).2) ∧ Fr a' 129 [(1, .slice q2 l.length c2), (6, .pointer (some ⟨pn, 0, none⟩)), (35, .slice q2 l.length c2), (36, .int .i64 (l.length : Nat)), (37, .int .i64 (j : Nat))] ∧ LV w0 (bk pn (snC lo bs) 115 :: (snT bs cd ++ L)) w' := ⟨_, fun _ _ _ => Iff.rfl⟩
    have HJ := Lib.hid hJ
    clear hJ
    refine wp_loop_ghost J l.length ((HJ.out _ _ _).2 ⟨0, fun _ => [], rfl, Nat.zero_le _, fun _ => Nat.le_refl _, hy, H3.pick _ (P5 1 6 35 36 37 rfl rfl rfl rfl rfl), hL⟩) ?_
    clear hL hy
    intro n a2 wm hi'
    obtain ⟨j, cd, rfl, hj, hcl, hy, H0, hL⟩ := (HJ.out _ _ _).1 hi'
    clear hi'
    by_cases hjl : j < l.length
    · obtain ⟨x, hx⟩ : ∃ x, x = l[j] := ⟨_, rfl⟩
      rw [show l.length - j = (l.length - (j + 1)) + 1 by omega] at hy
      unfold entsM at hy
      rw [List.getElem?_eq_getElem hjl, ← hx] at hy
      simp only at hy
      obtain ⟨ad, hq, hc⟩ := r2 _ (LV.dropl (X := snT bs cd) hL.tail) j hjl
      rw [← hx] at hc
      repeat (go_not_at_region 12; go_step)
      refine wp_region_lit ?_
      refine uv 0 H0 rfl (lt_t (by omega)) rfl fun _ H1 => ?_
      refine h_end ?_
      repeat (go_not_at_region 13; go_step)
      refine wp_cond_true (H1.ev (x := .tmp 38) rfl) ?_
      repeat (go_not_at_region 13; go_step)
      refine wp_region_lit ?_
      refine uv 1 H1 rfl (by rw [hq]; exact ix_en rfl hjl) rfl fun _ H2 => ?_
      refine uv 0 H2 rfl (ld_enA hc) rfl fun _ H3 => ?_
      refine uvS 0 H3 rfl al_en1 (hL.alloc _ _) rfl fun _ w4 H4 hL => ?_
      refine ustS 1 H4 rfl (strw rfl hL.at_ rfl (en_one1 x)) (hL.row _) fun _ w5 H5 hL => ?_
      refine h_end ?_
      obtain ⟨ge, hge⟩ : ∃ g, g = wm.heap.size := ⟨_, rfl⟩
      rw [← hge] at H5 hL
      clear hge
      repeat (go_not_at_region 14; go_step)
      refine wp_region_held_drew (S := fun w' => (w'.heap[ge]? = some (.cells (enC x).toArray 93 (0, 0)) ∧ w'.heap[pn]? = some (.cells (snC lo bs) 115 (0, 0)))) (by kernel_rfl) (⟨hL.drew.mem_at (by simp), hL.drew.mem_at (by simp)⟩) (fun _ => ?_)
      replace hL := hL.drew
      refine auv 2 [0] 1 rfl H5 rfl (by kernel_rfl) ⟨hL.mem_at (by simp), hL.mem_at (by simp)⟩ (fun _ _ _ _ _ h => h) (fun _ hL => (ld1 rfl (cells_at hL.1 0))) rfl fun _ H6 => ?_
      by_cases e1 : x.1 < 0
      · refine auv 1 [] 2 rfl H6 rfl (by kernel_rfl) ⟨hL.mem_at (by simp), hL.mem_at (by simp)⟩ (fun _ _ _ _ _ h => h) (fun _ hL => (lt_t e1)) rfl fun _ H7 => ?_
        refine aus 36 [3, 4, 5, 6, 7, 8, 9, 10, 11, 12, 13, 14, 15, 16, 17, 18, 19, 20, 21, 22, 23, 24, 25, 26, 27, 28, 29, 30, 31, 32, 33, 34, 35, 36, 37, 38] rfl H7 rfl (by kernel_rfl) ⟨hL.mem_at (by simp), hL.mem_at (by simp)⟩ (fun _ _ _ _ _ h => h) fun _ H8 => ?_
        refine wpAnyH_done (by kernel_rfl) ?_ _
        repeat (go_not_at_region 15; go_step)
        refine wp_cond_true (H8.ev (x := .tmp 80) rfl) ?_
        repeat (go_not_at_region 15; go_step)
        refine wp_region_lit ?_
        refine us 2 H8 rfl fun _ H9 => ?_
        refine h_end ?_
        repeat (go_not_at_region 999; go_step)
        rw [if_pos (by unfold badE; rw [decide_eq_true e1, Bool.true_or])] at hy
        refine H9.ret2 rfl rfl rfl ⟨_, by rw [hy], .inr ⟨by rw [hy]; exact (by decide : (1 : Int) ≠ 0), rfl, LV.dropl (X := snT bs cd) hL.tail.tail⟩⟩
      refine auv 1 [] 2 rfl H6 rfl (by kernel_rfl) ⟨hL.mem_at (by simp), hL.mem_at (by simp)⟩ (fun _ _ _ _ _ h => h) (fun _ hL => (lt_f e1)) rfl fun _ H7 => ?_
      refine aus 1 [3] rfl H7 rfl (by kernel_rfl) ⟨hL.mem_at (by simp), hL.mem_at (by simp)⟩ (fun _ _ _ _ _ h => h) fun _ H8 => ?_
      refine auv 2 [4] 5 rfl H8 rfl (by kernel_rfl) ⟨hL.mem_at (by simp), hL.mem_at (by simp)⟩ (fun _ _ _ _ _ h => h) (fun _ hL => (ld1 rfl (cells_at hL.1 0))) rfl fun _ H9 => ?_
      by_cases e2 : 4 ≤ x.1
      · refine auv 1 [] 6 rfl H9 rfl (by kernel_rfl) ⟨hL.mem_at (by simp), hL.mem_at (by simp)⟩ (fun _ _ _ _ _ h => h) (fun _ hL => (ge_t e2)) rfl fun _ H10 => ?_
        refine aus 32 [7, 8, 9, 10, 11, 12, 13, 14, 15, 16, 17, 18, 19, 20, 21, 22, 23, 24, 25, 26, 27, 28, 29, 30, 31, 32, 33, 34, 35, 36, 37, 38] rfl H10 rfl (by kernel_rfl) ⟨hL.mem_at (by simp), hL.mem_at (by simp)⟩ (fun _ _ _ _ _ h => h) fun _ H11 => ?_
        refine wpAnyH_done (by kernel_rfl) ?_ _
        repeat (go_not_at_region 15; go_step)
        refine wp_cond_true (H11.ev (x := .tmp 80) rfl) ?_
        repeat (go_not_at_region 15; go_step)
        refine wp_region_lit ?_
        refine us 2 H11 rfl fun _ H12 => ?_
        refine h_end ?_
        repeat (go_not_at_region 999; go_step)
        rw [if_pos (by unfold badE; rw [decide_eq_true (show x.1 ≥ 4 from e2), Bool.true_or, Bool.or_true])] at hy
        refine H12.ret2 rfl rfl rfl ⟨_, by rw [hy], .inr ⟨by rw [hy]; exact (by decide : (1 : Int) ≠ 0), rfl, LV.dropl (X := snT bs cd) hL.tail.tail⟩⟩
      refine auv 1 [] 6 rfl H9 rfl (by kernel_rfl) ⟨hL.mem_at (by simp), hL.mem_at (by simp)⟩ (fun _ _ _ _ _ h => h) (fun _ hL => (ge_f e2)) rfl fun _ H10 => ?_
      refine aus 2 [7, 8] rfl H10 rfl (by kernel_rfl) ⟨hL.mem_at (by simp), hL.mem_at (by simp)⟩ (fun _ _ _ _ _ h => h) fun _ H11 => ?_
      refine auv 2 [9] 10 rfl H11 rfl (by kernel_rfl) ⟨hL.mem_at (by simp), hL.mem_at (by simp)⟩ (fun _ _ _ _ _ h => h) (fun _ hL => (ld1 rfl (cells_at hL.1 2))) rfl fun _ H12 => ?_
      refine auq 1 [] 11 rfl H12 rfl (by kernel_rfl) ⟨hL.mem_at (by simp), hL.mem_at (by simp)⟩ (fun _ _ _ _ _ h => h) (by kernel_rfl) (fun _ hL => codeB_any _ _) rfl fun _ H13 => ?_
      by_cases e3 : codeB x.2.2 = true
      rotate_left
      · have e3' : codeB x.2.2 = false := by simpa using e3
        rw [e3'] at H13
        refine aus 27 [12, 13, 14, 15, 16, 17, 18, 19, 20, 21, 22, 23, 24, 25, 26, 27, 28, 29, 30, 31, 32, 33, 34, 35, 36, 37, 38] rfl H13 rfl (by kernel_rfl) ⟨hL.mem_at (by simp), hL.mem_at (by simp)⟩ (fun _ _ _ _ _ h => h) fun _ H14 => ?_
        refine wpAnyH_done (by kernel_rfl) ?_ _
        repeat (go_not_at_region 15; go_step)
        refine wp_cond_true (H14.ev (x := .tmp 80) rfl) ?_
        repeat (go_not_at_region 15; go_step)
        refine wp_region_lit ?_
        refine us 2 H14 rfl fun _ H15 => ?_
        refine h_end ?_
        repeat (go_not_at_region 999; go_step)
        rw [if_pos (by unfold badE; rw [e3', Bool.not_false, Bool.true_or, Bool.or_true, Bool.or_true])] at hy
        refine H15.ret2 rfl rfl rfl ⟨_, by rw [hy], .inr ⟨by rw [hy]; exact (by decide : (1 : Int) ≠ 0), rfl, LV.dropl (X := snT bs cd) hL.tail.tail⟩⟩
      rw [e3] at H13
      obtain ⟨i, hi, hi4⟩ : ∃ i : Nat, x.1 = (i : Nat) ∧ i < 4 := ⟨x.1.toNat, by omega, by omega⟩
      have hit : x.1.toNat = i := by omega
      have hli := hlo i hi4
      refine aus 3 [12, 13, 14] rfl H13 rfl (by kernel_rfl) ⟨hL.mem_at (by simp), hL.mem_at (by simp)⟩ (fun _ _ _ _ _ h => h) fun _ H14 => ?_
      refine auv 2 [15] 16 rfl H14 rfl (by kernel_rfl) ⟨hL.mem_at (by simp), hL.mem_at (by simp)⟩ (fun _ _ _ _ _ h => h) (fun _ hL => (ld1 rfl (cells_at hL.1 1))) rfl fun _ H15 => ?_
      refine aus 1 [17] rfl H15 rfl (by kernel_rfl) ⟨hL.mem_at (by simp), hL.mem_at (by simp)⟩ (fun _ _ _ _ _ h => h) fun _ H16 => ?_
      refine auv 2 [18] 19 rfl H16 rfl (by kernel_rfl) ⟨hL.mem_at (by simp), hL.mem_at (by simp)⟩ (fun _ _ _ _ _ h => h) (fun _ hL => (ld1 rfl (cells_at hL.1 0))) rfl fun _ H17 => ?_
      refine aus 2 [20, 21] rfl H17 rfl (by kernel_rfl) ⟨hL.mem_at (by simp), hL.mem_at (by simp)⟩ (fun _ _ _ _ _ h => h) fun _ H18 => ?_
      refine auv 1 [] 22 rfl H18 rfl (by kernel_rfl) ⟨hL.mem_at (by simp), hL.mem_at (by simp)⟩ (fun _ _ _ _ _ h => h) (fun _ hL => (ixl_z hi hi4)) rfl fun _ H19 => ?_
      refine auv 1 [] 23 rfl H19 rfl (by kernel_rfl) ⟨hL.mem_at (by simp), hL.mem_at (by simp)⟩ (fun _ _ _ _ _ h => h) (fun _ hL => (ld1 rfl ((cells_at hL.2 _).trans (snP_lo hi4)))) rfl fun _ H20 => ?_
      by_cases e4 : x.2.1 < lo i
      · refine auv 1 [] 24 rfl H20 rfl (by kernel_rfl) ⟨hL.mem_at (by simp), hL.mem_at (by simp)⟩ (fun _ _ _ _ _ h => h) (fun _ hL => (lt_t e4)) rfl fun _ H21 => ?_
        refine aus 14 [25, 26, 27, 28, 29, 30, 31, 32, 33, 34, 35, 36, 37, 38] rfl H21 rfl (by kernel_rfl) ⟨hL.mem_at (by simp), hL.mem_at (by simp)⟩ (fun _ _ _ _ _ h => h) fun _ H22 => ?_
        refine wpAnyH_done (by kernel_rfl) ?_ _
        repeat (go_not_at_region 15; go_step)
        refine wp_cond_true (H22.ev (x := .tmp 80) rfl) ?_
        repeat (go_not_at_region 15; go_step)
        refine wp_region_lit ?_
        refine us 2 H22 rfl fun _ H23 => ?_
        refine h_end ?_
        repeat (go_not_at_region 999; go_step)
        rw [if_pos (by unfold badE; rw [hit, decide_eq_true e4, Bool.true_or, Bool.or_true, Bool.or_true, Bool.or_true])] at hy
        refine H23.ret2 rfl rfl rfl ⟨_, by rw [hy], .inr ⟨by rw [hy]; exact (by decide : (1 : Int) ≠ 0), rfl, LV.dropl (X := snT bs cd) hL.tail.tail⟩⟩
      refine auv 1 [] 24 rfl H20 rfl (by kernel_rfl) ⟨hL.mem_at (by simp), hL.mem_at (by simp)⟩ (fun _ _ _ _ _ h => h) (fun _ hL => (lt_f e4)) rfl fun _ H21 => ?_
      refine aus 2 [25, 26] rfl H21 rfl (by kernel_rfl) ⟨hL.mem_at (by simp), hL.mem_at (by simp)⟩ (fun _ _ _ _ _ h => h) fun _ H22 => ?_
      refine auv 2 [27] 28 rfl H22 rfl (by kernel_rfl) ⟨hL.mem_at (by simp), hL.mem_at (by simp)⟩ (fun _ _ _ _ _ h => h) (fun _ hL => (ld1 rfl (cells_at hL.1 1))) rfl fun _ H23 => ?_
      refine aus 1 [29] rfl H23 rfl (by kernel_rfl) ⟨hL.mem_at (by simp), hL.mem_at (by simp)⟩ (fun _ _ _ _ _ h => h) fun _ H24 => ?_
      refine auv 2 [30] 31 rfl H24 rfl (by kernel_rfl) ⟨hL.mem_at (by simp), hL.mem_at (by simp)⟩ (fun _ _ _ _ _ h => h) (fun _ hL => (ld1 rfl (cells_at hL.1 0))) rfl fun _ H25 => ?_
      refine aus 2 [32, 33] rfl H25 rfl (by kernel_rfl) ⟨hL.mem_at (by simp), hL.mem_at (by simp)⟩ (fun _ _ _ _ _ h => h) fun _ H26 => ?_
      refine auv 1 [] 34 rfl H26 rfl (by kernel_rfl) ⟨hL.mem_at (by simp), hL.mem_at (by simp)⟩ (fun _ _ _ _ _ h => h) (fun _ hL => (ixl_z hi hi4)) rfl fun _ H27 => ?_
      refine auv 1 [] 35 rfl H27 rfl (by kernel_rfl) ⟨hL.mem_at (by simp), hL.mem_at (by simp)⟩ (fun _ _ _ _ _ h => h) (fun _ hL => (ld1 rfl ((cells_at hL.2 _).trans (snP_lo hi4)))) rfl fun _ H28 => ?_
      refine auv 1 [] 36 rfl H28 rfl (by kernel_rfl) ⟨hL.mem_at (by simp), hL.mem_at (by simp)⟩ (fun _ _ _ _ _ h => h) (fun _ hL => (add_i (by omega) (by omega))) rfl fun _ H29 => ?_
      by_cases e5 : lo i + 16 ≤ x.2.1
      · refine auv 1 [] 37 rfl H29 rfl (by kernel_rfl) ⟨hL.mem_at (by simp), hL.mem_at (by simp)⟩ (fun _ _ _ _ _ h => h) (fun _ hL => (ge_t e5)) rfl fun _ H30 => ?_
        refine aus 1 [38] rfl H30 rfl (by kernel_rfl) ⟨hL.mem_at (by simp), hL.mem_at (by simp)⟩ (fun _ _ _ _ _ h => h) fun _ H31 => ?_
        refine wpAnyH_done (by kernel_rfl) ?_ _
        repeat (go_not_at_region 15; go_step)
        refine wp_cond_true (H31.ev (x := .tmp 80) rfl) ?_
        repeat (go_not_at_region 15; go_step)
        refine wp_region_lit ?_
        refine us 2 H31 rfl fun _ H32 => ?_
        refine h_end ?_
        repeat (go_not_at_region 999; go_step)
        rw [if_pos (by unfold badE; rw [hit, decide_eq_true (show x.2.1 ≥ lo i + 16 from e5), Bool.or_true, Bool.or_true, Bool.or_true, Bool.or_true])] at hy
        refine H32.ret2 rfl rfl rfl ⟨_, by rw [hy], .inr ⟨by rw [hy]; exact (by decide : (1 : Int) ≠ 0), rfl, LV.dropl (X := snT bs cd) hL.tail.tail⟩⟩
      refine auv 1 [] 37 rfl H29 rfl (by kernel_rfl) ⟨hL.mem_at (by simp), hL.mem_at (by simp)⟩ (fun _ _ _ _ _ h => h) (fun _ hL => (ge_f e5)) rfl fun _ H30 => ?_
      refine aus 1 [38] rfl H30 rfl (by kernel_rfl) ⟨hL.mem_at (by simp), hL.mem_at (by simp)⟩ (fun _ _ _ _ _ h => h) fun _ H31 => ?_
      refine wpAnyH_done (by kernel_rfl) ?_ _
      have hb : badE lo x = false := by
        unfold badE
        rw [hit, decide_eq_false e1, decide_eq_false (show ¬ x.1 ≥ 4 from e2), e3, decide_eq_false e4, decide_eq_false (show ¬ x.2.1 ≥ lo i + 16 from e5)]
        rfl
      rw [hb, if_neg (by decide), hit] at hy
      repeat (go_not_at_region 16; go_step)
      refine wp_cond_false (H31.ev (x := .tmp 80) rfl) ?_
      repeat (go_not_at_region 16; go_step)
      refine wp_cut (fun a' w' => Fr a' 129 [(1, .slice q2 l.length c2), (6, .pointer (some ⟨pn, 0, none⟩)), (10, .pointer (some ⟨ge, 0, none⟩)), (35, .slice q2 l.length c2), (36, .int .i64 (l.length : Nat)), (37, .int .i64 (j : Nat)), (115, .bool (prevE l j x))] ∧ LV w0 (bk ge (enC x).toArray 93 :: bk pn (snC lo bs) 115 :: (snT bs cd ++ L)) w') ?_ ?_
      rotate_left
      · intro JJ K' hJJ hM
        refine wp_region_held_drew (S := fun w' => (w'.heap[ge]? = some (.cells (enC x).toArray 93 (0, 0)) ∧ ∀ i (hi : i < l.length), ∃ ad, q2 = some ad ∧ ∀ (k : Nat) u, (enC l[i]).toArray[k]? = some u → w'.cell? ((ad.add (i * 3)).add k) = some u)) (by kernel_rfl) (⟨hL.drew.mem_at (by simp), fun i hi => r2 _ (LV.dropl (X := snT bs cd) hL.drew.tail.tail) i hi⟩) (fun _ => ?_)
        replace hL := hL.drew
        cases j with
        | zero =>
          refine aus 1 [0] rfl H31 rfl (by kernel_rfl) ⟨hL.mem_at (by simp), fun i hi => r2 _ (LV.dropl (X := snT bs cd) hL.tail.tail) i hi⟩ (fun _ _ _ _ _ h => h) fun _ H32 => ?_
          refine auv 1 [] 1 rfl H32 rfl (by kernel_rfl) ⟨hL.mem_at (by simp), fun i hi => r2 _ (LV.dropl (X := snT bs cd) hL.tail.tail) i hi⟩ (fun _ _ _ _ _ h => h) (fun _ hL => (gt_f (by decide))) rfl fun _ H33 => ?_
          refine aus 33 [2, 3, 4, 5, 6, 7, 8, 9, 10, 11, 12, 13, 14, 15, 16, 17, 18, 19, 20, 21, 22, 23, 24, 25, 26, 27, 28, 29, 30, 31, 32, 33, 34] rfl H33 rfl (by kernel_rfl) ⟨hL.mem_at (by simp), fun i hi => r2 _ (LV.dropl (X := snT bs cd) hL.tail.tail) i hi⟩ (fun _ _ _ _ _ h => h) fun _ H34 => ?_
          refine wpAnyH_done (by kernel_rfl) ?_ _
          refine hM _ _ (Met.intro (hJJ _ _ ⟨?_, hL⟩))
          rw [show prevE l 0 x = false from rfl]
          exact H34.pick _ (P7 1 6 10 35 36 37 115 rfl rfl rfl rfl rfl rfl rfl)
        | succ i' =>
          have hil : i' < l.length := by omega
          obtain ⟨p, hp⟩ : ∃ p, p = l[i'] := ⟨_, rfl⟩
          have hpv : prevE l (i' + 1) x = notUp p x := by
            show (match l[i']? with | some p => notUp p x | none => false) = _
            rw [List.getElem?_eq_getElem hil, ← hp]
          obtain ⟨ad2, hq2, _⟩ := r2 _ (LV.dropl (X := snT bs cd) hL.tail.tail) i' hil
          have hrd : ∀ w : World, ((w.heap[ge]? = some (.cells (enC x).toArray 93 (0, 0)) ∧ ∀ i (hi : i < l.length), ∃ ad, q2 = some ad ∧ ∀ (k : Nat) u, (enC l[i]).toArray[k]? = some u → w.cell? ((ad.add (i * 3)).add k) = some u)) → ∀ (k : Nat) u, (enC p).toArray[k]? = some u → w.cell? ((ad2.add (i' * 3)).add k) = some u := fun w h => by
            obtain ⟨ad3, h3, h4⟩ := h.2 i' hil
            rw [hq2] at h3
            cases h3
            rw [← hp] at h4
            exact h4
          refine aus 1 [0] rfl H31 rfl (by kernel_rfl) ⟨hL.mem_at (by simp), fun i hi => r2 _ (LV.dropl (X := snT bs cd) hL.tail.tail) i hi⟩ (fun _ _ _ _ _ h => h) fun _ H32 => ?_
          refine auv 1 [] 1 rfl H32 rfl (by kernel_rfl) ⟨hL.mem_at (by simp), fun i hi => r2 _ (LV.dropl (X := snT bs cd) hL.tail.tail) i hi⟩ (fun _ _ _ _ _ h => h) (fun _ hL => (gt_t (by omega))) rfl fun _ H33 => ?_
          refine aus 3 [2, 3, 4] rfl H33 rfl (by kernel_rfl) ⟨hL.mem_at (by simp), fun i hi => r2 _ (LV.dropl (X := snT bs cd) hL.tail.tail) i hi⟩ (fun _ _ _ _ _ h => h) fun _ H34 => ?_
          refine auv 1 [] 5 rfl H34 rfl (by kernel_rfl) ⟨hL.mem_at (by simp), fun i hi => r2 _ (LV.dropl (X := snT bs cd) hL.tail.tail) i hi⟩ (fun _ _ _ _ _ h => h) (fun _ hL => (sub_i (by omega) (by omega))) rfl fun _ H35 => ?_
          refine auv 1 [] 6 rfl H35 rfl (by kernel_rfl) ⟨hL.mem_at (by simp), fun i hi => r2 _ (LV.dropl (X := snT bs cd) hL.tail.tail) i hi⟩ (fun _ _ _ _ _ h => h) (fun _ hL => (ix_enz hq2 (by omega) hil)) rfl fun _ H36 => ?_
          refine auv 1 [] 7 rfl H36 rfl (by kernel_rfl) ⟨hL.mem_at (by simp), fun i hi => r2 _ (LV.dropl (X := snT bs cd) hL.tail.tail) i hi⟩ (fun _ _ _ _ _ h => h) (fun _ hL => fa_e0) rfl fun _ H37 => ?_
          refine auv 1 [] 8 rfl H37 rfl (by kernel_rfl) ⟨hL.mem_at (by simp), fun i hi => r2 _ (LV.dropl (X := snT bs cd) hL.tail.tail) i hi⟩ (fun _ _ _ _ _ h => h) (fun _ hL => (ld1 rfl (hrd _ hL 0 _ rfl))) rfl fun _ H38 => ?_
          refine auv 2 [9] 10 rfl H38 rfl (by kernel_rfl) ⟨hL.mem_at (by simp), fun i hi => r2 _ (LV.dropl (X := snT bs cd) hL.tail.tail) i hi⟩ (fun _ _ _ _ _ h => h) (fun _ hL => (ld1 rfl (cells_at hL.1 0))) rfl fun _ H39 => ?_
          by_cases f1 : p.1 > x.1
          · refine auv 1 [] 11 rfl H39 rfl (by kernel_rfl) ⟨hL.mem_at (by simp), fun i hi => r2 _ (LV.dropl (X := snT bs cd) hL.tail.tail) i hi⟩ (fun _ _ _ _ _ h => h) (fun _ hL => (gt_t f1)) rfl fun _ H40 => ?_
            refine aus 23 [12, 13, 14, 15, 16, 17, 18, 19, 20, 21, 22, 23, 24, 25, 26, 27, 28, 29, 30, 31, 32, 33, 34] rfl H40 rfl (by kernel_rfl) ⟨hL.mem_at (by simp), fun i hi => r2 _ (LV.dropl (X := snT bs cd) hL.tail.tail) i hi⟩ (fun _ _ _ _ _ h => h) fun _ H41 => ?_
            refine wpAnyH_done (by kernel_rfl) ?_ _
            refine hM _ _ (Met.intro (hJJ _ _ ⟨?_, hL⟩))
            rw [hpv, show notUp p x = true by unfold notUp; rw [decide_eq_true f1, Bool.true_or]]
            exact H41.pick _ (P7 1 6 10 35 36 37 115 rfl rfl rfl rfl rfl rfl rfl)
          refine auv 1 [] 11 rfl H39 rfl (by kernel_rfl) ⟨hL.mem_at (by simp), fun i hi => r2 _ (LV.dropl (X := snT bs cd) hL.tail.tail) i hi⟩ (fun _ _ _ _ _ h => h) (fun _ hL => (gt_f f1)) rfl fun _ H40 => ?_
          refine aus 3 [12, 13, 14] rfl H40 rfl (by kernel_rfl) ⟨hL.mem_at (by simp), fun i hi => r2 _ (LV.dropl (X := snT bs cd) hL.tail.tail) i hi⟩ (fun _ _ _ _ _ h => h) fun _ H41 => ?_
          refine auv 1 [] 15 rfl H41 rfl (by kernel_rfl) ⟨hL.mem_at (by simp), fun i hi => r2 _ (LV.dropl (X := snT bs cd) hL.tail.tail) i hi⟩ (fun _ _ _ _ _ h => h) (fun _ hL => (sub_i (by omega) (by omega))) rfl fun _ H42 => ?_
          refine auv 1 [] 16 rfl H42 rfl (by kernel_rfl) ⟨hL.mem_at (by simp), fun i hi => r2 _ (LV.dropl (X := snT bs cd) hL.tail.tail) i hi⟩ (fun _ _ _ _ _ h => h) (fun _ hL => (ix_enz hq2 (by omega) hil)) rfl fun _ H43 => ?_
          refine auv 1 [] 17 rfl H43 rfl (by kernel_rfl) ⟨hL.mem_at (by simp), fun i hi => r2 _ (LV.dropl (X := snT bs cd) hL.tail.tail) i hi⟩ (fun _ _ _ _ _ h => h) (fun _ hL => fa_e0) rfl fun _ H44 => ?_
          refine auv 1 [] 18 rfl H44 rfl (by kernel_rfl) ⟨hL.mem_at (by simp), fun i hi => r2 _ (LV.dropl (X := snT bs cd) hL.tail.tail) i hi⟩ (fun _ _ _ _ _ h => h) (fun _ hL => (ld1 rfl (hrd _ hL 0 _ rfl))) rfl fun _ H45 => ?_
          refine auv 2 [19] 20 rfl H45 rfl (by kernel_rfl) ⟨hL.mem_at (by simp), fun i hi => r2 _ (LV.dropl (X := snT bs cd) hL.tail.tail) i hi⟩ (fun _ _ _ _ _ h => h) (fun _ hL => (ld1 rfl (cells_at hL.1 0))) rfl fun _ H46 => ?_
          by_cases f2 : p.1 = x.1
          rotate_left
          · refine auv 1 [] 21 rfl H46 rfl (by kernel_rfl) ⟨hL.mem_at (by simp), fun i hi => r2 _ (LV.dropl (X := snT bs cd) hL.tail.tail) i hi⟩ (fun _ _ _ _ _ h => h) (fun _ hL => (eq_f f2)) rfl fun _ H47 => ?_
            refine aus 13 [22, 23, 24, 25, 26, 27, 28, 29, 30, 31, 32, 33, 34] rfl H47 rfl (by kernel_rfl) ⟨hL.mem_at (by simp), fun i hi => r2 _ (LV.dropl (X := snT bs cd) hL.tail.tail) i hi⟩ (fun _ _ _ _ _ h => h) fun _ H48 => ?_
            refine wpAnyH_done (by kernel_rfl) ?_ _
            refine hM _ _ (Met.intro (hJJ _ _ ⟨?_, hL⟩))
            rw [hpv, show notUp p x = false by unfold notUp; rw [decide_eq_false f1, decide_eq_false f2, Bool.false_and, Bool.or_false]]
            exact H48.pick _ (P7 1 6 10 35 36 37 115 rfl rfl rfl rfl rfl rfl rfl)
          refine auv 1 [] 21 rfl H46 rfl (by kernel_rfl) ⟨hL.mem_at (by simp), fun i hi => r2 _ (LV.dropl (X := snT bs cd) hL.tail.tail) i hi⟩ (fun _ _ _ _ _ h => h) (fun _ hL => (eq_t f2)) rfl fun _ H47 => ?_
          refine aus 3 [22, 23, 24] rfl H47 rfl (by kernel_rfl) ⟨hL.mem_at (by simp), fun i hi => r2 _ (LV.dropl (X := snT bs cd) hL.tail.tail) i hi⟩ (fun _ _ _ _ _ h => h) fun _ H48 => ?_
          refine auv 1 [] 25 rfl H48 rfl (by kernel_rfl) ⟨hL.mem_at (by simp), fun i hi => r2 _ (LV.dropl (X := snT bs cd) hL.tail.tail) i hi⟩ (fun _ _ _ _ _ h => h) (fun _ hL => (sub_i (by omega) (by omega))) rfl fun _ H49 => ?_
          refine auv 1 [] 26 rfl H49 rfl (by kernel_rfl) ⟨hL.mem_at (by simp), fun i hi => r2 _ (LV.dropl (X := snT bs cd) hL.tail.tail) i hi⟩ (fun _ _ _ _ _ h => h) (fun _ hL => (ix_enz hq2 (by omega) hil)) rfl fun _ H50 => ?_
          refine auv 1 [] 27 rfl H50 rfl (by kernel_rfl) ⟨hL.mem_at (by simp), fun i hi => r2 _ (LV.dropl (X := snT bs cd) hL.tail.tail) i hi⟩ (fun _ _ _ _ _ h => h) (fun _ hL => fa_e1) rfl fun _ H51 => ?_
          refine auv 1 [] 28 rfl H51 rfl (by kernel_rfl) ⟨hL.mem_at (by simp), fun i hi => r2 _ (LV.dropl (X := snT bs cd) hL.tail.tail) i hi⟩ (fun _ _ _ _ _ h => h) (fun _ hL => (ld1 rfl (hrd _ hL 1 _ rfl))) rfl fun _ H52 => ?_
          refine auv 2 [29] 30 rfl H52 rfl (by kernel_rfl) ⟨hL.mem_at (by simp), fun i hi => r2 _ (LV.dropl (X := snT bs cd) hL.tail.tail) i hi⟩ (fun _ _ _ _ _ h => h) (fun _ hL => (ld1 rfl (cells_at hL.1 1))) rfl fun _ H53 => ?_
          by_cases f3 : x.2.1 ≤ p.2.1
          · refine auv 1 [] 31 rfl H53 rfl (by kernel_rfl) ⟨hL.mem_at (by simp), fun i hi => r2 _ (LV.dropl (X := snT bs cd) hL.tail.tail) i hi⟩ (fun _ _ _ _ _ h => h) (fun _ hL => (ge_t f3)) rfl fun _ H54 => ?_
            refine aus 3 [32, 33, 34] rfl H54 rfl (by kernel_rfl) ⟨hL.mem_at (by simp), fun i hi => r2 _ (LV.dropl (X := snT bs cd) hL.tail.tail) i hi⟩ (fun _ _ _ _ _ h => h) fun _ H55 => ?_
            refine wpAnyH_done (by kernel_rfl) ?_ _
            refine hM _ _ (Met.intro (hJJ _ _ ⟨?_, hL⟩))
            rw [hpv, show notUp p x = true by unfold notUp; rw [decide_eq_true f2, decide_eq_true (show p.2.1 ≥ x.2.1 from f3), Bool.and_self, Bool.or_true]]
            exact H55.pick _ (P7 1 6 10 35 36 37 115 rfl rfl rfl rfl rfl rfl rfl)
          refine auv 1 [] 31 rfl H53 rfl (by kernel_rfl) ⟨hL.mem_at (by simp), fun i hi => r2 _ (LV.dropl (X := snT bs cd) hL.tail.tail) i hi⟩ (fun _ _ _ _ _ h => h) (fun _ hL => (ge_f f3)) rfl fun _ H54 => ?_
          refine aus 3 [32, 33, 34] rfl H54 rfl (by kernel_rfl) ⟨hL.mem_at (by simp), fun i hi => r2 _ (LV.dropl (X := snT bs cd) hL.tail.tail) i hi⟩ (fun _ _ _ _ _ h => h) fun _ H55 => ?_
          refine wpAnyH_done (by kernel_rfl) ?_ _
          refine hM _ _ (Met.intro (hJJ _ _ ⟨?_, hL⟩))
          rw [hpv, show notUp p x = false by unfold notUp; rw [decide_eq_false f1, decide_eq_false (show ¬ p.2.1 ≥ x.2.1 from f3), Bool.and_false, Bool.or_false]]
          exact H55.pick _ (P7 1 6 10 35 36 37 115 rfl rfl rfl rfl rfl rfl rfl)
      intro ac wc hcut
      obtain ⟨H0, hL⟩ := hcut
      by_cases hpv : prevE l j x = true
      · rw [hpv] at H0 hy
        rw [if_pos rfl] at hy
        repeat (go_not_at_region 17; go_step)
        refine wp_cond_true (H0.ev (x := .tmp 115) rfl) ?_
        repeat (go_not_at_region 17; go_step)
        refine wp_region_lit ?_
        refine us 2 H0 rfl fun _ H1 => ?_
        refine h_end ?_
        repeat (go_not_at_region 999; go_step)
        refine H1.ret2 rfl rfl rfl ⟨_, by rw [hy], .inr ⟨by rw [hy]; exact (by decide : (1 : Int) ≠ 0), rfl, LV.dropl (X := snT bs cd) hL.tail.tail⟩⟩
      have hpv2 : prevE l j x = false := by simpa using hpv
      rw [hpv2] at H0 hy
      rw [if_neg (by decide)] at hy
      repeat (go_not_at_region 18; go_step)
      refine wp_cond_false (H0.ev (x := .tmp 115) rfl) ?_
      repeat (go_not_at_region 18; go_step)
      refine wp_region_held_drew (S := fun w' => (w'.heap[ge]? = some (.cells (enC x).toArray 93 (0, 0)) ∧ w'.heap[pn]? = some (.cells (snC lo bs) 115 (0, 0)))) (by kernel_rfl) (⟨hL.drew.mem_at (by simp), hL.drew.mem_at (by simp)⟩) (fun _ => ?_)
      replace hL := hL.drew
      refine auv 3 [0, 1] 2 rfl H0 rfl (by kernel_rfl) ⟨hL.mem_at (by simp), hL.mem_at (by simp)⟩ (fun _ _ _ _ _ h => h) (fun _ hL => (ld1 rfl (cells_at hL.1 0))) rfl fun _ H1 => ?_
      refine aus 2 [3, 4] rfl H1 rfl (by kernel_rfl) ⟨hL.mem_at (by simp), hL.mem_at (by simp)⟩ (fun _ _ _ _ _ h => h) fun _ H2 => ?_
      refine auv 1 [] 5 rfl H2 rfl (by kernel_rfl) ⟨hL.mem_at (by simp), hL.mem_at (by simp)⟩ (fun _ _ _ _ _ h => h) (fun _ hL => (ixm_z hi hi4)) rfl fun _ H3 => ?_
      refine auv 1 [] 6 rfl H3 rfl (by kernel_rfl) ⟨hL.mem_at (by simp), hL.mem_at (by simp)⟩ (fun _ _ _ _ _ h => h) (fun _ hL => (ld1 rfl ((cells_at hL.2 (4 + i)).trans (snP_mp hi4)))) rfl fun _ H4 => ?_
      refine auv 2 [7] 8 rfl H4 rfl (by kernel_rfl) ⟨hL.mem_at (by simp), hL.mem_at (by simp)⟩ (fun _ _ _ _ _ h => h) (fun _ hL => (ld1 rfl (cells_at hL.1 1))) rfl fun _ H5 => ?_
      refine auv 2 [9] 10 rfl H5 rfl (by kernel_rfl) ⟨hL.mem_at (by simp), hL.mem_at (by simp)⟩ (fun _ _ _ _ _ h => h) (fun _ hL => (ld1 rfl (cells_at hL.1 2))) rfl fun _ H6 => ?_
      obtain ⟨W9, hmu, hL9⟩ := noteP (X := [bk ge (enC x).toArray 93, bk pn (snC lo bs) 115]) (seq := x.2.1) (n := x.2.2) hi4 hL (by omega) (by omega) (by have := hcl i; omega)
      refine a_all1 11 (by kernel_rfl) ?_
      refine omuS 11 H6 rfl hmu (hL9) fun _ w7 H7 hL => ⟨⟨hL.mem_at (by simp), hL.mem_at (by simp)⟩, ?_⟩
      refine wpAnyH_done (by kernel_rfl) ?_ _
      repeat (go_not_at_region 19; go_step)
      refine wp_region_lit ?_
      refine uv 0 H7 rfl (add_i (by omega) (by omega)) rfl fun _ H8 => ?_
      refine us 1 H8 rfl fun _ H9 => ?_
      refine h_end ?_
      refine ⟨l.length - (j + 1), by omega, (HJ.out _ _ _).2 ⟨j + 1, upd cd i (putC (cd i) x.2.1 x.2.2), rfl, by omega, fun i2 => ?_, hy, H9.pick _ (P5 1 6 35 36 37 rfl rfl rfl rfl rfl), LV.tail hL⟩⟩
      unfold upd
      split
      · have := putC_len2 (cd i) x.2.1 x.2.2
        have := hcl i
        omega
      · have := hcl i2
        omega
    · obtain rfl : j = l.length := by omega
      rw [Nat.sub_self] at hy
      unfold entsM at hy
      repeat (go_not_at_region 12; go_step)
      refine wp_region_lit ?_
      refine uv 0 H0 rfl (lt_f (by omega)) rfl fun _ H1 => ?_
      refine h_end ?_
      repeat (go_not_at_region 20; go_step)
      refine wp_cond_false (H1.ev (x := .tmp 38) rfl) ?_
      repeat (go_not_at_region 20; go_step)
      refine wp_region_lit ?_
      refine us 3 H1 rfl fun _ H2 => ?_
      refine h_end ?_
      repeat (go_not_at_region 999; go_step)
      refine H2.ret2 rfl rfl rfl ⟨_, by rw [hy], .inl ⟨by rw [hy], pn, bs, rfl, ?_⟩⟩
      rw [hy]
      exact hL
end
end Go.Proofs.YtnjfjdfjheiocaaGreat
