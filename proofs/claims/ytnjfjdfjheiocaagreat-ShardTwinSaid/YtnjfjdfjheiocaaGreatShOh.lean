/-
  shard.Of; items played.
-/
import Derived.Test.YtnjfjdfjheiocaaGreatShOg
import Derived.Test.YtnjfjdfjheiocaaGreatShZ
import Derived.Test.YtnjfjdfjheiocaaGreatDgM
set_option linter.unusedSimpArgs false
set_option linter.unusedVariables false
namespace Go.Proofs.YtnjfjdfjheiocaaGreat
open Go.RowKit
def ofM (mark : Int) (O : Wins) (lows : List Int) (l : List En) : Int × PSt :=
  if (tofM mark O).1 ≠ 0 then ((tofM mark O).1, newM) else if (sofM lows l).1 ≠ 0 then ((sofM lows l).1, newM) else (0, ⟨(tofM mark O).2, mark, (sofM lows l).2.1, (sofM lows l).2.2⟩)
theorem doM_outs (S : PSt) (x : PItem) : (doM S x).2.1.length ≤ S.M.length := by
  unfold doM
  split
  · exact Nat.zero_le _
  · split
    · unfold lmarkM
      split
      · exact Nat.zero_le _
      · split
        · exact Nat.zero_le _
        · exact List.length_filter_le _ _
    · exact Nat.zero_le _
theorem apply_outs (S : PSt) (x : PItem) : (applyM S x).1.2.1.length ≤ S.M.length := by
  by_cases h : Sn S x
  · rw [(apply_sn h).1]
    exact Nat.zero_le _
  · rw [apply_do h]
    exact doM_outs S x
section
variable {w0 W w : World} {L X X1 : List Thg} {A : Adr} {S : PSt}
theorem LV.q1 (h : LV w0 (X1 ++ stT A S (X ++ L)) w) : LV w0 (X ++ (X1 ++ stT A S L)) w :=
  h.perm (((List.perm_append_comm_assoc (stT A S []) X L).append_left X1).trans (List.perm_append_comm_assoc X1 X (stT A S L)))
theorem LV.q2 (h : LV w0 (X ++ (X1 ++ stT A S L)) w) : LV w0 (stT A S (X ++ L)) w :=
  (LV.dropl (h.perm (List.perm_append_comm_assoc X X1 _))).perm (List.perm_append_comm_assoc X (stT A S []) L)
end
section
variable {w0 W w : World} {L : List Thg} {O : Wins} {mark : Int} {A : Adr} {S : PSt}
set_option maxRecDepth 100000 in
set_option maxHeartbeats 1000000 in
theorem shof_any {q q2 q3 : Option Addr} {c c2 c3 : Nat} {lows : List Int} {l : List En} (hL : LV w0 L W) (r : RdW w0 L 10 outA q O) (r2 : RdW w0 L 1 (fun z : Int => (#[.int .i64 z] : Array Value)) q2 lows) (r3 : RdW w0 L 3 (fun e : En => (enC e).toArray) q3 l) (hO : O.length < 100000) (hk : ∀ p ∈ O, KOk p.1) (hlows : lows.length < 1000000) (hl : l.length < 100000) : Calls Tryz.prog 21 #[.int .i64 mark, .slice q O.length c, .slice q2 lows.length c2, .slice q3 l.length c3] W fun e W' => ∃ v, e = .returned (.tuple #[v, .int .i64 (ofM mark O lows l).1]) ∧ (((ofM mark O lows l).1 = 0 ∧ ∃ B : Adr, v = .pointer (some ⟨B.g, 0, none⟩) ∧ LV w0 (stT B (ofM mark O lows l).2 L) W') ∨ ((ofM mark O lows l).1 ≠ 0 ∧ v = .pointer none ∧ LV w0 L W')) := by
  obtain ⟨y, hy⟩ : ∃ y, y = ofM mark O lows l := ⟨_, rfl⟩
  rw [← hy]
  unfold ofM at hy
  go_enter Tryz.func21, Tryz.ntmps21
  refine wp_fr (n := 35) (m := [(0, _), (1, _), (2, _), (3, _)]) ⟨rfl, rfl, by intro p hp; simp only [List.mem_cons, List.not_mem_nil, or_false] at hp; rcases hp with rfl | rfl | rfl | rfl <;> rfl⟩ fun a0 H0 => ?_
  repeat (go_not_at_region 0; go_step)
  refine wp_region_lit ?_
  refine us 2 H0 rfl fun _ H1 => ?_
  refine h_end ?_
  repeat (go_not_at_region 1; go_step)
  refine wp_region_lit ?_
  refine uc 2 H1 rfl (by kernel_rfl) (tof_any (mark := mark) (c := c) hL r hO hk) ?_
  rintro e w2 ⟨v1, rfl, hcase⟩
  refine ⟨_, rfl, _, rfl, fun _ H2 => ?_⟩
  refine us 5 H2 rfl fun _ H3 => ?_
  refine h_end ?_
  rcases hcase with ⟨h0, pl, ps, b, rfl, hL⟩ | ⟨h0, rfl, hL⟩
  rotate_left
  · rw [if_pos h0] at hy
    repeat (go_not_at_region 2; go_step)
    refine wp_region_lit ?_
    refine uv 1 H3 rfl (ne_t h0) rfl fun _ H4 => ?_
    refine h_end ?_
    repeat (go_not_at_region 3; go_step)
    refine wp_cond_true (H4.ev (x := .tmp 20) rfl) ?_
    repeat (go_not_at_region 3; go_step)
    refine wp_region_lit ?_
    refine us 3 H4 rfl fun _ H5 => ?_
    refine h_end ?_
    repeat (go_not_at_region 999; go_step)
    exact H5.ret2 rfl rfl rfl ⟨_, by rw [hy], .inr ⟨by rw [hy]; exact h0, rfl, hL⟩⟩
  rw [if_neg (fun h => h h0)] at hy
  repeat (go_not_at_region 2; go_step)
  refine wp_region_lit ?_
  refine uv 1 H3 rfl (ne_f h0) rfl fun _ H4 => ?_
  refine h_end ?_
  repeat (go_not_at_region 4; go_step)
  refine wp_cond_false (H4.ev (x := .tmp 20) rfl) ?_
  repeat (go_not_at_region 4; go_step)
  refine wp_region_lit ?_
  refine uc 2 H4 rfl (by kernel_rfl) (sof_any (c := c2) (c2 := c3) hL (fun w h => r2 w h.tail.tail.tail) (fun w h => r3 w h.tail.tail.tail) hlows hl) ?_
  rintro e w5 ⟨v2, rfl, hcase⟩
  refine ⟨_, rfl, _, rfl, fun _ H5 => ?_⟩
  refine us 5 H5 rfl fun _ H6 => ?_
  refine h_end ?_
  rcases hcase with ⟨h1, pn, bs, rfl, hL⟩ | ⟨h1, rfl, hL⟩
  rotate_left
  · rw [if_pos h1] at hy
    repeat (go_not_at_region 5; go_step)
    refine wp_region_lit ?_
    refine uv 1 H6 rfl (ne_t h1) rfl fun _ H7 => ?_
    refine h_end ?_
    repeat (go_not_at_region 6; go_step)
    refine wp_cond_true (H7.ev (x := .tmp 29) rfl) ?_
    repeat (go_not_at_region 6; go_step)
    refine wp_region_lit ?_
    refine us 3 H7 rfl fun _ H8 => ?_
    refine h_end ?_
    repeat (go_not_at_region 999; go_step)
    exact H8.ret2 rfl rfl rfl ⟨_, by rw [hy], .inr ⟨by rw [hy]; exact h1, rfl, hL.tail.tail.tail⟩⟩
  rw [if_neg (fun h => h h1)] at hy
  repeat (go_not_at_region 5; go_step)
  refine wp_region_lit ?_
  refine uv 1 H6 rfl (ne_f h1) rfl fun _ H7 => ?_
  refine h_end ?_
  repeat (go_not_at_region 7; go_step)
  refine wp_cond_false (H7.ev (x := .tmp 29) rfl) ?_
  repeat (go_not_at_region 7; go_step)
  refine wp_region_lit ?_
  refine uv 2 H7 rfl bd_sh rfl fun _ H8 => ?_
  refine uvS 0 H8 rfl bx_sh (hL.alloc _ _) rfl fun _ w9 H9 hL => ?_
  refine us 2 H9 rfl fun _ H10 => ?_
  refine h_end ?_
  repeat (go_not_at_region 999; go_step)
  refine H10.ret2 rfl rfl rfl ⟨_, by rw [hy], .inl ⟨by rw [hy], ⟨_, pl, ps, b, pn, bs⟩, rfl, ?_⟩⟩
  rw [hy]
  exact hL.perm (List.Perm.cons _ ((List.perm_append_comm (l₁ := bk pn _ _ :: snT bs (sofM lows l).2.2) (l₂ := [bk pl _ _, bk ps _ _, mw b (tofM mark O).2])).append_right L))
set_option maxRecDepth 100000 in
set_option maxHeartbeats 1000000 in
theorem plays_any {q : Option Addr} {c n0 : Nat} {l : List PItem} (hL : LV w0 (stT A S L) W) (r : ∀ w L', LV w0 L' w → RdC w 8 (.slice q l.length c) (l.map itC)) (hok : SOk n0 S) (hn : n0 + l.length < 90000) (hs : ∀ x ∈ l, x.key.size ≤ 100) (hml : S.M.length ≤ 32) (hsv : SV n0 S) (hx : ∀ x ∈ l, -9223372036854775808 ≤ x.n ∧ x.n < 9223372036854775808) (hll : l.length ≤ 1000) : Calls Tryz.prog 27 #[.pointer (some ⟨A.g, 0, none⟩), .slice q l.length c] W fun e W' => ∃ v X, e = .returned v ∧ PRow 57 10 v (playM S l).1.length (outF (playM S l).1) X ∧ (playM S l).1.length ≤ 32 * l.length ∧ LV w0 (stT A (playM S l).2 (X ++ L)) W' := by
  go_enter Tryz.func27, Tryz.ntmps27
  refine wp_fr (n := 30) (m := [(0, _), (1, _)]) ⟨rfl, rfl, by intro p hp; simp only [List.mem_cons, List.not_mem_nil, or_false] at hp; rcases hp with rfl | rfl <;> rfl⟩ fun a0 H0 => ?_
  repeat (go_not_at_region 0; go_step)
  refine wp_region_lit ?_
  refine us 1 H0 rfl fun _ H1 => ?_
  refine h_end ?_
  repeat (go_not_at_region 1; go_step)
  refine wp_region_lit ?_
  refine us 1 H1 rfl fun _ H2 => ?_
  refine h_end ?_
  repeat (go_not_at_region 2; go_step)
  refine wp_region_lit ?_
  refine us 1 H2 rfl fun _ H3 => ?_
  refine h_end ?_
  repeat (go_not_at_region 3; go_step)
  obtain ⟨I, hI⟩ : ∃ I : Nat → Act → World → Prop, ∀ n a' w', I n a' w' ↔ ∃ (j : Nat) (v : Value) (X : List Thg), n = l.length - j ∧ j ≤ l.length ∧ Fr a' 30 [(0, .pointer (some ⟨A.g, 0, none⟩)), (1, .slice q l.length c), (5, v), (6, .int .i64 (j : Nat))] ∧ PRow 57 10 v (playM S (l.take j)).1.length (outF (playM S (l.take j)).1) X ∧ (playM S (l.take j)).1.length ≤ 32 * j ∧ LV w0 (stT A (playM S (l.take j)).2 (X ++ L)) w' := ⟨_, fun _ _ _ => Iff.rfl⟩
  have HI := Lib.hid hI
  clear hI
  refine wp_loop_ghost I l.length ((HI.out _ _ _).2 ⟨0, _, [], rfl, Nat.zero_le _, H3.pick _ (P4 0 1 5 6 rfl rfl rfl rfl), PRow.nil, Nat.le_refl _, hL⟩) ?_
  clear hL
  intro n a1 wl hi'
  obtain ⟨j, v, X, rfl, hj, H0, hr, hpl, hL⟩ := (HI.out _ _ _).1 hi'
  clear hi'
  by_cases hjl : j < l.length
  · have hoj := play_ok hok (l.take j)
    have hvj := play_sv hsv (l.take j) (fun x hx' => hx x (List.mem_of_mem_take hx')) (by rw [List.length_take]; omega)
    rw [List.length_take] at hoj hvj
    obtain ⟨T, hT⟩ : ∃ T, T = playM S (l.take j) := ⟨_, rfl⟩
    rw [← hT] at hoj hvj hr hpl hL
    have hao := apply_outs T.2 l[j]
    have hroom := hvj.room
    obtain ⟨ad, hq, hc⟩ := (r _ _ hL).elem (List.length_map _) hjl
    rw [List.getElem_map] at hc
    repeat (go_not_at_region 3; go_step)
    refine wp_region_lit ?_
    refine uv 3 H0 rfl (lt_t (by omega)) rfl fun _ H1 => ?_
    refine h_end ?_
    repeat (go_not_at_region 5; go_step)
    refine wp_cond_true (H1.ev (x := .tmp 13) rfl) ?_
    repeat (go_not_at_region 5; go_step)
    refine wp_region_lit ?_
    refine uv 3 H1 rfl (by rw [hq]; exact ix_itA hjl) rfl fun _ H2 => ?_
    refine uv 0 H2 rfl (ld_itA hc) rfl fun _ H3 => ?_
    refine uc 0 H3 rfl (by kernel_rfl) (apply_any (x := l[j]) hL (Nat.le_trans (hs _ (List.getElem_mem hjl)) (by decide)) (by have := hoj.ml; omega) (fun i => by have := hoj.cl i; omega)) ?_
    rintro e w4 ⟨v1, X1, rfl, hr1, hL2⟩
    have hL := hL2.q1
    clear hL2
    refine ⟨_, rfl, _, rfl, fun _ H4 => ?_⟩
    refine us 7 H4 rfl fun _ H5 => ?_
    refine h_end ?_
    repeat (go_not_at_region 6; go_step)
    refine wp_region_lit ?_
    refine us 2 H5 rfl fun _ H6 => ?_
    obtain ⟨v2, W2, X2, hrun, hr2, hL3⟩ := app_outs hr hr1 hL (by omega) 27
    refine uvS 0 H6 rfl hrun (hL3) rfl fun _ w7 H7 hL => ?_
    refine us 1 H7 rfl fun _ H8 => ?_
    refine h_end ?_
    replace hL := hL.q2
    repeat (go_not_at_region 4; go_step)
    refine wp_region_lit ?_
    refine uv 1 H8 rfl (add_i (by omega) (by omega)) rfl fun _ H9 => ?_
    refine us 1 H9 rfl fun _ H10 => ?_
    refine h_end ?_
    refine ⟨l.length - (j + 1), by omega, (HI.out _ _ _).2 ⟨j + 1, v2, X2, rfl, by omega, H10.pick _ (P4 0 1 5 6 rfl rfl rfl rfl), ?_⟩⟩
    rw [play_take hjl, ← hT]
    refine ⟨hr2, ?_, hL⟩
    show (T.1 ++ (applyM T.2 l[j]).1.2.1).length ≤ _
    rw [List.length_append]
    omega
  · obtain rfl : j = l.length := by omega
    rw [List.take_length] at hr hpl hL
    repeat (go_not_at_region 3; go_step)
    refine wp_region_lit ?_
    refine uv 3 H0 rfl (lt_f (by omega)) rfl fun _ H1 => ?_
    refine h_end ?_
    repeat (go_not_at_region 7; go_step)
    refine wp_cond_false (H1.ev (x := .tmp 13) rfl) ?_
    repeat (go_not_at_region 7; go_step)
    refine wp_region_lit ?_
    refine us 2 H1 rfl fun _ H2 => ?_
    refine h_end ?_
    repeat (go_not_at_region 999; go_step)
    exact H2.ret1 rfl rfl ⟨_, X, rfl, hr, hpl, hL⟩
end
end Go.Proofs.YtnjfjdfjheiocaaGreat
