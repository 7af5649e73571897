/-
  SourceQuiet: its walk.
-/
import Derived.Test.YthkeiclhllikjaaGreatSvT
set_option linter.unusedSimpArgs false
set_option linter.unusedVariables false
namespace Go.Proofs.YthkeiclhllikjaaGreat
open Go.RowKit
/-- At some place of each of n elements of K cells there is an integer. -/
def IntCells (cur : Array Value) (n K o : Nat) : Prop := ∀ j, j < n → ∃ z, cur[j * K + o]? = some (.int .i64 z)
theorem IntCells.set {cur : Array Value} {n K o i : Nat} {z : Int} (h : IntCells cur n K o) : IntCells (cur.setIfInBounds i (.int .i64 z)) n K o := fun j hj => by
  obtain ⟨y, hy⟩ := h j hj
  rw [Array.getElem?_setIfInBounds]
  by_cases e : i = j * K + o
  · rw [if_pos e, if_pos (by rw [e]; exact (Array.getElem?_eq_some_iff.1 hy).1)]
    exact ⟨z, rfl⟩
  · rw [if_neg e]
    exact ⟨y, hy⟩
/-- A row of new memory that may be written over. -/
def WRow (v : Value) (n K o : Nat) (X : List Thg) : Prop := (n = 0 ∧ X = []) ∨ ∃ g cur c e, v = .slice (some ⟨g, 0, none⟩) n c ∧ X = [bk g cur e] ∧ IntCells cur n K o
section
variable {w0 W w : World} {pa oa aa pb ob ab : Nat} {Sa Sb S : PSrc} {v : Value} {K K' X : List Thg} {l : List (Int × Int × ByteArray)} {t : PTab} {R : List Blk} {g j n c : Nat}
theorem TwoK.perm (h : TwoK w0 pa oa aa Sa pb ob ab Sb K w) (hp : K.Perm K') : TwoK w0 pa oa aa Sa pb ob ab Sb K' w := by
  obtain ⟨va, vb, L, hL, h⟩ := h
  exact ⟨va, vb, L, hL.perm (((((((hp.append_right L).cons _).cons _).cons _).cons _).cons _).cons _), h⟩
theorem wrow_pk (h : PRow 45 3 v l.length (pkF l) X) (hL : LV w0 (X ++ K) w) : WRow v l.length 3 1 X := by
  obtain ⟨q, c, rfl⟩ := h.shape
  have hc := h.cellsP (w0 := w0) (L := K) w hL
  rcases h.2 with ⟨_, hn, hX⟩ | ⟨g, cap, cur, he, rfl, h1, h2, h3, h4⟩
  · exact .inl ⟨hn, hX⟩
  · cases he
    refine .inr ⟨g, cur, c, _, rfl, rfl, fun j hj => ?_⟩
    obtain ⟨g2, he, _, hz, _⟩ := hc j hj
    cases he
    exact ⟨_, (hL.cell _).symm.trans hz⟩
theorem wrow_ints (h : RowIs 3 v (ints t.own) R) : WRow v t.own.length 1 0 (lift R) := by
  rcases h with ⟨_, hn, rfl⟩ | ⟨g, cap, cur, rfl, rfl, h1, h2, h3, h4⟩
  · exact .inl ⟨by simpa [ints] using hn, rfl⟩
  · rw [ints_length] at *
    refine .inr ⟨g, cur, cap, _, rfl, rfl, fun j hj => ⟨t.own[j], ?_⟩⟩
    have e : (cur.toList.take t.own.length)[j]? = some (.int .i64 t.own[j]) := by
      rw [h4]
      unfold ints
      rw [List.getElem?_map, List.getElem?_eq_getElem hj]
      rfl
    rw [List.getElem?_take, if_pos hj] at e
    simpa using e
theorem ix_intj (h : j < n) : (Instr.indexAt 26 (.slice (some ⟨g, 0, none⟩) n c) (.int .i64 (j : Nat))).run Tryz.prog w = .ok (.pointer (some ⟨g, j * 1 + 0, none⟩)) w := by
  simp [go_sem, h]
set_option maxRecDepth 100000 in
set_option maxHeartbeats 4000000 in
theorem quiet_law {n0 : Nat} {l : List PAct} {v : Value} (hn0 : n0 < 256) (hl : RdC W 33 v (l.map actC)) (hok : ∀ x ∈ l, x.OkA W) (hll : l.length ≤ maxLen) :
    Calls Tryz.prog 6 #[.int .u8 (n0 : Nat), v] W fun e W' => e = .returned (.bool true) ∧ Below W.heap.size W W' := by
  have hlw : ∀ w, Below W.heap.size W w → RdC w 33 v (l.map actC) := fun w hb => hl.kept fun k hk => hb.block k hk
  have hokw : ∀ w, Below W.heap.size W w → ∀ x ∈ l, x.OkA w := fun w hb x hx => (hok x hx).kept hb
  obtain ⟨A1, c1, rfl⟩ := hl.slc
  rw [List.length_map] at hlw
  rw [List.length_map]
  clear hl
  have ml : maxLen ≤ 9223372036854775807 := by unfold maxLen; omega
  have hn4 : n0 % 4 < 4 := Nat.mod_lt _ (by decide)
  have hL := LV.init W
  go_enter Tryz.func6, Tryz.ntmps6
  refine wp_fr (n := 125) (m := [(0, _), (1, _)]) ⟨rfl, rfl, by intro p hp; simp only [List.mem_cons, List.not_mem_nil, or_false] at hp; rcases hp with rfl | rfl <;> rfl⟩ fun a0 H0 => ?_
  repeat (go_not_at_region 0; go_step)
  refine wp_region_lit ?_
  refine h_op H0 rfl (wn rfl) (R_as H0 rfl rfl) rfl (P2 0 1 rfl rfl) fun a1 H1 => ?_
  clear H0
  refine h_end ?_
  repeat (go_not_at_region 1; go_step)
  refine wp_region_lit ?_
  refine h_call H1 rfl (wn rfl) (R_call0 H1 rfl (fun w => by simp [go_sem])) rfl ?_
  refine awake_ok.mono ?_
  rintro e w2 ⟨rfl, hb⟩
  replace hL := hL.call hb
  clear hb
  refine ⟨_, rfl, fun a2 HH => ?_⟩
  have H2 := HH _ (P3 22 0 1 rfl rfl rfl)
  clear HH H1
  refine h_op H2 rfl (wn rfl) (R_not H2 rfl rfl) rfl (P3 23 0 1 rfl rfl rfl) fun a3 H3 => ?_
  clear H2
  refine h_end ?_
  repeat (go_not_at_region 3; go_step)
  refine wp_cond_false (H3.ev (x := .tmp 23) rfl) ?_
  repeat (go_not_at_region 3; go_step)
  refine wp_region_lit ?_
  refine h_op H3 rfl (wn rfl) (R_mv H3 rfl rfl) rfl (P3 24 0 1 rfl rfl rfl) fun a4 H4 => ?_
  clear H3
  refine h_call H4 rfl (wn rfl) (R_call1 H4 rfl rfl (fun w => by simp [go_sem])) rfl ?_
  refine (great_any (hlw _ hL.1) (hokw _ hL.1) hll).mono ?_
  rintro e w5 ⟨b, rfl, hb, hsm⟩
  replace hL := hL.call hb
  clear hb
  refine ⟨_, rfl, fun a5 HH => ?_⟩
  have H5 := HH _ (P3 25 0 1 rfl rfl rfl)
  clear HH H4
  refine h_end ?_
  cases b
  rotate_left
  · repeat (go_not_at_region 4; go_step)
    refine wp_cond_true (H5.ev (x := .tmp 25) rfl) ?_
    repeat (go_not_at_region 4; go_step)
    refine wp_region_lit ?_
    refine h_op H5 rfl (wn rfl) (R_as H5 rfl rfl) rfl (P1 4 rfl) fun a6 H6 => ?_
    clear H5
    refine h_end ?_
    repeat (go_not_at_region 999; go_step)
    exact H6.ret1 rfl rfl ⟨rfl, hL.1⟩
  obtain ⟨h200, hsmall⟩ := hsm rfl
  clear hsm
  repeat (go_not_at_region 5; go_step)
  refine wp_cond_false (H5.ev (x := .tmp 25) rfl) ?_
  repeat (go_not_at_region 5; go_step)
  refine wp_region_lit ?_
  refine h_op H5 rfl (wn rfl) (R_mv H5 rfl rfl) rfl (P2 26 1 rfl rfl) fun a6 H6 => ?_
  clear H5
  refine h_op H6 rfl (wn rfl) (R_bin H6 rfl rfl rfl (B8_remN _ 4 (by decide) hn0)) rfl (P2 27 1 rfl rfl) fun a7 H7 => ?_
  clear H6
  refine h_op H7 rfl (wn rfl) (R_cv H7 rfl rfl (cv_u8i (Nat.lt_of_lt_of_le hn4 (by decide)))) rfl (P2 28 1 rfl rfl) fun a8 H8 => ?_
  clear H7
  refine h_op H8 rfl (wn rfl) (R_as H8 rfl rfl) rfl (P2 5 1 rfl rfl) fun a9 H9 => ?_
  clear H8
  refine h_end ?_
  repeat (go_not_at_region 6; go_step)
  refine wp_region_lit ?_
  refine h_opS [bk (w5.heap.size) row5 3] H9 rfl (wn rfl) (R_bs5 H9 rfl rfl rfl rfl rfl rfl bs_5) (hL.alloc _ _) rfl (P3 29 5 1 rfl rfl rfl) fun a10 w10 H10 hL' => ?_
  replace hL := hL'
  clear H9 hL'
  refine h_op H10 rfl (wn rfl) (R_bd3 H10 rfl rfl rfl rfl (bd_tb (o := T5.own))) rfl (P3 30 5 1 rfl rfl rfl) fun a11 H11 => ?_
  clear H10
  refine h_opS [bk w10.heap.size (tbC ⟨0, 0, []⟩ (.slice none 0 0)) 28, bk w5.heap.size row5 3] H11 rfl (wn rfl) (R_alloc rfl al_tb) (hL.alloc _ _) rfl (P4 6 30 5 1 rfl rfl rfl rfl) fun a12 w12 H12 hL' => ?_
  replace hL := hL'
  clear H11 hL'
  refine h_stS [bk w10.heap.size (tbC T5 (.slice (some ⟨w5.heap.size, 0, none⟩) 5 5)) 28, bk w5.heap.size row5 3] H12 rfl (wn rfl) (R_st H12 rfl rfl rfl (st_tb (t := ⟨0, 0, []⟩) (p := none) (l := 0) (c := 0) hL.at_)) (hL.row _) fun a13 w13 H13 hL' => ?_
  replace hL := hL'
  clear H12 hL'
  refine h_end ?_
  obtain ⟨gt, hgt⟩ : ∃ g, g = w10.heap.size := ⟨_, rfl⟩
  obtain ⟨gr, hgr⟩ : ∃ g, g = w5.heap.size := ⟨_, rfl⟩
  rw [← hgt] at H13
  rw [← hgt, ← hgr] at hL
  clear hgt hgr
  repeat (go_not_at_region 7; go_step)
  refine wp_region_lit ?_
  refine h_op H13 rfl (wn rfl) (R_mv H13 rfl rfl) rfl (P4 32 6 5 1 rfl rfl rfl rfl) fun a14 H14 => ?_
  clear H13
  refine h_op H14 rfl (wn rfl) (R_ld H14 rfl rfl (ld_tb (t := T5) hL.at_)) rfl (P5 33 32 6 5 1 rfl rfl rfl rfl rfl) fun a15 H15 => ?_
  clear H14
  refine h_call H15 rfl (wn rfl) (R_call2 H15 rfl rfl rfl (fun w => by simp [go_sem])) rfl ?_
  have hrt : Rd _ (.slice (some ⟨gr, 0, none⟩) 5 5) T5.own := rd_row (L := [bk gt (tbC T5 (.slice (some ⟨gr, 0, none⟩) 5 5)) 28]) row5_is _ hL.swap
  refine (new_any (t := T5) (src := ((n0 % 4 : Nat) : Int)) hrt (by decide)).mono ?_
  rintro e w16 ⟨hA, _⟩
  obtain ⟨va, Ra, pa, oa, aa, rfl, hra, hL3⟩ := hA (newB5 hn4)
  clear hA hrt
  obtain ⟨LX, hLX⟩ : ∃ LX, LX = lift Ra ++ [bk gt (tbC T5 (.slice (some ⟨gr, 0, none⟩) 5 5)) 28, bk gr row5 3] := ⟨_, rfl⟩
  replace hL : LV W (srcs pa (⟨((n0 % 4 : Nat) : Int), T5, []⟩ : PSrc) va oa aa LX) w16 := by rw [hLX]; exact hL.joinV hL3
  clear hL3
  refine ⟨_, rfl, fun a16 HH => ?_⟩
  have H16 := HH _ (P4 34 6 5 1 rfl rfl rfl rfl)
  clear HH H15
  refine h_op H16 rfl (wn rfl) (R_mv H16 rfl rfl) rfl (P4 31 6 5 1 rfl rfl rfl rfl) fun a17 H17 => ?_
  clear H16
  refine h_op H17 rfl (wn rfl) (R_ext H17 rfl rfl rfl) rfl (P5 35 31 6 5 1 rfl rfl rfl rfl rfl) fun a18 H18 => ?_
  clear H17
  refine h_op H18 rfl (wn rfl) (R_ext H18 rfl rfl rfl) rfl (P5 36 35 6 5 1 rfl rfl rfl rfl rfl) fun a19 H19 => ?_
  clear H18
  refine h_op H19 rfl (wn rfl) (R_as H19 rfl rfl) rfl (P5 7 36 6 5 1 rfl rfl rfl rfl rfl) fun a20 H20 => ?_
  clear H19
  refine h_op H20 rfl (wn rfl) (R_as H20 rfl rfl) rfl (P5 8 7 6 5 1 rfl rfl rfl rfl rfl) fun a21 H21 => ?_
  clear H20
  refine h_end ?_
  repeat (go_not_at_region 8; go_step)
  refine wp_region_lit ?_
  refine h_op H21 rfl (wn rfl) (R_mv H21 rfl rfl) rfl (P6 38 8 7 6 5 1 rfl rfl rfl rfl rfl rfl) fun a22 H22 => ?_
  clear H21
  refine h_op H22 rfl (wn rfl) (R_ld H22 rfl rfl (ld_tb (t := T5) (hL.mem_at (g := gt) (A := (tbC T5 (.slice (some ⟨gr, 0, none⟩) 5 5))) (t := 28) (by rw [hLX]; simp)))) rfl (P6 39 38 8 7 5 1 rfl rfl rfl rfl rfl rfl) fun a23 H23 => ?_
  clear H22
  refine h_call H23 rfl (wn rfl) (R_call2 H23 rfl rfl rfl (fun w => by simp [go_sem])) rfl ?_
  have hrt : Rd _ (.slice (some ⟨gr, 0, none⟩) 5 5) T5.own := rd_row (L := []) row5_is _ (hL.only (q := bk gr row5 3) (by rw [hLX]; simp))
  refine (new_any (t := T5) (src := ((n0 % 4 : Nat) : Int)) hrt (by decide)).mono ?_
  rintro e w24 ⟨hA, _⟩
  obtain ⟨vb, Rb, pb, ob, ab, rfl, hrb, hL3⟩ := hA (newB5 hn4)
  clear hA hrt
  have hT : TwoS W pa oa aa (⟨((n0 % 4 : Nat) : Int), T5, []⟩ : PSrc) pb ob ab (⟨((n0 % 4 : Nat) : Int), T5, []⟩ : PSrc) w24 := two_new hL (fun w h => by rw [hLX] at h; exact rd_row hra w h) hrb rfl hL3
  clear hL3 hL hLX hra hrb
  replace hT := hT.kk
  refine ⟨_, rfl, fun a24 HH => ?_⟩
  have H24 := HH _ (P5 40 8 7 5 1 rfl rfl rfl rfl rfl)
  clear HH H23
  refine h_op H24 rfl (wn rfl) (R_mv H24 rfl rfl) rfl (P5 37 8 7 5 1 rfl rfl rfl rfl rfl) fun a25 H25 => ?_
  clear H24
  refine h_op H25 rfl (wn rfl) (R_ext H25 rfl rfl rfl) rfl (P6 41 37 8 7 5 1 rfl rfl rfl rfl rfl rfl) fun a26 H26 => ?_
  clear H25
  refine h_op H26 rfl (wn rfl) (R_ext H26 rfl rfl rfl) rfl (P6 42 41 8 7 5 1 rfl rfl rfl rfl rfl rfl) fun a27 H27 => ?_
  clear H26
  refine h_op H27 rfl (wn rfl) (R_as H27 rfl rfl) rfl (P6 9 42 8 7 5 1 rfl rfl rfl rfl rfl rfl) fun a28 H28 => ?_
  clear H27
  refine h_op H28 rfl (wn rfl) (R_as H28 rfl rfl) rfl (P6 10 9 8 7 5 1 rfl rfl rfl rfl rfl rfl) fun a29 H29 => ?_
  clear H28
  refine h_end ?_
  repeat (go_not_at_region 9; go_step)
  refine wp_region_lit ?_
  refine h_op H29 rfl (wn rfl) (R_mv H29 rfl rfl) rfl (P6 43 10 9 7 5 1 rfl rfl rfl rfl rfl rfl) fun a30 H30 => ?_
  clear H29
  refine h_op H30 rfl (wn rfl) (R_bin H30 rfl rfl rfl (B_to (y := false) (B_ne Tryz.underlying23 _ _) (by decide))) rfl (P6 44 10 9 7 5 1 rfl rfl rfl rfl rfl rfl) fun a31 H31 => ?_
  clear H30
  refine h_op H31 rfl (wn rfl) (R_mv H31 rfl rfl) rfl (P6 45 10 9 7 5 1 rfl rfl rfl rfl rfl rfl) fun a32 H32 => ?_
  clear H31
  refine h_op H32 rfl (H32.wt rfl rfl rfl) (R_mv H32 rfl rfl) rfl (P6 46 45 9 7 5 1 rfl rfl rfl rfl rfl rfl) fun a33 H33 => ?_
  clear H32
  refine h_op H33 rfl (H33.wt rfl rfl rfl) (R_bin H33 rfl rfl rfl (B_to (y := false) (B_ne Tryz.underlying23 _ _) (by decide))) rfl (P6 47 45 9 7 5 1 rfl rfl rfl rfl rfl rfl) fun a34 H34 => ?_
  clear H33
  refine h_op H34 rfl (wn rfl) (R_pick H34 rfl rfl rfl) rfl (P5 48 9 7 5 1 rfl rfl rfl rfl rfl) fun a35 H35 => ?_
  clear H34
  refine h_end ?_
  repeat (go_not_at_region 11; go_step)
  refine wp_cond_false (H35.ev (x := .tmp 48) rfl) ?_
  repeat (go_not_at_region 11; go_step)
  refine wp_region_lit ?_
  refine h_op H35 rfl (wn rfl) (R_as H35 rfl rfl) rfl (P5 11 9 7 5 1 rfl rfl rfl rfl rfl) fun a36 H36 => ?_
  clear H35
  refine h_end ?_
  repeat (go_not_at_region 12; go_step)
  obtain ⟨I, hI⟩ : ∃ I : Nat → Act → World → Prop, ∀ n a' w', I n a' w' ↔ ∃ (j : Nat) (S : PSrc), n = l.length - j ∧ j ≤ l.length ∧ Fr a' 125 [(1, .slice A1 l.length c1), (5, .int .i64 ((n0 % 4 : Nat) : Int)), (7, .pointer (some ⟨pa, 0, none⟩)), (9, .pointer (some ⟨pb, 0, none⟩)), (11, .int .i64 (j : Nat))] ∧ Hold S ((n0 % 4 : Nat) : Int) j ∧ (TwoK W pa oa aa S pb ob ab S []) w' := ⟨_, fun _ _ _ => Iff.rfl⟩
  have HI := Lib.hid hI
  clear hI
  refine wp_loop_ghost I (l.length) ((HI.out _ _ _).2 ⟨0, (⟨((n0 % 4 : Nat) : Int), T5, []⟩ : PSrc), rfl, Nat.zero_le _, H36.pick _ (P5 1 5 7 9 11 rfl rfl rfl rfl rfl), ⟨rfl, rfl, Nat.le_refl _, fun p hp => (by cases hp)⟩, hT⟩) ?_
  clear hT H36
  intro n a1 wl hi
  obtain ⟨j, S, rfl, hj, H0, hS, hT⟩ := (HI.out _ _ _).1 hi
  clear hi
  have hlen := hS.len
  have hown := hS.own
  have hsrc := hS.src
  by_cases hjl : j < l.length
  · repeat (go_not_at_region 12; go_step)
    refine wp_region_lit ?_
    refine h_op H0 rfl (wn rfl) (R_mv H0 rfl rfl) rfl (P6 49 1 5 7 9 11 rfl rfl rfl rfl rfl rfl) fun a1 H1 => ?_
    clear H0
    refine h_op H1 rfl (wn rfl) (R_mv H1 rfl rfl) rfl (P7 50 49 1 5 7 9 11 rfl rfl rfl rfl rfl rfl rfl) fun a2 H2 => ?_
    clear H1
    refine h_op H2 rfl (wn rfl) (R_lenS H2 rfl rfl Tryz.underlying46) rfl (P7 51 49 1 5 7 9 11 rfl rfl rfl rfl rfl rfl rfl) fun a3 H3 => ?_
    clear H2
    refine h_op H3 rfl (wn rfl) (R_bin H3 rfl rfl rfl (B_to (y := true) (B_lt Tryz.underlying3 _ _) (decide_eq_true (by omega)))) rfl (P6 52 1 5 7 9 11 rfl rfl rfl rfl rfl rfl) fun a4 H4 => ?_
    clear H3
    refine h_end ?_
    repeat (go_not_at_region 14; go_step)
    refine wp_cond_true (H4.ev (x := .tmp 52) rfl) ?_
    repeat (go_not_at_region 14; go_step)
    obtain ⟨ad, had, hel⟩ := (hlw _ hT.below).elem (List.length_map _) hjl
    have hx := hok _ (List.getElem_mem hjl)
    have hsx := hsmall _ (List.getElem_mem hjl)
    obtain ⟨x, hxe⟩ : ∃ x, x = l[j] := ⟨_, rfl⟩
    rw [← hxe] at hx hsx
    have hld : ∀ w, Below W.heap.size W w → (Instr.loadAt 50 (.pointer (some (ad.add (j * 33))))).run Tryz.prog w = .ok (.agg (actC x)) w := fun w hb => by
      obtain ⟨a2, hae2, hel2⟩ := (hlw _ hb).elem (List.length_map _) hjl
      have hq := Option.some.inj (had.symm.trans hae2)
      subst hq
      exact ld_actA fun k u hu => hel2 k u (by rw [List.getElem_map, ← hxe]; exact hu)
    have hvo : ∀ w, Below W.heap.size W w → Rd w x.vo x.msg.owner := fun w hb => (hx.kept hb).vo
    have hvs : x.vs.oneCell' = true := hx.vs.one
    have hvo1 : x.vo.oneCell' = true := hx.vo.one
    refine wp_region_lit ?_
    refine h_op H4 rfl (wn rfl) (R_mv H4 rfl rfl) rfl (P6 55 1 5 7 9 11 rfl rfl rfl rfl rfl rfl) fun a5 H5 => ?_
    clear H4
    refine h_call H5 rfl (wn rfl) (R_call1 H5 rfl rfl (fun w => by simp [go_sem])) rfl ?_
    refine (k2_tick hT (by omega) (by omega) hS.ok (by omega) (by omega)).mono ?_
    rintro e w6 ⟨vp, Xp, rfl, hp, hT2⟩
    obtain ⟨Lp, hLp⟩ := hT2.lvl
    have hw := wrow_pk (by exact hp) (by rw [List.append_assoc] at hLp; exact hLp)
    obtain ⟨qp, cp, rfl⟩ := hp.shape
    replace hT := hT2
    clear hT2 hLp hp
    refine ⟨_, rfl, fun a6 HH => ?_⟩
    have H6 := HH _ (P6 56 1 5 7 9 11 rfl rfl rfl rfl rfl rfl)
    clear HH H5
    refine h_op H6 rfl (wn rfl) (R_as H6 rfl rfl) rfl (P6 12 1 5 7 9 11 rfl rfl rfl rfl rfl rfl) fun a7 H7 => ?_
    clear H6
    refine h_end ?_
    repeat (go_not_at_region 15; go_step)
    refine wp_region_lit ?_
    refine h_op H7 rfl (wn rfl) (R_as H7 rfl rfl) rfl (P7 13 12 1 5 7 9 11 rfl rfl rfl rfl rfl rfl rfl) fun a8 H8 => ?_
    clear H7
    refine h_end ?_
    have HO := HI
    clear HI
    have hpl : (pktsM S).length ≤ 100000 := Nat.le_trans (List.length_filterMap_le _ _) (by rw [← opE_len]; exact Nat.le_trans ents_size (by omega))
    repeat (go_not_at_region 16; go_step)
    obtain ⟨I, hI⟩ : ∃ I : Nat → Act → World → Prop, ∀ n a' w', I n a' w' ↔ ∃ (i : Nat) (Y : List Thg), n = (pktsM S).length - i ∧ i ≤ (pktsM S).length ∧ Fr a' 125 [(1, .slice A1 l.length c1), (5, .int .i64 ((n0 % 4 : Nat) : Int)), (7, .pointer (some ⟨pa, 0, none⟩)), (9, .pointer (some ⟨pb, 0, none⟩)), (11, .int .i64 (j : Nat)), (12, .slice qp (pktsM S).length cp), (13, .int .i64 (i : Nat))] ∧ WRow (.slice qp (pktsM S).length cp) (pktsM S).length 3 1 Y ∧ (TwoK W pa oa aa S pb ob ab S (Y ++ [])) w' := ⟨_, fun _ _ _ => Iff.rfl⟩
    have HI := Lib.hid hI
    clear hI
    refine wp_loop_ghost I ((pktsM S).length) ((HI.out _ _ _).2 ⟨0, Xp, rfl, Nat.zero_le _, H8.pick _ (P7 1 5 7 9 11 12 13 rfl rfl rfl rfl rfl rfl rfl), hw, hT⟩) ?_
    clear hT hw H8
    intro n a1 wl hi
    obtain ⟨i, Y, rfl, hi2, H0, hw, hT⟩ := (HI.out _ _ _).1 hi
    clear hi
    by_cases hil : i < (pktsM S).length
    · repeat (go_not_at_region 16; go_step)
      refine wp_region_lit ?_
      refine h_op H0 rfl (wn rfl) (R_mv H0 rfl rfl) rfl (P8 57 1 5 7 9 11 12 13 rfl rfl rfl rfl rfl rfl rfl rfl) fun a1 H1 => ?_
      clear H0
      refine h_op H1 rfl (wn rfl) (R_mv H1 rfl rfl) rfl (P9 58 57 1 5 7 9 11 12 13 rfl rfl rfl rfl rfl rfl rfl rfl rfl) fun a2 H2 => ?_
      clear H1
      refine h_op H2 rfl (wn rfl) (R_lenS H2 rfl rfl Tryz.underlying41) rfl (P9 59 57 1 5 7 9 11 12 13 rfl rfl rfl rfl rfl rfl rfl rfl rfl) fun a3 H3 => ?_
      clear H2
      refine h_op H3 rfl (wn rfl) (R_bin H3 rfl rfl rfl (B_to (y := true) (B_lt Tryz.underlying3 _ _) (decide_eq_true (by omega)))) rfl (P8 60 1 5 7 9 11 12 13 rfl rfl rfl rfl rfl rfl rfl rfl) fun a4 H4 => ?_
      clear H3
      refine h_end ?_
      repeat (go_not_at_region 18; go_step)
      refine wp_cond_true (H4.ev (x := .tmp 60) rfl) ?_
      rcases hw with ⟨h0, _⟩ | ⟨gp, cur, cc, ee, he, rfl, hic⟩
      · omega
      cases he
      obtain ⟨z, hz⟩ := hic i hil
      repeat (go_not_at_region 18; go_step)
      have hL := hT
      clear hT
      refine wp_region_lit ?_
      refine h_op H4 rfl (wn rfl) (R_mv H4 rfl rfl) rfl (P8 63 1 5 7 9 11 12 13 rfl rfl rfl rfl rfl rfl rfl rfl) fun a5 H5 => ?_
      clear H4
      refine h_op H5 rfl (wn rfl) (R_mv H5 rfl rfl) rfl (P9 64 63 1 5 7 9 11 12 13 rfl rfl rfl rfl rfl rfl rfl rfl rfl) fun a6 H6 => ?_
      clear H5
      refine h_op H6 rfl (wn rfl) (R_ixa H6 rfl rfl rfl (ix_pkj hil)) rfl (P8 65 1 5 7 9 11 12 13 rfl rfl rfl rfl rfl rfl rfl rfl) fun a7 H7 => ?_
      clear H6
      refine h_op H7 rfl (wn rfl) (R_fa H7 rfl rfl fk_1) rfl (P8 66 1 5 7 9 11 12 13 rfl rfl rfl rfl rfl rfl rfl rfl) fun a8 H8 => ?_
      clear H7
      refine h_stP (TwoK W pa oa aa S pb ob ab S ([bk gp (cur.setIfInBounds (i * 3 + 1) (.int .i64 99)) ee] ++ [])) H8 rfl (wn rfl) (R_st H8 rfl rfl rfl (st_int (old := z) (hL.mem List.mem_cons_self) hz)) (hL.upd fun R h => h.put (i * 3 + 1) _) fun a9 w9 H9 hL' => ?_
      replace hL := hL'
      clear H8 hL'
      refine h_end ?_
      repeat (go_not_at_region 17; go_step)
      refine wp_region_lit ?_
      refine h_op H9 rfl (wn rfl) (R_mv H9 rfl rfl) rfl (P8 61 1 5 7 9 11 12 13 rfl rfl rfl rfl rfl rfl rfl rfl) fun a10 H10 => ?_
      clear H9
      refine h_op H10 rfl (wn rfl) (R_bin H10 rfl rfl rfl (B_add Tryz.underlying3 _ _ (by omega) (by omega))) rfl (P8 62 1 5 7 9 11 12 13 rfl rfl rfl rfl rfl rfl rfl rfl) fun a11 H11 => ?_
      clear H10
      refine h_op H11 rfl (wn rfl) (R_as H11 rfl rfl) rfl (P7 13 1 5 7 9 11 12 rfl rfl rfl rfl rfl rfl rfl) fun a12 H12 => ?_
      clear H11
      refine h_end ?_
      repeat (go_not_at_region 999; go_step)
      exact ⟨(pktsM S).length - (i + 1), by omega, (HI.out _ _ _).2 ⟨i + 1, _, rfl, hil, H12.pick _ (P7 1 5 7 9 11 12 13 rfl rfl rfl rfl rfl rfl rfl), .inr ⟨gp, _, _, _, rfl, rfl, hic.set⟩, hL⟩⟩
    · repeat (go_not_at_region 16; go_step)
      refine wp_region_lit ?_
      refine h_op H0 rfl (wn rfl) (R_mv H0 rfl rfl) rfl (P8 57 1 5 7 9 11 12 13 rfl rfl rfl rfl rfl rfl rfl rfl) fun a1 H1 => ?_
      clear H0
      refine h_op H1 rfl (wn rfl) (R_mv H1 rfl rfl) rfl (P9 58 57 1 5 7 9 11 12 13 rfl rfl rfl rfl rfl rfl rfl rfl rfl) fun a2 H2 => ?_
      clear H1
      refine h_op H2 rfl (wn rfl) (R_lenS H2 rfl rfl Tryz.underlying41) rfl (P9 59 57 1 5 7 9 11 12 13 rfl rfl rfl rfl rfl rfl rfl rfl rfl) fun a3 H3 => ?_
      clear H2
      refine h_op H3 rfl (wn rfl) (R_bin H3 rfl rfl rfl (B_to (y := false) (B_lt Tryz.underlying3 _ _) (decide_eq_false (by omega)))) rfl (P8 60 1 5 7 9 11 12 13 rfl rfl rfl rfl rfl rfl rfl rfl) fun a4 H4 => ?_
      clear H3
      refine h_end ?_
      repeat (go_not_at_region 19; go_step)
      refine wp_cond_false (H4.ev (x := .tmp 60) rfl) ?_
      have hL := hT.dropl
      clear hT
      repeat (go_not_at_region 19; go_step)
      refine wp_region_lit ?_
      refine h_op H4 rfl (wn rfl) (R_mv H4 rfl rfl) rfl (P6 67 1 5 7 9 11 rfl rfl rfl rfl rfl rfl) fun a5 H5 => ?_
      clear H4
      refine h_call H5 rfl (wn rfl) (R_call1 H5 rfl rfl (fun w => by simp [go_sem])) rfl ?_
      refine (k2_table hL (by omega)).mono ?_
      rintro e w6 ⟨vt, Rt, rfl, hrt, hL2⟩
      have hw := wrow_ints hrt
      obtain ⟨qt, ct, rfl⟩ := hrt.shapeI
      replace hL := hL2
      clear hL2
      refine ⟨_, rfl, fun a6 HH => ?_⟩
      have H6 := HH _ (P6 68 1 5 7 9 11 rfl rfl rfl rfl rfl rfl)
      clear HH H5
      refine h_opP (TwoK W pa oa aa S pb ob ab S (bk w6.heap.size (tbC ⟨0, 0, []⟩ (.slice none 0 0)) 28 :: (lift Rt ++ []))) H6 rfl (wn rfl) (R_alloc rfl al_tb) (hL.add fun R h => h.alloc _ _) rfl (P7 14 68 1 5 7 9 11 rfl rfl rfl rfl rfl rfl rfl) fun a7 w7 H7 hL' => ?_
      replace hL := hL'
      clear H6 hL'
      refine h_stP (TwoK W pa oa aa S pb ob ab S (bk w6.heap.size (tbC S.t (.slice qt S.t.own.length ct)) 28 :: (lift Rt ++ []))) H7 rfl (wn rfl) (R_st H7 rfl rfl rfl (st_tb (t := ⟨0, 0, []⟩) (p := none) (l := 0) (c := 0) (hL.mem List.mem_cons_self))) (hL.upd fun R h => h.row _) fun a8 w8 H8 hL' => ?_
      replace hL := hL'
      clear H7 hL'
      refine h_end ?_
      obtain ⟨gt, hgt⟩ : ∃ g, g = w6.heap.size := ⟨_, rfl⟩
      rw [← hgt] at H8 hL
      clear hgt
      repeat (go_not_at_region 20; go_step)
      refine wp_region_lit ?_
      refine h_op H8 rfl (wn rfl) (R_as H8 rfl rfl) rfl (P7 15 14 1 5 7 9 11 rfl rfl rfl rfl rfl rfl rfl) fun a9 H9 => ?_
      clear H8
      refine h_end ?_
      clear HI
      repeat (go_not_at_region 21; go_step)
      obtain ⟨I, hI⟩ : ∃ I : Nat → Act → World → Prop, ∀ n a' w', I n a' w' ↔ ∃ (i : Nat) (Y : List Thg), n = 5 - i ∧ i ≤ 5 ∧ Fr a' 125 [(1, .slice A1 l.length c1), (5, .int .i64 ((n0 % 4 : Nat) : Int)), (7, .pointer (some ⟨pa, 0, none⟩)), (9, .pointer (some ⟨pb, 0, none⟩)), (11, .int .i64 (j : Nat)), (14, .pointer (some ⟨gt, 0, none⟩)), (15, .int .i64 (i : Nat))] ∧ WRow (.slice qt S.t.own.length ct) S.t.own.length 1 0 Y ∧ (TwoK W pa oa aa S pb ob ab S (bk gt (tbC S.t (.slice qt S.t.own.length ct)) 28 :: (Y ++ []))) w' := ⟨_, fun _ _ _ => Iff.rfl⟩
      have HI := Lib.hid hI
      clear hI
      refine wp_loop_ghost I (5) ((HI.out _ _ _).2 ⟨0, lift Rt, rfl, Nat.zero_le _, H9.pick _ (P7 1 5 7 9 11 14 15 rfl rfl rfl rfl rfl rfl rfl), hw, hL⟩) ?_
      clear hL hw H9
      intro n a1 wl hi
      obtain ⟨i3, Y, rfl, hi3, H0, hw, hL⟩ := (HI.out _ _ _).1 hi
      clear hi
      by_cases hil : i3 < 5
      · repeat (go_not_at_region 21; go_step)
        refine wp_region_lit ?_
        refine h_op H0 rfl (wn rfl) (R_mv H0 rfl rfl) rfl (P8 69 1 5 7 9 11 14 15 rfl rfl rfl rfl rfl rfl rfl rfl) fun a1 H1 => ?_
        clear H0
        refine h_op H1 rfl (wn rfl) (R_fa H1 rfl rfl (ft_2 _ _ _)) rfl (P9 70 69 1 5 7 9 11 14 15 rfl rfl rfl rfl rfl rfl rfl rfl rfl) fun a2 H2 => ?_
        clear H1
        refine h_op H2 rfl (wn rfl) (R_ld H2 rfl rfl (ld_sl (p := qt) (l := S.t.own.length) (c := ct) (by rw [hL.cl List.mem_cons_self]; rfl))) rfl (P9 71 69 1 5 7 9 11 14 15 rfl rfl rfl rfl rfl rfl rfl rfl rfl) fun a3 H3 => ?_
        clear H2
        refine h_op H3 rfl (wn rfl) (R_lenS H3 rfl rfl Tryz.underlying26) rfl (P9 72 69 1 5 7 9 11 14 15 rfl rfl rfl rfl rfl rfl rfl rfl rfl) fun a4 H4 => ?_
        clear H3
        refine h_op H4 rfl (wn rfl) (R_bin H4 rfl rfl rfl (B_to (y := true) (B_lt Tryz.underlying3 _ _) (decide_eq_true (by omega)))) rfl (P8 73 1 5 7 9 11 14 15 rfl rfl rfl rfl rfl rfl rfl rfl) fun a5 H5 => ?_
        clear H4
        refine h_end ?_
        repeat (go_not_at_region 23; go_step)
        refine wp_cond_true (H5.ev (x := .tmp 73) rfl) ?_
        rcases hw with ⟨h0, _⟩ | ⟨gp, cur, cc, ee, he, rfl, hic⟩
        · omega
        cases he
        obtain ⟨z, hz⟩ := hic i3 (by omega)
        repeat (go_not_at_region 23; go_step)
        refine wp_region_lit ?_
        refine h_op H5 rfl (wn rfl) (R_fa H5 rfl rfl (ft_2 _ _ _)) rfl (P8 76 1 5 7 9 11 14 15 rfl rfl rfl rfl rfl rfl rfl rfl) fun a6 H6 => ?_
        clear H5
        refine h_op H6 rfl (wn rfl) (R_ld H6 rfl rfl (ld_sl (p := some ⟨gp, 0, none⟩) (l := S.t.own.length) (c := ct) (by rw [hL.cl List.mem_cons_self]; rfl))) rfl (P8 77 1 5 7 9 11 14 15 rfl rfl rfl rfl rfl rfl rfl rfl) fun a7 H7 => ?_
        clear H6
        refine h_op H7 rfl (wn rfl) (R_mv H7 rfl rfl) rfl (P9 78 77 1 5 7 9 11 14 15 rfl rfl rfl rfl rfl rfl rfl rfl rfl) fun a8 H8 => ?_
        clear H7
        refine h_op H8 rfl (wn rfl) (R_ixa H8 rfl rfl rfl (ix_intj (by omega))) rfl (P8 79 1 5 7 9 11 14 15 rfl rfl rfl rfl rfl rfl rfl rfl) fun a9 H9 => ?_
        clear H8
        refine h_stP (TwoK W pa oa aa S pb ob ab S (bk gt (tbC S.t (.slice (some ⟨gp, 0, none⟩) S.t.own.length ct)) 28 :: ([bk gp (cur.setIfInBounds (i3 * 1 + 0) (.int .i64 99)) ee] ++ []))) H9 rfl (wn rfl) (R_st H9 rfl rfl rfl (st_int (old := z) (hL.mem (List.mem_cons_of_mem _ List.mem_cons_self)) hz)) (((hL.perm (List.Perm.swap _ _ _)).upd fun R h => h.put (i3 * 1 + 0) _).perm (List.Perm.swap _ _ _)) fun a10 w10 H10 hL' => ?_
        replace hL := hL'
        clear H9 hL'
        refine h_end ?_
        repeat (go_not_at_region 22; go_step)
        refine wp_region_lit ?_
        refine h_op H10 rfl (wn rfl) (R_mv H10 rfl rfl) rfl (P8 74 1 5 7 9 11 14 15 rfl rfl rfl rfl rfl rfl rfl rfl) fun a11 H11 => ?_
        clear H10
        refine h_op H11 rfl (wn rfl) (R_bin H11 rfl rfl rfl (B_add Tryz.underlying3 _ _ (by omega) (by omega))) rfl (P8 75 1 5 7 9 11 14 15 rfl rfl rfl rfl rfl rfl rfl rfl) fun a12 H12 => ?_
        clear H11
        refine h_op H12 rfl (wn rfl) (R_as H12 rfl rfl) rfl (P7 15 1 5 7 9 11 14 rfl rfl rfl rfl rfl rfl rfl) fun a13 H13 => ?_
        clear H12
        refine h_end ?_
        repeat (go_not_at_region 999; go_step)
        exact ⟨5 - (i3 + 1), by omega, (HI.out _ _ _).2 ⟨i3 + 1, _, rfl, hil, H13.pick _ (P7 1 5 7 9 11 14 15 rfl rfl rfl rfl rfl rfl rfl), .inr ⟨gp, _, _, _, rfl, rfl, hic.set⟩, hL⟩⟩
      · repeat (go_not_at_region 21; go_step)
        refine wp_region_lit ?_
        refine h_op H0 rfl (wn rfl) (R_mv H0 rfl rfl) rfl (P8 69 1 5 7 9 11 14 15 rfl rfl rfl rfl rfl rfl rfl rfl) fun a1 H1 => ?_
        clear H0
        refine h_op H1 rfl (wn rfl) (R_fa H1 rfl rfl (ft_2 _ _ _)) rfl (P9 70 69 1 5 7 9 11 14 15 rfl rfl rfl rfl rfl rfl rfl rfl rfl) fun a2 H2 => ?_
        clear H1
        refine h_op H2 rfl (wn rfl) (R_ld H2 rfl rfl (ld_sl (p := qt) (l := S.t.own.length) (c := ct) (by rw [hL.cl List.mem_cons_self]; rfl))) rfl (P9 71 69 1 5 7 9 11 14 15 rfl rfl rfl rfl rfl rfl rfl rfl rfl) fun a3 H3 => ?_
        clear H2
        refine h_op H3 rfl (wn rfl) (R_lenS H3 rfl rfl Tryz.underlying26) rfl (P9 72 69 1 5 7 9 11 14 15 rfl rfl rfl rfl rfl rfl rfl rfl rfl) fun a4 H4 => ?_
        clear H3
        refine h_op H4 rfl (wn rfl) (R_bin H4 rfl rfl rfl (B_to (y := false) (B_lt Tryz.underlying3 _ _) (decide_eq_false (by omega)))) rfl (P8 73 1 5 7 9 11 14 15 rfl rfl rfl rfl rfl rfl rfl rfl) fun a5 H5 => ?_
        clear H4
        refine h_end ?_
        repeat (go_not_at_region 24; go_step)
        refine wp_cond_false (H5.ev (x := .tmp 73) rfl) ?_
        have hT := hL.tail.dropl
        clear hL
        repeat (go_not_at_region 24; go_step)
        refine wp_region_lit ?_
        refine h_op H5 rfl (wn rfl) (R_mv H5 rfl rfl) rfl (P6 80 1 5 7 9 11 rfl rfl rfl rfl rfl rfl) fun a6 H6 => ?_
        clear H5
        refine h_call H6 rfl (wn rfl) (R_call1 H6 rfl rfl (fun w => by simp [go_sem])) rfl ?_
        refine (k2_low hT).mono ?_
        rintro e wx ⟨rfl, rfl⟩
        refine ⟨_, rfl, fun a7 HH => ?_⟩
        have H7 := HH _ (P5 1 5 7 9 11 rfl rfl rfl rfl rfl)
        clear HH H6
        refine h_end ?_
        repeat (go_not_at_region 25; go_step)
        refine wp_region_lit ?_
        refine h_op H7 rfl (wn rfl) (R_mv H7 rfl rfl) rfl (P6 82 1 5 7 9 11 rfl rfl rfl rfl rfl rfl) fun a8 H8 => ?_
        clear H7
        refine h_op H8 rfl (wn rfl) (R_mv H8 rfl rfl) rfl (P7 83 82 1 5 7 9 11 rfl rfl rfl rfl rfl rfl rfl) fun a9 H9 => ?_
        clear H8
        refine h_call H9 rfl (wn rfl) (R_call2 H9 rfl rfl rfl (fun w => by simp [go_sem])) rfl ?_
        refine (k2_answer (k := (j : Nat)) hT (by omega) (by omega)).mono ?_
        rintro e wx ⟨rfl, rfl⟩
        refine ⟨_, rfl, fun a10 HH => ?_⟩
        have H10 := HH _ (P5 1 5 7 9 11 rfl rfl rfl rfl rfl)
        clear HH H9
        refine h_end ?_
        repeat (go_not_at_region 26; go_step)
        refine wp_region_lit ?_
        refine h_op H10 rfl (wn rfl) (R_mv H10 rfl rfl) rfl (P6 85 1 5 7 9 11 rfl rfl rfl rfl rfl rfl) fun a11 H11 => ?_
        clear H10
        refine h_call H11 rfl (wn rfl) (R_call1 H11 rfl rfl (fun w => by simp [go_sem])) rfl ?_
        refine (k2_left hT).mono ?_
        rintro e wx ⟨rfl, rfl⟩
        refine ⟨_, rfl, fun a12 HH => ?_⟩
        have H12 := HH _ (P5 1 5 7 9 11 rfl rfl rfl rfl rfl)
        clear HH H11
        refine h_end ?_
        repeat (go_not_at_region 27; go_step)
        refine wp_region_lit ?_
        refine h_op H12 rfl (wn rfl) (R_mv H12 rfl rfl) rfl (P6 88 1 5 7 9 11 rfl rfl rfl rfl rfl rfl) fun a13 H13 => ?_
        clear H12
        refine h_op H13 rfl (wn rfl) (R_mv H13 rfl rfl) rfl (P7 89 88 1 5 7 9 11 rfl rfl rfl rfl rfl rfl rfl) fun a14 H14 => ?_
        clear H13
        refine h_op H14 rfl (wn rfl) (R_mv H14 rfl rfl) rfl (P8 90 89 88 1 5 7 9 11 rfl rfl rfl rfl rfl rfl rfl rfl) fun a15 H15 => ?_
        clear H14
        refine h_op H15 rfl (wn rfl) (R_mv H15 rfl rfl) rfl (P9 91 90 89 88 1 5 7 9 11 rfl rfl rfl rfl rfl rfl rfl rfl rfl) fun a16 H16 => ?_
        clear H15
        refine h_op H16 rfl (wn rfl) (R_ixa H16 rfl rfl rfl (ix_actE had hjl)) rfl (P8 92 89 88 1 5 7 9 11 rfl rfl rfl rfl rfl rfl rfl rfl) fun a17 H17 => ?_
        clear H16
        refine h_op H17 rfl (wn rfl) (R_ld H17 rfl rfl (hld _ hT.below)) rfl (P8 93 89 88 1 5 7 9 11 rfl rfl rfl rfl rfl rfl rfl rfl) fun a18 H18 => ?_
        clear H17
        refine h_call H18 rfl (wn rfl) (R_call3 H18 rfl rfl rfl rfl (fun w => by simp [go_sem])) rfl ?_
        refine (one_k (n := ((n0 % 4 : Nat) : Int)) hT hvo hvs hx.msg hsx (by omega) (by omega)).mono ?_
        rintro e w19 ⟨rfl, hL2⟩
        replace hT := hL2
        clear hL2
        refine ⟨_, rfl, fun a19 HH => ?_⟩
        have H19 := HH _ (P6 94 1 5 7 9 11 rfl rfl rfl rfl rfl rfl)
        clear HH H18
        refine h_op H19 rfl (wn rfl) (R_mv H19 rfl rfl) rfl (P6 87 1 5 7 9 11 rfl rfl rfl rfl rfl rfl) fun a20 H20 => ?_
        clear H19
        refine h_op H20 rfl (wn rfl) (R_ext H20 rfl rfl rfl) rfl (P7 95 87 1 5 7 9 11 rfl rfl rfl rfl rfl rfl rfl) fun a21 H21 => ?_
        clear H20
        refine h_op H21 rfl (wn rfl) (R_ext H21 rfl rfl rfl) rfl (P8 96 95 87 1 5 7 9 11 rfl rfl rfl rfl rfl rfl rfl rfl) fun a22 H22 => ?_
        clear H21
        refine h_op H22 rfl (wn rfl) (R_ext H22 rfl rfl rfl) rfl (P8 97 96 95 1 5 7 9 11 rfl rfl rfl rfl rfl rfl rfl rfl) fun a23 H23 => ?_
        clear H22
        refine h_op H23 rfl (wn rfl) (R_as H23 rfl rfl) rfl (P8 16 97 96 1 5 7 9 11 rfl rfl rfl rfl rfl rfl rfl rfl) fun a24 H24 => ?_
        clear H23
        refine h_op H24 rfl (wn rfl) (R_as H24 rfl rfl) rfl (P8 17 16 97 1 5 7 9 11 rfl rfl rfl rfl rfl rfl rfl rfl) fun a25 H25 => ?_
        clear H24
        refine h_op H25 rfl (wn rfl) (R_as H25 rfl rfl) rfl (P8 18 17 16 1 5 7 9 11 rfl rfl rfl rfl rfl rfl rfl rfl) fun a26 H26 => ?_
        clear H25
        refine h_end ?_
        repeat (go_not_at_region 28; go_step)
        refine wp_region_lit ?_
        refine h_op H26 rfl (wn rfl) (R_mv H26 rfl rfl) rfl (P9 99 18 17 16 1 5 7 9 11 rfl rfl rfl rfl rfl rfl rfl rfl rfl) fun a27 H27 => ?_
        clear H26
        refine h_op H27 rfl (wn rfl) (R_mv H27 rfl rfl) rfl (P10 100 99 18 17 16 1 5 7 9 11 rfl rfl rfl rfl rfl rfl rfl rfl rfl rfl) fun a28 H28 => ?_
        clear H27
        refine h_op H28 rfl (wn rfl) (R_mv H28 rfl rfl) rfl (P11 101 100 99 18 17 16 1 5 7 9 11 rfl rfl rfl rfl rfl rfl rfl rfl rfl rfl rfl) fun a29 H29 => ?_
        clear H28
        refine h_op H29 rfl (wn rfl) (R_mv H29 rfl rfl) rfl (P12 102 101 100 99 18 17 16 1 5 7 9 11 rfl rfl rfl rfl rfl rfl rfl rfl rfl rfl rfl rfl) fun a30 H30 => ?_
        clear H29
        refine h_op H30 rfl (wn rfl) (R_ixa H30 rfl rfl rfl (ix_actE had hjl)) rfl (P11 103 100 99 18 17 16 1 5 7 9 11 rfl rfl rfl rfl rfl rfl rfl rfl rfl rfl rfl) fun a31 H31 => ?_
        clear H30
        refine h_op H31 rfl (wn rfl) (R_ld H31 rfl rfl (hld _ hT.below)) rfl (P11 104 100 99 18 17 16 1 5 7 9 11 rfl rfl rfl rfl rfl rfl rfl rfl rfl rfl rfl) fun a32 H32 => ?_
        clear H31
        refine h_call H32 rfl (wn rfl) (R_call3 H32 rfl rfl rfl rfl (fun w => by simp [go_sem])) rfl ?_
        refine (one_k (n := ((n0 % 4 : Nat) : Int)) hT.symm hvo hvs hx.msg hsx (by omega) (by omega)).mono ?_
        rintro e w33 ⟨rfl, hL2⟩
        replace hT := hL2.symm
        clear hL2
        refine ⟨_, rfl, fun a33 HH => ?_⟩
        have H33 := HH _ (P9 105 18 17 16 1 5 7 9 11 rfl rfl rfl rfl rfl rfl rfl rfl rfl)
        clear HH H32
        refine h_op H33 rfl (wn rfl) (R_mv H33 rfl rfl) rfl (P9 98 18 17 16 1 5 7 9 11 rfl rfl rfl rfl rfl rfl rfl rfl rfl) fun a34 H34 => ?_
        clear H33
        refine h_op H34 rfl (wn rfl) (R_ext H34 rfl rfl rfl) rfl (P10 106 98 18 17 16 1 5 7 9 11 rfl rfl rfl rfl rfl rfl rfl rfl rfl rfl) fun a35 H35 => ?_
        clear H34
        refine h_op H35 rfl (wn rfl) (R_ext H35 rfl rfl rfl) rfl (P11 107 106 98 18 17 16 1 5 7 9 11 rfl rfl rfl rfl rfl rfl rfl rfl rfl rfl rfl) fun a36 H36 => ?_
        clear H35
        refine h_op H36 rfl (wn rfl) (R_ext H36 rfl rfl rfl) rfl (P11 108 107 106 18 17 16 1 5 7 9 11 rfl rfl rfl rfl rfl rfl rfl rfl rfl rfl rfl) fun a37 H37 => ?_
        clear H36
        refine h_op H37 rfl (wn rfl) (R_as H37 rfl rfl) rfl (P11 19 108 107 18 17 16 1 5 7 9 11 rfl rfl rfl rfl rfl rfl rfl rfl rfl rfl rfl) fun a38 H38 => ?_
        clear H37
        refine h_op H38 rfl (wn rfl) (R_as H38 rfl rfl) rfl (P11 20 19 108 18 17 16 1 5 7 9 11 rfl rfl rfl rfl rfl rfl rfl rfl rfl rfl rfl) fun a39 H39 => ?_
        clear H38
        refine h_op H39 rfl (wn rfl) (R_as H39 rfl rfl) rfl (P11 21 20 19 18 17 16 1 5 7 9 11 rfl rfl rfl rfl rfl rfl rfl rfl rfl rfl rfl) fun a40 H40 => ?_
        clear H39
        refine h_end ?_
        repeat (go_not_at_region 29; go_step)
        refine wp_region_lit ?_
        refine h_op H40 rfl (wn rfl) (R_mv H40 rfl rfl) rfl (P11 109 21 20 19 18 17 1 5 7 9 11 rfl rfl rfl rfl rfl rfl rfl rfl rfl rfl rfl) fun a41 H41 => ?_
        clear H40
        refine h_op H41 rfl (wn rfl) (R_mv H41 rfl rfl) rfl (P11 110 109 21 20 18 17 1 5 7 9 11 rfl rfl rfl rfl rfl rfl rfl rfl rfl rfl rfl) fun a42 H42 => ?_
        clear H41
        refine h_op H42 rfl (wn rfl) (R_bin H42 rfl rfl rfl (B_to (y := false) (B_ne Tryz.underlying3 _ _) (by simp))) rfl (P10 111 21 20 18 17 1 5 7 9 11 rfl rfl rfl rfl rfl rfl rfl rfl rfl rfl) fun a43 H43 => ?_
        clear H42
        refine h_op H43 rfl (wn rfl) (R_mv H43 rfl rfl) rfl (P10 112 21 20 18 17 1 5 7 9 11 rfl rfl rfl rfl rfl rfl rfl rfl rfl rfl) fun a44 H44 => ?_
        clear H43
        refine h_op H44 rfl (H44.wt rfl rfl rfl) (R_mv H44 rfl rfl) rfl (P10 113 112 21 20 18 1 5 7 9 11 rfl rfl rfl rfl rfl rfl rfl rfl rfl rfl) fun a45 H45 => ?_
        clear H44
        refine h_op H45 rfl (H45.wt rfl rfl rfl) (R_mv H45 rfl rfl) rfl (P10 114 113 112 21 18 1 5 7 9 11 rfl rfl rfl rfl rfl rfl rfl rfl rfl rfl) fun a46 H46 => ?_
        clear H45
        refine h_op H46 rfl (H46.wt rfl rfl rfl) (R_bin H46 rfl rfl rfl (B_to (y := false) (B_ne Tryz.underlying23 _ _) (by simp))) rfl (P9 115 112 21 18 1 5 7 9 11 rfl rfl rfl rfl rfl rfl rfl rfl rfl) fun a47 H47 => ?_
        clear H46
        refine h_op H47 rfl (wn rfl) (R_pick H47 rfl rfl rfl) rfl (P8 116 21 18 1 5 7 9 11 rfl rfl rfl rfl rfl rfl rfl rfl) fun a48 H48 => ?_
        clear H47
        refine h_op H48 rfl (wn rfl) (R_mv H48 rfl rfl) rfl (P8 117 21 18 1 5 7 9 11 rfl rfl rfl rfl rfl rfl rfl rfl) fun a49 H49 => ?_
        clear H48
        refine h_op H49 rfl (H49.wt rfl rfl rfl) (R_mv H49 rfl rfl) rfl (P8 118 117 21 1 5 7 9 11 rfl rfl rfl rfl rfl rfl rfl rfl) fun a50 H50 => ?_
        clear H49
        refine h_op H50 rfl (H50.wt rfl rfl rfl) (R_mv H50 rfl rfl) rfl (P8 119 118 117 1 5 7 9 11 rfl rfl rfl rfl rfl rfl rfl rfl) fun a51 H51 => ?_
        clear H50
        refine h_op H51 rfl (H51.wt rfl rfl rfl) (R_bin H51 rfl rfl rfl B_bne) rfl (P7 120 117 1 5 7 9 11 rfl rfl rfl rfl rfl rfl rfl) fun a52 H52 => ?_
        clear H51
        refine h_op H52 rfl (wn rfl) (R_pick H52 rfl rfl rfl) rfl (P6 121 1 5 7 9 11 rfl rfl rfl rfl rfl rfl) fun a53 H53 => ?_
        clear H52
        refine h_end ?_
        repeat (go_not_at_region 13; go_step)
        refine wp_cond_false (H53.ev (x := .tmp 121) rfl) ?_
        repeat (go_not_at_region 13; go_step)
        refine wp_region_lit ?_
        refine h_op H53 rfl (wn rfl) (R_mv H53 rfl rfl) rfl (P6 53 1 5 7 9 11 rfl rfl rfl rfl rfl rfl) fun a54 H54 => ?_
        clear H53
        refine h_op H54 rfl (wn rfl) (R_bin H54 rfl rfl rfl (B_add Tryz.underlying3 _ _ (by omega) (by omega))) rfl (P6 54 1 5 7 9 11 rfl rfl rfl rfl rfl rfl) fun a55 H55 => ?_
        clear H54
        refine h_op H55 rfl (wn rfl) (R_as H55 rfl rfl) rfl (P5 11 1 5 7 9 rfl rfl rfl rfl rfl) fun a56 H56 => ?_
        clear H55
        refine h_end ?_
        repeat (go_not_at_region 999; go_step)
        exact ⟨l.length - (j + 1), by omega, (HO.out _ _ _).2 ⟨j + 1, _, rfl, hjl, H56.pick _ (P5 1 5 7 9 11 rfl rfl rfl rfl rfl), hold_one hS (hx.item.ok hsx.key), hT⟩⟩
  · repeat (go_not_at_region 12; go_step)
    refine wp_region_lit ?_
    refine h_op H0 rfl (wn rfl) (R_mv H0 rfl rfl) rfl (P6 49 1 5 7 9 11 rfl rfl rfl rfl rfl rfl) fun a1 H1 => ?_
    clear H0
    refine h_op H1 rfl (wn rfl) (R_mv H1 rfl rfl) rfl (P7 50 49 1 5 7 9 11 rfl rfl rfl rfl rfl rfl rfl) fun a2 H2 => ?_
    clear H1
    refine h_op H2 rfl (wn rfl) (R_lenS H2 rfl rfl Tryz.underlying46) rfl (P7 51 49 1 5 7 9 11 rfl rfl rfl rfl rfl rfl rfl) fun a3 H3 => ?_
    clear H2
    refine h_op H3 rfl (wn rfl) (R_bin H3 rfl rfl rfl (B_to (y := false) (B_lt Tryz.underlying3 _ _) (decide_eq_false (by omega)))) rfl (P6 52 1 5 7 9 11 rfl rfl rfl rfl rfl rfl) fun a4 H4 => ?_
    clear H3
    refine h_end ?_
    repeat (go_not_at_region 31; go_step)
    refine wp_cond_false (H4.ev (x := .tmp 52) rfl) ?_
    repeat (go_not_at_region 31; go_step)
    refine wp_region_lit ?_
    refine h_op H4 rfl (wn rfl) (R_mv H4 rfl rfl) rfl (P2 122 9 rfl rfl) fun a5 H5 => ?_
    clear H4
    refine h_op H5 rfl (wn rfl) (R_mv H5 rfl rfl) rfl (P2 123 122 rfl rfl) fun a6 H6 => ?_
    clear H5
    refine h_call H6 rfl (wn rfl) (R_call2 H6 rfl rfl rfl (fun w => by simp [go_sem])) rfl ?_
    refine (k2_alike hT (by omega) (by omega) hS.ok (by omega) (by omega)).mono ?_
    rintro e w7 ⟨rfl, hb⟩
    refine ⟨_, rfl, fun a7 HH => ?_⟩
    have H7 := HH _ (P1 124 rfl)
    clear HH H6
    refine h_op H7 rfl (wn rfl) (R_as H7 rfl rfl) rfl (P1 4 rfl) fun a8 H8 => ?_
    clear H7
    refine h_end ?_
    repeat (go_not_at_region 999; go_step)
    exact H8.ret1 rfl rfl ⟨rfl, hb⟩
end
end Go.Proofs.YthkeiclhllikjaaGreat
