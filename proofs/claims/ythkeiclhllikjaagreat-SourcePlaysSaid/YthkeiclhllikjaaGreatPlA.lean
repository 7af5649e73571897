/-
  One source in its world (of the texts of the other Source laws).
-/
import Derived.Test.YthkeiclhllikjaaGreatRowS
import Derived.Laws.ResultCell
set_option linter.unusedSimpArgs false
set_option linter.unusedVariables false
namespace Go.Proofs.YthkeiclhllikjaaGreat
open Go.RowKit
abbrev srcs (p : Nat) (S : PSrc) (v : Value) (bo ba : Nat) (L : List Thg) : List Thg := bk p (srC S v bo ba) 60 :: mp bo (opE S.L) :: mp ba (anE S.L) :: L
section
variable {P : Program} {ops : Array Oper} {Q : Exit → Act → World → Prop} {rest : List Oper} {o : Oper} {a : Act} {w w' : World} {n d : Nat} {v : Value} {m m' : List (Nat × Value)} {K : Act → World → Prop}
theorem h_opP (R : World → Prop) (H : Fr a n m) (hd : o.dst = some d) (hg : Region.wanted o (yielded ops a.tmps) = true) (hr : (execOp a.eval o).run P w = .ok (.value v) w') (hL : R w') (hn : Nat.blt d n = true) (hp : Picks ((d, v) :: m) m')
  (k : ∀ a' w', Fr a' n m' → R w' → wpList P ops Q rest a' w') : wpList P ops Q (o :: rest) a w :=
 h_op H hd hg hr hn hp fun a' H' => k a' w' H' hL
theorem h_stP (R : World → Prop) (H : Fr a n m) (hd : o.dst = none) (hg : Region.wanted o (yielded ops a.tmps) = true) (hr : (execOp a.eval o).run P w = .ok .skip w') (hL : R w')
  (k : ∀ a' w', Fr a' n m → R w' → wpList P ops Q rest a' w') : wpList P ops Q (o :: rest) a w :=
 h_st H hd hg hr fun a' H' => k a' w' H' hL
end
structure PAct.Small (x : PAct) : Prop where
 key : x.item.key.size ≤ 3000
 set : x.msg.set.length ≤ 300
 owner : x.msg.owner.length ≤ 300
 data : x.msg.data.size ≤ 3000
 ikey : x.msg.ikey.size ≤ 3000
section
variable {W w : World} {x : PAct} {a : Addr} {j : Nat} {l : List PAct} {v : Value}
theorem msg_at {k : Nat} {u : Value} (hu : (mcells x.msg x.vo x.vs)[k]? = some u) : (actC x)[9 + k]? = some u := by
 rw [← hu]
 have hk : k < 22 := (Array.getElem?_eq_some_iff.1 hu).1
 have key : (actC x).toList.drop 9 = (mcells x.msg x.vo x.vs).toList ++ [.int .i64 x.of_, .int .i64 x.code] := rfl
 have h2 : ((actC x).toList.drop 9)[k]? = (mcells x.msg x.vo x.vs).toList[k]? := by
  rw [key, List.getElem?_append_left (by exact hk)]
 rw [List.getElem?_drop] at h2
 simpa using h2
theorem Rd.one {l : List Int} (h : Rd w v l) : v.oneCell' = true := by
 obtain ⟨A, c, rfl⟩ := h.slc
 rfl
theorem ld_slE {b : Addr} {q : Option Addr} {n c : Nat} (h : w.cell? b = some v) (e : v = .slice q n c) : (Instr.loadAt 26 (.pointer (some b))).run Tryz.prog w = .ok (.slice q n c) w := by subst e; exact ld_sl h
theorem ix_actE {A : Option Addr} {n c : Nat} (he : A = some a) (h : j < n) : (Instr.indexAt 46 (.slice A n c) (.int .i64 (j : Nat))).run Tryz.prog w = .ok (.pointer (some (a.add (j * 33)))) w := by subst he; exact ix_actA h
theorem Rd.shape {l : List Int} (h : Rd w v l) : ∃ q c, v = .slice q l.length c := h.slc
set_option maxRecDepth 100000 in
set_option maxHeartbeats 4000000 in
theorem great_any (hl : RdC W 33 v (l.map actC)) (hok : ∀ x ∈ l, x.OkA W) (hll : l.length ≤ maxLen) : Calls Tryz.prog 17 #[v] W fun e W' => ∃ b, e = .returned (.bool b) ∧ Below W.heap.size W W' ∧ (b = false → l.length ≤ 200 ∧ ∀ x ∈ l, x.Small) := by
 have hlw : ∀ w, Below W.heap.size W w → RdC w 33 v (l.map actC) := fun w hb => hl.kept fun k hk => hb.block k hk
 obtain ⟨A1, c1, rfl⟩ := hl.slc
 rw [List.length_map] at hlw
 rw [List.length_map]
 clear hl
 have ml : maxLen ≤ 9223372036854775807 := by unfold maxLen; omega
 have hL := LV.init W
 go_enter Tryz.func17, Tryz.ntmps17
 refine wp_fr (n := 57) (m := [(0, _)]) ⟨rfl, rfl, by intro p hp; simp only [List.mem_cons, List.not_mem_nil, or_false] at hp; rcases hp with rfl <;> rfl⟩ fun a0 H0 => ?_
 repeat (go_not_at_region 0; go_step)
 refine wp_region_lit ?_
 refine h_o H0 rfl (R_as H0 rfl rfl) (P1 0 rfl) fun _ H1 => ?_
 refine h_end ?_
 repeat (go_not_at_region 1; go_step)
 refine wp_region_lit ?_
 refine h_o H1 rfl (R_as H1 rfl rfl) (P2 3 0 rfl rfl) fun _ H2 => ?_
 refine h_end ?_
 repeat (go_not_at_region 2; go_step)
 obtain ⟨I, hI⟩ : ∃ I : Nat → Act → World → Prop, ∀ n a' w', I n a' w' ↔ ∃ j : Nat, n = l.length - j ∧ j ≤ l.length ∧ Fr a' 57 [(0, .slice A1 l.length c1), (3, .int .i64 (j : Nat))] ∧ LV W [] w' ∧ ∀ i (h : i < l.length), i < j → l[i].Small := ⟨_, fun _ _ _ => Iff.rfl⟩
 have HI := Lib.hid hI
 clear hI
 refine wp_loop_ghost I l.length ((HI.out _ _ _).2 ⟨0, rfl, Nat.zero_le _, H2.pick _ (P2 0 3 rfl rfl), hL, fun i h h0 => absurd h0 (Nat.not_lt_zero _)⟩) ?_
 clear hL H2
 intro n a1 wl hi
 obtain ⟨j, rfl, hj, H0, hL, hsm⟩ := (HI.out _ _ _).1 hi
 clear hi
 repeat (go_not_at_region 2; go_step)
 refine wp_region_lit ?_
 refine h_o H0 rfl (R_mv H0 rfl rfl) (P3 5 0 3 rfl rfl rfl) fun _ H1 => ?_
 refine h_o H1 rfl (R_mv H1 rfl rfl) (P4 6 5 0 3 rfl rfl rfl rfl) fun _ H2 => ?_
 refine h_o H2 rfl (R_lenS H2 rfl rfl Tryz.underlying46) (P4 7 5 0 3 rfl rfl rfl rfl) fun _ H3 => ?_
 refine h_o H3 rfl (R_bin H3 rfl rfl rfl (B_lt Tryz.underlying3 _ _)) (P3 8 0 3 rfl rfl rfl) fun _ H4 => ?_
 refine h_o H4 rfl (R_mv H4 rfl rfl) (P3 9 0 3 rfl rfl rfl) fun _ H5 => ?_
 replace H5 := H5.pick [(0, .slice A1 l.length c1), (3, .int .i64 (j : Nat)), (9, .bool (decide ((j : Int) < (l.length : Nat))))] (P3 0 3 9 rfl rfl rfl)
 generalize ht0 : (decide ((j : Int) < (l.length : Nat))) = t0 at H5
 refine wpList_cut [_, _, _] (R := fun a' w' => Fr a' 57 [(0, .slice A1 l.length c1), (3, .int .i64 (j : Nat)), (12, .bool (t0 && (decide ((j : Int) ≤ 200))))] ∧ LV W [] w') ?_ ?_
 ·cases t0
  ·refine h_skip H5 rfl (H5.wf rfl rfl rfl) rfl (P4 10 0 3 9 rfl rfl rfl rfl) fun a6 H6 => ?_
   refine h_skip H6 rfl (H6.wf rfl rfl rfl) rfl (P4 11 0 3 9 rfl rfl rfl rfl) fun _ H7 => ?_
   refine h_o H7 rfl (R_pick H7 rfl rfl rfl) (P3 12 0 3 rfl rfl rfl) fun _ H8 => ?_
   exact h_end ⟨H8.pick _ (P3 0 3 12 rfl rfl rfl), hL⟩
  ·refine h_op H5 rfl (H5.wt rfl rfl rfl) (R_mv H5 rfl rfl) rfl (P4 10 0 3 9 rfl rfl rfl rfl) fun a6 H6 => ?_
   refine h_op H6 rfl (H6.wt rfl rfl rfl) (R_bin H6 rfl rfl rfl (B_le Tryz.underlying3 _ _)) rfl (P4 11 0 3 9 rfl rfl rfl rfl) fun _ H7 => ?_
   refine h_o H7 rfl (R_pick H7 rfl rfl rfl) (P3 12 0 3 rfl rfl rfl) fun _ H8 => ?_
   exact h_end ⟨H8.pick _ (P3 0 3 12 rfl rfl rfl), hL⟩
 clear hL H5
 rintro a9 wx ⟨H9, hL⟩
 generalize ht1 : (t0 && (decide ((j : Int) ≤ 200))) = t1 at H9
 refine h_end ?_
 cases t1
 ·repeat (go_not_at_region 7; go_step)
  refine wp_cond_false (H9.ev (x := .tmp 12) rfl) ?_
  repeat (go_not_at_region 7; go_step)
  refine wp_region_lit ?_
  refine h_o H9 rfl (R_mv H9 rfl rfl) (P1 54 rfl) fun _ H10 => ?_
  refine h_o H10 rfl (R_lenS H10 rfl rfl Tryz.underlying46) (P1 55 rfl) fun _ H11 => ?_
  refine h_o H11 rfl (R_bin H11 rfl rfl rfl (B_gt Tryz.underlying3 _ _)) (P1 56 rfl) fun _ H12 => ?_
  refine h_o H12 rfl (R_as H12 rfl rfl) (P1 2 rfl) fun _ H13 => ?_
  refine h_end ?_
  repeat (go_not_at_region 999; go_step)
  refine H13.ret1 rfl rfl ⟨_, rfl, hL.1, fun hb => ?_⟩
  rw [decide_eq_false_iff_not] at hb
  rw [← ht0] at ht1
  simp only [Bool.and_eq_false_iff, decide_eq_false_iff_not] at ht1
  refine ⟨by omega, fun x hx => ?_⟩
  obtain ⟨i, hi, rfl⟩ := List.mem_iff_getElem.1 hx
  exact hsm i hi (by omega)
 ·rw [← ht0] at ht1
  simp only [Bool.and_eq_true, decide_eq_true_eq] at ht1
  have hjl : j < l.length := by omega
  clear ht0
  repeat (go_not_at_region 4; go_step)
  refine wp_cond_true (H9.ev (x := .tmp 12) rfl) ?_
  obtain ⟨a, hae, hel⟩ := (hlw _ hL.1).elem (List.length_map _) hjl
  have hel2 : ∀ w, Below W.heap.size W w → ∀ (k : Nat) u, (actC l[j])[k]? = some u → w.cell? ((a.add (j * 33)).add k) = some u := fun w hb k u hu => by
   obtain ⟨a2, hae2, h2⟩ := (hlw _ hb).elem (List.length_map _) hjl
   have hq := Option.some.inj (hae.symm.trans hae2)
   subst hq
   exact h2 k u (by rw [List.getElem_map]; exact hu)
  have hx := hok _ (List.getElem_mem hjl)
  obtain ⟨qo, co, evo⟩ := hx.vo.shape
  obtain ⟨qs, cq, evs⟩ := hx.vs.shape
  obtain ⟨x, hxe⟩ : ∃ x, x = l[j] := ⟨_, rfl⟩
  rw [← hxe] at evo evs hx
  repeat (go_not_at_region 4; go_step)
  refine wp_region_lit ?_
  refine h_o H9 rfl (R_mv H9 rfl rfl) (P3 15 0 3 rfl rfl rfl) fun _ H10 => ?_
  refine h_o H10 rfl (R_mv H10 rfl rfl) (P4 16 15 0 3 rfl rfl rfl rfl) fun _ H11 => ?_
  refine h_o H11 rfl (R_ixa H11 rfl rfl rfl (ix_actE hae hjl)) (P3 17 0 3 rfl rfl rfl) fun _ H12 => ?_
  refine h_o H12 rfl (R_fa H12 rfl rfl fa_act2) (P3 18 0 3 rfl rfl rfl) fun _ H13 => ?_
  refine h_o H13 rfl (R_ld H13 rfl rfl (ld_msgA (m := x.msg) (vo := x.vo) (vs := x.vs) fun k u hu => by rw [Deep.add_add]; exact hel2 _ hL.1 (9 + k) u (by rw [← hxe]; exact msg_at hu))) (P3 19 0 3 rfl rfl rfl) fun _ H14 => ?_
  refine h_opS [bk wx.heap.size zcells 37] H14 rfl (wn rfl) (R_alloc rfl al_mg) (hL.alloc _ _) rfl (P4 4 19 0 3 rfl rfl rfl rfl) fun _ w15 H15 hL => ?_
  refine h_stS [bk wx.heap.size (mcells x.msg x.vo x.vs) 37] H15 rfl (wn rfl) (R_st H15 rfl rfl rfl (st_mg hL.at_ (mcells_one hx.vo.one hx.vs.one))) (hL.row _) fun _ w16 H16 hL => ?_
  refine h_end ?_
  obtain ⟨gm, hgm⟩ : ∃ g, g = wx.heap.size := ⟨_, rfl⟩
  rw [← hgm] at H16 hL
  clear hgm
  repeat (go_not_at_region 5; go_step)
  refine wp_region_lit ?_
  refine h_o H16 rfl (R_mv H16 rfl rfl) (P4 20 4 0 3 rfl rfl rfl rfl) fun _ H17 => ?_
  refine h_o H17 rfl (R_mv H17 rfl rfl) (P5 21 20 4 0 3 rfl rfl rfl rfl rfl) fun _ H18 => ?_
  refine h_o H18 rfl (R_ixa H18 rfl rfl rfl (ix_actE hae hjl)) (P4 22 4 0 3 rfl rfl rfl rfl) fun _ H19 => ?_
  refine h_o H19 rfl (R_fa H19 rfl rfl fa_act1) (P4 23 4 0 3 rfl rfl rfl rfl) fun _ H20 => ?_
  refine h_o H20 rfl (R_fa H20 rfl rfl (fi_itA (by decide))) (P4 24 4 0 3 rfl rfl rfl rfl) fun _ H21 => ?_
  refine h_o H21 rfl (R_ld H21 rfl rfl (ld_strA (s := x.item.key) (by rw [Deep.add_add]; exact hel2 _ hL.1 5 _ (by rw [← hxe]; rfl)))) (P4 25 4 0 3 rfl rfl rfl rfl) fun _ H22 => ?_
  refine h_o H22 rfl (R_len H22 rfl rfl Tryz.underlying9) (P4 26 4 0 3 rfl rfl rfl rfl) fun _ H23 => ?_
  refine h_o H23 rfl (R_bin H23 rfl rfl rfl (B_gt Tryz.underlying3 _ _)) (P4 27 4 0 3 rfl rfl rfl rfl) fun _ H24 => ?_
  refine h_o H24 rfl (R_mv H24 rfl rfl) (P4 28 4 0 3 rfl rfl rfl rfl) fun _ H25 => ?_
  replace H25 := H25.pick [(0, .slice A1 l.length c1), (3, .int .i64 (j : Nat)), (4, .pointer (some ⟨gm, 0, none⟩)), (28, .bool (decide ((x.item.key.size : Int) > 3000)))] (P4 0 3 4 28 rfl rfl rfl rfl)
  generalize hs0 : (decide ((x.item.key.size : Int) > 3000)) = s0 at H25
  refine wpList_cut [_, _, _, _, _, _] (R := fun a' w' => Fr a' 57 [(0, .slice A1 l.length c1), (3, .int .i64 (j : Nat)), (4, .pointer (some ⟨gm, 0, none⟩)), (34, .bool (s0 || (decide ((x.msg.set.length : Int) > 300))))] ∧ LV W [bk gm (mcells x.msg x.vo x.vs) 37] w') ?_ ?_
  ·cases s0
   ·refine h_op H25 rfl (H25.wt rfl rfl rfl) (R_fa H25 rfl rfl (fa29_11 _ _)) rfl (P5 29 0 3 4 28 rfl rfl rfl rfl rfl) fun a26 H26 => ?_
    refine h_op H26 rfl (H26.wt rfl rfl rfl) (R_ld H26 rfl rfl (ld_slE (hL.cell 20) evs)) rfl (P5 30 0 3 4 28 rfl rfl rfl rfl rfl) fun _ H27 => ?_
    refine h_op H27 rfl (H27.wt rfl rfl rfl) (R_lenS H27 rfl rfl Tryz.underlying26) rfl (P5 31 0 3 4 28 rfl rfl rfl rfl rfl) fun _ H28 => ?_
    refine h_op H28 rfl (H28.wt rfl rfl rfl) (R_bin H28 rfl rfl rfl (B_gt Tryz.underlying3 _ _)) rfl (P5 32 0 3 4 28 rfl rfl rfl rfl rfl) fun _ H29 => ?_
    refine h_o H29 rfl (R_pick H29 rfl rfl rfl) (P4 33 0 3 4 rfl rfl rfl rfl) fun _ H30 => ?_
    refine h_o H30 rfl (R_mv H30 rfl rfl) (P4 34 0 3 4 rfl rfl rfl rfl) fun _ H31 => ?_
    exact h_end ⟨H31.pick _ (P4 0 3 4 34 rfl rfl rfl rfl), hL⟩
   ·refine h_skip H25 rfl (H25.wf rfl rfl rfl) rfl (P5 29 0 3 4 28 rfl rfl rfl rfl rfl) fun a26 H26 => ?_
    refine h_skip H26 rfl (H26.wf rfl rfl rfl) rfl (P5 30 0 3 4 28 rfl rfl rfl rfl rfl) fun _ H27 => ?_
    refine h_skip H27 rfl (H27.wf rfl rfl rfl) rfl (P5 31 0 3 4 28 rfl rfl rfl rfl rfl) fun _ H28 => ?_
    refine h_skip H28 rfl (H28.wf rfl rfl rfl) rfl (P5 32 0 3 4 28 rfl rfl rfl rfl rfl) fun _ H29 => ?_
    refine h_o H29 rfl (R_pick H29 rfl rfl rfl) (P4 33 0 3 4 rfl rfl rfl rfl) fun _ H30 => ?_
    refine h_o H30 rfl (R_mv H30 rfl rfl) (P4 34 0 3 4 rfl rfl rfl rfl) fun _ H31 => ?_
    exact h_end ⟨H31.pick _ (P4 0 3 4 34 rfl rfl rfl rfl), hL⟩
  clear hL H25
  rintro a32 wx ⟨H32, hL⟩
  generalize hs1 : (s0 || (decide ((x.msg.set.length : Int) > 300))) = s1 at H32
  refine wpList_cut [_, _, _, _, _, _, _] (R := fun a' w' => Fr a' 57 [(0, .slice A1 l.length c1), (3, .int .i64 (j : Nat)), (4, .pointer (some ⟨gm, 0, none⟩)), (41, .bool (s1 || (decide ((x.msg.owner.length : Int) > 300))))] ∧ LV W [bk gm (mcells x.msg x.vo x.vs) 37] w') ?_ ?_
  ·cases s1
   ·refine h_op H32 rfl (H32.wt rfl rfl rfl) (R_fa H32 rfl rfl (fa29_10 _ _)) rfl (P5 35 0 3 4 34 rfl rfl rfl rfl rfl) fun a33 H33 => ?_
    refine h_op H33 rfl (H33.wt rfl rfl rfl) (R_fa H33 rfl rfl (fa27_2 _ _)) rfl (P5 36 0 3 4 34 rfl rfl rfl rfl rfl) fun _ H34 => ?_
    refine h_op H34 rfl (H34.wt rfl rfl rfl) (R_ld H34 rfl rfl (ld_slE (hL.cell 19) evo)) rfl (P5 37 0 3 4 34 rfl rfl rfl rfl rfl) fun _ H35 => ?_
    refine h_op H35 rfl (H35.wt rfl rfl rfl) (R_lenS H35 rfl rfl Tryz.underlying26) rfl (P5 38 0 3 4 34 rfl rfl rfl rfl rfl) fun _ H36 => ?_
    refine h_op H36 rfl (H36.wt rfl rfl rfl) (R_bin H36 rfl rfl rfl (B_gt Tryz.underlying3 _ _)) rfl (P5 39 0 3 4 34 rfl rfl rfl rfl rfl) fun _ H37 => ?_
    refine h_o H37 rfl (R_pick H37 rfl rfl rfl) (P4 40 0 3 4 rfl rfl rfl rfl) fun _ H38 => ?_
    refine h_o H38 rfl (R_mv H38 rfl rfl) (P4 41 0 3 4 rfl rfl rfl rfl) fun _ H39 => ?_
    exact h_end ⟨H39.pick _ (P4 0 3 4 41 rfl rfl rfl rfl), hL⟩
   ·refine h_skip H32 rfl (H32.wf rfl rfl rfl) rfl (P5 35 0 3 4 34 rfl rfl rfl rfl rfl) fun a33 H33 => ?_
    refine h_skip H33 rfl (H33.wf rfl rfl rfl) rfl (P5 36 0 3 4 34 rfl rfl rfl rfl rfl) fun _ H34 => ?_
    refine h_skip H34 rfl (H34.wf rfl rfl rfl) rfl (P5 37 0 3 4 34 rfl rfl rfl rfl rfl) fun _ H35 => ?_
    refine h_skip H35 rfl (H35.wf rfl rfl rfl) rfl (P5 38 0 3 4 34 rfl rfl rfl rfl rfl) fun _ H36 => ?_
    refine h_skip H36 rfl (H36.wf rfl rfl rfl) rfl (P5 39 0 3 4 34 rfl rfl rfl rfl rfl) fun _ H37 => ?_
    refine h_o H37 rfl (R_pick H37 rfl rfl rfl) (P4 40 0 3 4 rfl rfl rfl rfl) fun _ H38 => ?_
    refine h_o H38 rfl (R_mv H38 rfl rfl) (P4 41 0 3 4 rfl rfl rfl rfl) fun _ H39 => ?_
    exact h_end ⟨H39.pick _ (P4 0 3 4 41 rfl rfl rfl rfl), hL⟩
  clear hL H32
  rintro a40 wx ⟨H40, hL⟩
  generalize hs2 : (s1 || (decide ((x.msg.owner.length : Int) > 300))) = s2 at H40
  refine wpList_cut [_, _, _, _, _, _] (R := fun a' w' => Fr a' 57 [(0, .slice A1 l.length c1), (3, .int .i64 (j : Nat)), (4, .pointer (some ⟨gm, 0, none⟩)), (47, .bool (s2 || (decide ((x.msg.data.size : Int) > 3000))))] ∧ LV W [bk gm (mcells x.msg x.vo x.vs) 37] w') ?_ ?_
  ·cases s2
   ·refine h_op H40 rfl (H40.wt rfl rfl rfl) (R_fa H40 rfl rfl (fa29_12 _ _)) rfl (P5 42 0 3 4 41 rfl rfl rfl rfl rfl) fun a41 H41 => ?_
    refine h_op H41 rfl (H41.wt rfl rfl rfl) (R_ld H41 rfl rfl (ld_str (hL.cell 21))) rfl (P5 43 0 3 4 41 rfl rfl rfl rfl rfl) fun _ H42 => ?_
    refine h_op H42 rfl (H42.wt rfl rfl rfl) (R_len H42 rfl rfl Tryz.underlying9) rfl (P5 44 0 3 4 41 rfl rfl rfl rfl rfl) fun _ H43 => ?_
    refine h_op H43 rfl (H43.wt rfl rfl rfl) (R_bin H43 rfl rfl rfl (B_gt Tryz.underlying3 _ _)) rfl (P5 45 0 3 4 41 rfl rfl rfl rfl rfl) fun _ H44 => ?_
    refine h_o H44 rfl (R_pick H44 rfl rfl rfl) (P4 46 0 3 4 rfl rfl rfl rfl) fun _ H45 => ?_
    refine h_o H45 rfl (R_mv H45 rfl rfl) (P4 47 0 3 4 rfl rfl rfl rfl) fun _ H46 => ?_
    exact h_end ⟨H46.pick _ (P4 0 3 4 47 rfl rfl rfl rfl), hL⟩
   ·refine h_skip H40 rfl (H40.wf rfl rfl rfl) rfl (P5 42 0 3 4 41 rfl rfl rfl rfl rfl) fun a41 H41 => ?_
    refine h_skip H41 rfl (H41.wf rfl rfl rfl) rfl (P5 43 0 3 4 41 rfl rfl rfl rfl rfl) fun _ H42 => ?_
    refine h_skip H42 rfl (H42.wf rfl rfl rfl) rfl (P5 44 0 3 4 41 rfl rfl rfl rfl rfl) fun _ H43 => ?_
    refine h_skip H43 rfl (H43.wf rfl rfl rfl) rfl (P5 45 0 3 4 41 rfl rfl rfl rfl rfl) fun _ H44 => ?_
    refine h_o H44 rfl (R_pick H44 rfl rfl rfl) (P4 46 0 3 4 rfl rfl rfl rfl) fun _ H45 => ?_
    refine h_o H45 rfl (R_mv H45 rfl rfl) (P4 47 0 3 4 rfl rfl rfl rfl) fun _ H46 => ?_
    exact h_end ⟨H46.pick _ (P4 0 3 4 47 rfl rfl rfl rfl), hL⟩
  clear hL H40
  rintro a47 wx ⟨H47, hL⟩
  generalize hs3 : (s2 || (decide ((x.msg.data.size : Int) > 3000))) = s3 at H47
  refine wpList_cut [_, _, _, _, _, _] (R := fun a' w' => Fr a' 57 [(0, .slice A1 l.length c1), (3, .int .i64 (j : Nat)), (4, .pointer (some ⟨gm, 0, none⟩)), (53, .bool (s3 || (decide ((x.msg.ikey.size : Int) > 3000))))] ∧ LV W [bk gm (mcells x.msg x.vo x.vs) 37] w') ?_ ?_
  ·cases s3
   ·refine h_op H47 rfl (H47.wt rfl rfl rfl) (R_fa H47 rfl rfl (fa29_9 _ _)) rfl (P5 48 0 3 4 47 rfl rfl rfl rfl rfl) fun a48 H48 => ?_
    refine h_op H48 rfl (H48.wt rfl rfl rfl) (R_fa H48 rfl rfl (fi_k (by decide))) rfl (P5 49 0 3 4 47 rfl rfl rfl rfl rfl) fun _ H49 => ?_
    refine h_op H49 rfl (H49.wt rfl rfl rfl) (R_ld H49 rfl rfl (ld_str (hL.cell 13))) rfl (P5 50 0 3 4 47 rfl rfl rfl rfl rfl) fun _ H50 => ?_
    refine h_op H50 rfl (H50.wt rfl rfl rfl) (R_len H50 rfl rfl Tryz.underlying9) rfl (P5 51 0 3 4 47 rfl rfl rfl rfl rfl) fun _ H51 => ?_
    refine h_op H51 rfl (H51.wt rfl rfl rfl) (R_bin H51 rfl rfl rfl (B_gt Tryz.underlying3 _ _)) rfl (P5 52 0 3 4 47 rfl rfl rfl rfl rfl) fun _ H52 => ?_
    refine h_o H52 rfl (R_pick H52 rfl rfl rfl) (P4 53 0 3 4 rfl rfl rfl rfl) fun _ H53 => ?_
    exact h_end ⟨H53.pick _ (P4 0 3 4 53 rfl rfl rfl rfl), hL⟩
   ·refine h_skip H47 rfl (H47.wf rfl rfl rfl) rfl (P5 48 0 3 4 47 rfl rfl rfl rfl rfl) fun a48 H48 => ?_
    refine h_skip H48 rfl (H48.wf rfl rfl rfl) rfl (P5 49 0 3 4 47 rfl rfl rfl rfl rfl) fun _ H49 => ?_
    refine h_skip H49 rfl (H49.wf rfl rfl rfl) rfl (P5 50 0 3 4 47 rfl rfl rfl rfl rfl) fun _ H50 => ?_
    refine h_skip H50 rfl (H50.wf rfl rfl rfl) rfl (P5 51 0 3 4 47 rfl rfl rfl rfl rfl) fun _ H51 => ?_
    refine h_skip H51 rfl (H51.wf rfl rfl rfl) rfl (P5 52 0 3 4 47 rfl rfl rfl rfl rfl) fun _ H52 => ?_
    refine h_o H52 rfl (R_pick H52 rfl rfl rfl) (P4 53 0 3 4 rfl rfl rfl rfl) fun _ H53 => ?_
    exact h_end ⟨H53.pick _ (P4 0 3 4 53 rfl rfl rfl rfl), hL⟩
  clear hL H47
  rintro a54 wx ⟨H54, hL⟩
  generalize hs4 : (s3 || (decide ((x.msg.ikey.size : Int) > 3000))) = s4 at H54
  refine h_end ?_
  cases s4
  rotate_left
  ·repeat (go_not_at_region 6; go_step)
   refine wp_cond_true (H54.ev (x := .tmp 53) rfl) ?_
   repeat (go_not_at_region 6; go_step)
   refine wp_region_lit ?_
   refine h_o H54 rfl (R_as H54 rfl rfl) (P1 2 rfl) fun _ H55 => ?_
   refine h_end ?_
   repeat (go_not_at_region 999; go_step)
   exact H55.ret1 rfl rfl ⟨_, rfl, hL.1, fun h => (by cases h)⟩
  have hsx : x.Small := by
   rw [← hs3, ← hs2, ← hs1, ← hs0] at hs4
   simp only [Bool.or_eq_false_iff, decide_eq_false_iff_not] at hs4
   obtain ⟨⟨⟨⟨a1, a2⟩, a3⟩, a4⟩, a5⟩ := hs4
   exact ⟨by omega, by omega, by omega, by omega, by omega⟩
  repeat (go_not_at_region 3; go_step)
  refine wp_cond_false (H54.ev (x := .tmp 53) rfl) ?_
  repeat (go_not_at_region 3; go_step)
  refine wp_region_lit ?_
  refine h_o H54 rfl (R_mv H54 rfl rfl) (P3 13 0 3 rfl rfl rfl) fun _ H55 => ?_
  refine h_o H55 rfl (R_bin H55 rfl rfl rfl (B_add Tryz.underlying3 _ _ (by omega) (by omega))) (P3 14 0 3 rfl rfl rfl) fun _ H56 => ?_
  refine h_o H56 rfl (R_as H56 rfl rfl) (P2 3 0 rfl rfl) fun _ H57 => ?_
  refine h_end ?_
  repeat (go_not_at_region 999; go_step)
  refine ⟨l.length - (j + 1), by omega, (HI.out _ _ _).2 ⟨j + 1, rfl, hjl, H57.pick _ (P2 0 3 rfl rfl), hL.tail, fun i h h0 => ?_⟩⟩
  rcases Nat.lt_succ_iff_lt_or_eq.1 h0 with h0 | rfl
  ·exact hsm i h h0
  ·rw [← hxe]; exact hsx
end
section
variable {w0 W w : World} {pa oa aa pb ob ab : Nat} {Sa Sb S : PSrc} {x : PAct} {n : Int} {K : List Thg} {g : Nat}
def HasB (g : Nat) (A : Array Value) (t : TypeId) (w : World) : Prop := w.heap[g]? = some (.cells A t (0, 0))
theorem HasB.cl {A : Array Value} {t : TypeId} (h : HasB g A t w) (i : Nat) : w.cell? ⟨g, i, none⟩ = A[i]? := cells_at h i
end
section
variable {S : PSrc} {n k c : Int} {i : Nat} {x : PAct} {y : PItem} {m : PMsg} {W w : World}
theorem PAct.OkA.kept (h : x.OkA W) (hb : Below W.heap.size W w) : x.OkA w := ⟨h.item, h.msg, h.vo.kept fun k hk => hb.block k hk, h.vs.kept fun k hk => hb.block k hk⟩
theorem keepT_own {t u : PTab} : (keepT t u).1.own.length = t.own.length := by
 unfold keepT
 split
 ·rename_i h
  unfold newerT at h
  simp only [Bool.and_eq_true, beq_iff_eq] at h
  have := h.1.2
  show u.own.length = t.own.length
  omega
 ·rfl
end
section
variable {w0 W w : World} {x y : PAct} {g i : Nat} {L : List Thg} {A : Array Value} {t : TypeId} {m : PMsg} {vo vs : Value}
theorem st_int {y old : Int} (h : w.heap[g]? = some (.cells A t (0, 0))) (hc : A[i]? = some (.int .i64 old)) : (Instr.storeAt 3 (.pointer (some ⟨g, i, none⟩)) (.int .i64 y)).run Tryz.prog w = .ok () (w.setCell ⟨g, i, none⟩ (.int .i64 y)) := by
 have hc2 := (cells_at h i).trans hc
 have hz := thaw_at h i
 simp [go_sem, hc2, hz]
theorem ld_mgB (h : w.heap[g]? = some (.cells (mcells m vo vs) 37 (0, 0))) : (Instr.loadAt 37 (.pointer (some ⟨g, 0, none⟩))).run Tryz.prog w = .ok (.agg (mcells m vo vs)) w := ld_msgA fun k u hu => by
 rw [box_cells h k, Nat.zero_add]
 exact hu
end
section
variable {S S' S2 : PSrc} {n k c : Int} {i j : Nat} {x : PAct} {y : PItem} {m : PMsg} {t u : PTab} {L : List (PItem × Nat)}
theorem opItems_at {y : PItem} (h : y ∈ opItems L) : ∃ j : Nat, L[j]? = some (y, 0) := by
 unfold opItems at h
 obtain ⟨q, hq, rfl⟩ := List.mem_map.1 h
 obtain ⟨hq, h0⟩ := List.mem_filter.1 hq
 obtain ⟨j, hj, e⟩ := List.mem_iff_getElem.1 hq
 refine ⟨j, ?_⟩
 rw [List.getElem?_eq_getElem hj, e]
 have h0 : q.2 = 0 := by simpa using h0
 rw [← h0]
def outI (S : PSrc) (y : PItem) : PItem := { y with low := (lowN S.L : Nat) }
def toN (S : PSrc) (y : PItem) : Int := (ownT S.t (partS S.t (outI S y))).1
theorem filt_all {α β : Type} {f : α → Option β} {g : α → β} : ∀ {l : List α}, (∀ x ∈ l, f x = some (g x)) → l.filterMap f = l.map g
 | [], _ => rfl
 | x :: r, h => by
  rw [List.filterMap_cons, h x (by simp), List.map_cons, filt_all fun y hy => h y (by simp [hy])]
theorem codeN_out (h : ¬ (1 ≤ k ∧ k ≤ L.length)) : codeN L k = 0 := by
 unfold codeN
 split
 ·rw [List.getElem?_eq_none (by omega)]
  rfl
 ·rfl
end
def OneK (w0 : World) (p bo ba : Nat) (S : PSrc) (K : List Thg) (w : World) : Prop :=
 ∃ v L, LV w0 (srcs p S v bo ba (K ++ L)) w ∧ ∀ w, LV w0 L w → Rd w v S.t.own
section
variable {w0 W w : World} {p bo ba b : Nat} {S : PSrc} {x : PItem} {k : Int} {m : PMsg} {vo vs v : Value} {L K K' X : List Thg} {g : Nat} {A : Array Value} {t : TypeId} {q q' : Thg} {M : Ents} {T E : TypeId}
theorem OneK.below (h : OneK w0 p bo ba S K w) : Below w0.heap.size w0 w := by
 obtain ⟨v, L, hL, hv⟩ := h
 exact hL.1
theorem OneK.call (h : OneK w0 p bo ba S K W) (hb : Below W.heap.size W w) : OneK w0 p bo ba S K w := by
 obtain ⟨v, L, hL, hv⟩ := h
 exact ⟨v, L, hL.call hb, hv⟩
theorem OneK.drew (h : OneK w0 p bo ba S K w) : OneK w0 p bo ba S K w.drew := by
 obtain ⟨v, L, hL, hv⟩ := h
 exact ⟨v, L, hL.drew, hv⟩
theorem OneK.mem (h : OneK w0 p bo ba S K w) (hm : bk g A t ∈ K) : w.heap[g]? = some (.cells A t (0, 0)) := by
 obtain ⟨v, L, hL, hv⟩ := h
 exact hL.mem_at (by simp [hm])
theorem OneK.cl (h : OneK w0 p bo ba S K w) (hm : bk g A t ∈ K) (i : Nat) : w.cell? ⟨g, i, none⟩ = A[i]? := cells_at (h.mem hm) i
theorem OneK.lvl (h : OneK w0 p bo ba S K w) : ∃ L, LV w0 (K ++ L) w := by
 obtain ⟨v, L, hL, hv⟩ := h
 exact ⟨L, hL.dropl (X := [_, _, _])⟩
theorem OneK.perm (h : OneK w0 p bo ba S K w) (hp : K.Perm K') : OneK w0 p bo ba S K' w := by
 obtain ⟨v, L, hL, hv⟩ := h
 exact ⟨v, L, hL.perm ((((hp.append_right L).cons _).cons _).cons _), hv⟩
theorem OneK.add (h : OneK w0 p bo ba S K W) (hf : ∀ R, LV w0 R W → LV w0 (q :: R) w) : OneK w0 p bo ba S (q :: K) w := by
 obtain ⟨v, L, hL, hv⟩ := h
 exact ⟨v, L, (hf _ hL).perm (List.perm_middle (l₁ := [_, _, _])).symm, hv⟩
theorem OneK.upd (h : OneK w0 p bo ba S (q :: K) W) (hf : ∀ R, LV w0 (q :: R) W → LV w0 (q' :: R) w) : OneK w0 p bo ba S (q' :: K) w := by
 obtain ⟨v, L, hL, hv⟩ := h
 have h2 := hL.perm (List.perm_middle (l₁ := [_, _, _]))
 exact ⟨v, L, (hf _ h2).perm (List.perm_middle (l₁ := [_, _, _])).symm, hv⟩
theorem OneK.tail (h : OneK w0 p bo ba S (q :: K) w) : OneK w0 p bo ba S K w := by
 obtain ⟨v, L, hL, hv⟩ := h
 exact ⟨v, L, (hL.perm (List.perm_middle (l₁ := [_, _, _]))).tail, hv⟩
theorem OneK.addl (h : OneK w0 p bo ba S K W) (hf : ∀ R, LV w0 R W → LV w0 (X ++ R) w) : OneK w0 p bo ba S (X ++ K) w := by
 obtain ⟨v, L, hL, hv⟩ := h
 refine ⟨v, L, (hf _ hL).perm ?_, hv⟩
 rw [List.append_assoc]
 exact List.perm_append_comm_assoc X [_, _, _] (K ++ L)
theorem OneK.dropl (h : OneK w0 p bo ba S (X ++ K) w) : OneK w0 p bo ba S K w := by
 obtain ⟨v, L, hL, hv⟩ := h
 rw [List.append_assoc] at hL
 exact ⟨v, L, LV.dropl (X := X) (hL.perm (List.perm_append_comm_assoc X [_, _, _] (K ++ L)).symm), hv⟩
theorem k1_send (h : OneK w0 p bo ba S K W) (hn : S.L.length < 100000) :
  Calls Tryz.prog 11 #[.pointer (some ⟨p, 0, none⟩), .agg (itC x)] W fun e W' => e = .returned (.tuple #[.int .i64 (sendM S x).2.1, .int .i64 (sendM S x).2.2]) ∧ OneK w0 p bo ba (sendM S x).1 K W' := by
 obtain ⟨v, L, hL, hv⟩ := h
 refine (send_any (x := x) hL (hv _ hL.tail.tail.tail.dropl) hn).mono ?_
 rintro e w ⟨rfl, hL2⟩
 have ht : (sendM S x).1.t = S.t := by
  unfold sendM
  split
  ·rfl
  split
  ·rfl
  split
  ·rfl
  split <;> rfl
 exact ⟨rfl, v, L, hL2, fun w h => by rw [ht]; exact hv w h⟩
theorem k1_handle (h : OneK w0 p bo ba S K W) (hm : ∀ w, Below w0.heap.size w0 w → Rd w vo m.owner) (hn : S.L.length < 100000) (k0 : -9223372036854775808 ≤ m.iseq) (k1 : m.iseq < 9223372036854775808)
  (l1 : S.t.own.length ≤ 1000000000000) (l2 : m.owner.length ≤ 1000000000000) (hs : vs.oneCell' = true) :
  Calls Tryz.prog 12 #[.pointer (some ⟨p, 0, none⟩), .agg (mcells m vo vs)] W fun e W' => e = .returned (.bool (handleM S m).2) ∧ OneK w0 p bo ba (handleM S m).1 K W' := by
 obtain ⟨v, L, hL, hv⟩ := h
 refine (handle_two hL (fun w h => hv w h.dropl) (fun w h => hm w h.1) hn k0 k1 l1 l2 hs).mono ?_
 rintro e w ⟨v', X, rfl, hL2, hd⟩
 refine ⟨rfl, v', X ++ L, hL2.perm ?_, ?_⟩
 ·exact (((List.perm_append_comm_assoc X K L).cons _).cons _).cons _
 ·rcases hd with ⟨rfl, hd⟩ | hd
  ·intro w h
   rw [hd]
   exact hv w h.dropl
  ·exact hd L
theorem k1_last (h : OneK w0 p bo ba S K W) : Calls Tryz.prog 19 #[.pointer (some ⟨p, 0, none⟩)] W fun e W' => e = .returned (.int .i64 (S.L.length : Nat)) ∧ W' = W := by
 obtain ⟨v, L, hL, hv⟩ := h
 exact last_any hL.at_
theorem k1_low (h : OneK w0 p bo ba S K W) : Calls Tryz.prog 14 #[.pointer (some ⟨p, 0, none⟩)] W fun e W' => e = .returned (.int .i64 (lowN S.L : Nat)) ∧ W' = W := by
 obtain ⟨v, L, hL, hv⟩ := h
 exact low_any hL.at_
theorem k1_left (h : OneK w0 p bo ba S K W) : Calls Tryz.prog 20 #[.pointer (some ⟨p, 0, none⟩)] W fun e W' => e = .returned (.int .i64 ((opE S.L).length : Nat)) ∧ W' = W := by
 obtain ⟨v, L, hL, hv⟩ := h
 exact left_any hL.at_ (hL.tail.mem_map (by simp))
theorem k1_answer (h : OneK w0 p bo ba S K W) (h0 : -9223372036854775808 ≤ k) (h1 : k < 9223372036854775808) : Calls Tryz.prog 13 #[.pointer (some ⟨p, 0, none⟩), .int .i64 k] W fun e W' => e = .returned (.tuple #[.int .i64 (codeN S.L k : Nat), .bool (decide (codeN S.L k ≠ 0))]) ∧ W' = W := by
 obtain ⟨v, L, hL, hv⟩ := h
 exact answer_any hL.at_ (hL.tail.tail.mem_map (by simp)) h0 h1
theorem k1_tick (h : OneK w0 p bo ba S K W) (hn : S.L.length < 100000) (l1 : S.t.own.length ≤ 1000000000000) (hok : ∀ q ∈ S.L, q.1.Ok) (s0 : 0 ≤ S.src) (s1 : S.src < 1000) :
  Calls Tryz.prog 15 #[.pointer (some ⟨p, 0, none⟩)] W fun e W' => ∃ v' X, e = .returned v' ∧ PRow 45 3 v' (pktsM S).length (pkF (pktsM S)) X ∧ OneK w0 p bo ba S (X ++ K) W' := by
 obtain ⟨v, L, hL, hv⟩ := h
 refine (tick_any hL (fun w h => hv w h.dropl) hn l1 hok s0 s1).mono ?_
 rintro e w ⟨v', X, rfl, hp, hL2⟩
 refine ⟨v', X, rfl, hp, v, L, hL2.perm ?_, hv⟩
 rw [List.append_assoc]
 exact List.perm_append_comm_assoc X [_, _, _] (K ++ L)
theorem k1_table (h : OneK w0 p bo ba S K W) (l1 : S.t.own.length ≤ 1000000000000) :
  Calls Tryz.prog 22 #[.pointer (some ⟨p, 0, none⟩)] W fun e W' => ∃ v' R, e = .returned (.agg (tbC S.t v')) ∧ RowIs 3 v' (ints S.t.own) R ∧ OneK w0 p bo ba S (lift R ++ K) W' := by
 obtain ⟨v, L, hL, hv⟩ := h
 refine (stable_any hL.at_ (hv _ hL.tail.tail.tail.dropl) l1).mono ?_
 rintro e w ⟨v', R, rfl, hr, hL3⟩
 exact ⟨v', R, rfl, hr, OneK.addl (X := lift R) ⟨v, L, hL, hv⟩ fun R' h' => h'.join hL3⟩
end
end Go.Proofs.YthkeiclhllikjaaGreat
/-
 The document's source, in memory.
-/
namespace Go.Proofs.YthkeiclhllikjaaGreat
open Go.RowKit
abbrev rfC (S : PSrc) (vo vL : Value) : Array Value := #[.int .i64 S.src, .int .i64 S.t.ep, .int .i64 S.t.nd, vo, vL]
def rfZ : PSrc := ⟨0, ⟨0, 0, []⟩, []⟩
abbrev snC (p : PItem × Nat) : Array Value := #[.int .i64 p.1.src, .int .i64 p.1.seq, .int .i64 p.1.low, .int .u8 (p.1.kind : Nat), .string p.1.key, .int .i64 p.1.part, .int .i64 p.1.at_, .int .i64 p.1.n, .int .i64 (p.2 : Nat)]
def snF (L : List (PItem × Nat)) : List Value := L.flatMap fun p => (snC p).toList
section
variable {M : List (PItem × Nat)} {p : PItem × Nat}
theorem snF_len : ∀ {M : List (PItem × Nat)}, (snF M).length = M.length * 9
 | [] => rfl
 | p :: M => by
  have ih := snF_len (M := M)
  unfold snF at ih ⊢
  rw [List.flatMap_cons, List.length_append, ih]
  simp only [List.length_cons, List.length_nil]
  omega
theorem snF_app : snF (M ++ [p]) = snF M ++ (snC p).toList := by
 unfold snF
 simp
theorem snF_get : ∀ {M : List (PItem × Nat)} {j k : Nat} (hj : j < M.length), k < 9 → (snF M)[j * 9 + k]? = (snC M[j]).toList[k]?
 | p :: M, 0, k, _, hk => by
  unfold snF
  rw [List.flatMap_cons, List.getElem?_append_left (by simp; omega), Nat.zero_mul, Nat.zero_add]
  rfl
 | p :: M, j + 1, k, hj, hk => by
  have ih := snF_get (M := M) (j := j) (k := k) (by simpa using hj) hk
  unfold snF at ih ⊢
  rw [List.flatMap_cons, List.getElem?_append_right (by simp; omega)]
  have e : (j + 1) * 9 + k - (snC p).toList.length = j * 9 + k := by simp; omega
  rw [e, ih]
  rfl
theorem snF_one : ∀ u ∈ snF M, u.oneCell' = true := fun u hu => by
 unfold snF at hu
 obtain ⟨p, _, hp⟩ := List.mem_flatMap.1 hu
 simp only [List.mem_cons, List.not_mem_nil, or_false] at hp
 rcases hp with rfl | rfl | rfl | rfl | rfl | rfl | rfl | rfl | rfl <;> rfl
end
section
variable {w0 W w : World} {L X K : List Thg} {S : PSrc} {vo vL v : Value} {M : List (PItem × Nat)} {p : PItem × Nat} {x : PItem} {g i j n c : Nat} {a : Addr} {t : PTab}
theorem add_add2 {x y : Nat} : (a.add x).add y = a.add (x + y) := by
 unfold Addr.add
 by_cases h0 : x = 0
 ·subst h0
  simp
 ·by_cases h1 : y = 0
  ·subst h1
   simp
  ·rw [if_neg h0, if_neg h1, if_neg (by omega)]
   simp [Nat.add_assoc]
theorem infoRf : (Tryz.prog.info? 55).map (·.size) = some 5 := by kernel_rfl
theorem infoSn : (Tryz.prog.info? 64).map (fun i => (i.zero, i.size, i.bytes)) = some (some (.agg (snC (itZ, 0))), 9, 80) := by kernel_rfl
theorem al_rf : (Instr.alloc 55 true (.tuple #[])).run Tryz.prog w = .ok (.pointer (some ⟨w.heap.size, 0, none⟩)) (w.alloc (.cells (rfC rfZ (.slice none 0 0) (.slice none 0 0)) 55)) := by
 simp [go_sem]
 rfl
theorem bx_rf : (Instr.box 55 (.agg (rfC S vo vL))).run Tryz.prog w = .ok (.pointer (some ⟨w.heap.size, 0, none⟩)) (w.alloc (.cells (rfC S vo vL) 55)) := by
 simp [go_sem]
theorem bd_rf0 : (Instr.build 55 #[]).run Tryz.prog w = .ok (.agg (rfC rfZ (.slice none 0 0) (.slice none 0 0))) w := by
 simp [go_sem]
 exact ⟨rfl, rfl, rfl⟩
theorem bd_rf {q : Option Addr} {l c : Nat} {s : Int} : (Instr.build 55 #[(0, .int .i64 s), (1, .agg (tbC t (.slice q l c)))]).run Tryz.prog w = .ok (.agg (rfC ⟨s, t, []⟩ (.slice q l c) (.slice none 0 0))) w := by
 simp [go_sem]
theorem ld_rf (h : w.heap[g]? = some (.cells (rfC S vo vL) 55 (0, 0))) : (Instr.loadAt 55 (.pointer (some ⟨g, 0, none⟩))).run Tryz.prog w = .ok (.agg (rfC S vo vL)) w :=
 ld_rowA (fun k u hu => by rw [box_cells h k, Nat.zero_add]; exact hu) Tryz.underlying55 rfl infoRf
theorem st_rf {S2 : PSrc} {vo2 vL2 : Value} (h : w.heap[g]? = some (.cells (rfC S2 vo2 vL2) 55 (0, 0))) (h1 : vo.oneCell' = true) (h2 : vL.oneCell' = true) : (Instr.storeAt 55 (.pointer (some ⟨g, 0, none⟩)) (.agg (rfC S vo vL))).run Tryz.prog w = .ok () (w.setRow g (rfC S vo vL)) := by
 simp only [Instr.storeAt, Instr.sureAddr, Sem.run_bind, Sem.run_pure, Result.andThen_ok, run_storeVar_row w g 55 55 _ (rfC S vo vL) h infoRf rfl (by simp only [List.all_toArray, List.all_cons, List.all_nil, Bool.and_true, h1, h2]; rfl)]
theorem bd_sn : (Instr.build 64 #[(0, .agg (itC x))]).run Tryz.prog w = .ok (.agg (snC (x, 0))) w := by
 simp [go_sem]
theorem bs_sn : (Instr.buildSlice 53 1 #[(0, .agg (snC p))]).run Tryz.prog w = .ok (.slice (some ⟨w.heap.size, 0, none⟩) 1 1) (w.alloc (.cells (snC p) 64)) := by
 simp [go_sem]
theorem fa_rf0 : (Instr.fieldAt 55 (.pointer (some ⟨g, 0, none⟩)) 0).run Tryz.prog w = .ok (.pointer (some ⟨g, 0, none⟩)) w := by simp [go_sem]
theorem fa_rf1 : (Instr.fieldAt 55 (.pointer (some ⟨g, 0, none⟩)) 1).run Tryz.prog w = .ok (.pointer (some ⟨g, 1, none⟩)) w := by simp [go_sem]
theorem fa_rf2 : (Instr.fieldAt 55 (.pointer (some ⟨g, 0, none⟩)) 2).run Tryz.prog w = .ok (.pointer (some ⟨g, 4, none⟩)) w := by simp [go_sem]
theorem fa_sn0 : (Instr.fieldAt 64 (.pointer (some a)) 0).run Tryz.prog w = .ok (.pointer (some a)) w := by simp [go_sem]
theorem fa_sn1 : (Instr.fieldAt 64 (.pointer (some a)) 1).run Tryz.prog w = .ok (.pointer (some (a.add 8))) w := by simp [go_sem]
theorem ix_sn {A : Option Addr} (e : A = some a) (h : j < n) : (Instr.indexAt 53 (.slice A n c) (.int .i64 (j : Nat))).run Tryz.prog w = .ok (.pointer (some (a.add (j * 9)))) w := by
 subst e
 simp [go_sem, h]
theorem ld_sn {q : Option Addr} (h : w.cell? a = some (.slice q n c)) : (Instr.loadAt 53 (.pointer (some a))).run Tryz.prog w = .ok (.slice q n c) w := by simp [go_sem, h]
theorem prow_rdc (h : PRow 64 9 v M.length (snF M) X) (hL : LV w0 (X ++ K) w) : RdC w 9 v (M.map snC) := by
 rcases h.2 with ⟨rfl, hn, rfl⟩ | ⟨g, cap, cur, rfl, rfl, h1, h2, h3, h4⟩
 ·exact .inl ⟨rfl, by rw [List.eq_nil_of_length_eq_zero hn]; rfl⟩
 ·refine .inr ⟨⟨g, 0, none⟩, cap, by rw [List.length_map], fun i r hr k u hu => ?_⟩
  have hi : i < M.length := by
   have := (List.getElem?_eq_some_iff.1 hr).1
   simpa using this
  rw [List.getElem?_map, List.getElem?_eq_getElem hi] at hr
  cases hr
  have hk : k < 9 := (Array.getElem?_eq_some_iff.1 hu).1
  have h5 := snF_get hi hk
  rw [← h4, List.getElem?_take, if_pos (by omega), Array.getElem?_toList, Array.getElem?_toList, hu] at h5
  have e : ((⟨g, 0, none⟩ : Addr).add (i * 9)).add k = ⟨g, i * 9 + k, none⟩ := by
   unfold Addr.add
   by_cases hi0 : i * 9 = 0 <;> by_cases hk0 : k = 0 <;> simp [hi0, hk0]
  rw [e, hL.cell, h5]
set_option maxRecDepth 100000 in
theorem app_row (hL : LV w0 L W) (hr : RdC W 9 v (M.map snC)) (hM : M.length ≤ 100000) (ty : TypeId) : ∃ v' W' X, (Builtin.append_ #[53, 53] ty #[.slice none 0 0, v]).run Tryz.prog W = .ok v' W' ∧ PRow 64 9 v' M.length (snF M) X ∧ LV w0 (X ++ L) W' := by
 rcases hr with ⟨rfl, hM0⟩ | ⟨a, c, rfl, hc⟩
 ·have hM1 : M = [] := List.map_eq_nil_iff.1 hM0
  subst hM1
  exact ⟨_, _, [], by simp [go_sem], PRow.nil, hL⟩
 ·rw [List.length_map]
  obtain ⟨i0, hi, hz0, hz1, hz2⟩ := info_parts infoSn
  have hcell : ∀ j u, (snF M)[j]? = some u → W.cell? (a.add j) = some u := fun j u hu => by
   have hj := (List.getElem?_eq_some_iff.1 hu).1
   rw [snF_len] at hj
   have hd : j / 9 < M.length := by omega
   have e2 := snF_get (M := M) (j := j / 9) (k := j % 9) hd (Nat.mod_lt _ (by decide))
   have ej : j / 9 * 9 + j % 9 = j := by omega
   rw [ej, hu] at e2
   have h3 := hc (j / 9) _ (by rw [List.getElem?_map, List.getElem?_eq_getElem hd]; rfl) (j % 9) u (by rw [← Array.getElem?_toList, ← e2])
   rw [add_add2, ej] at h3
   exact h3
  obtain ⟨v', W', hrun, ho2, hg, _, _⟩ := run_append_own_at (P := Tryz.prog) W W.heap.size 53 ty 64 i0 _ 9 80 Tryz.underlying53 hi hz0 hz1 hz2 rfl (by decide) (.slice none 0 0) 0 [] ⟨by simp, .inl ⟨rfl, rfl⟩⟩ a M.length c (snF M) snF_len hcell snF_one (by unfold maxLen; omega) (by omega) (Nat.le_refl _)
  rw [Nat.zero_add, List.nil_append] at ho2
  obtain ⟨X, h4, h5⟩ := owned_thing hL hg ho2
  exact ⟨v', W', X, hrun, h4, h5⟩
theorem app_sent {gn : Nat} (hr : PRow 64 9 v M.length (snF M) X) (hL : LV w0 (X ++ L) W) (hm : bk gn (snC p) 64 ∈ L) (hM : M.length ≤ 100000) (ty : TypeId) : ∃ v' W' X', (Builtin.append_ #[53, 53] ty #[v, .slice (some ⟨gn, 0, none⟩) 1 1]).run Tryz.prog W = .ok v' W' ∧ PRow 64 9 v' (M ++ [p]).length (snF (M ++ [p])) X' ∧ LV w0 (X' ++ L) W' := by
 obtain ⟨i0, hi, hz0, hz1, hz2⟩ := info_parts infoSn
 have h1 : ∀ u ∈ (snC p).toList, u.oneCell' = true := fun u hu => by
  simp only [List.mem_cons, List.not_mem_nil, or_false] at hu
  rcases hu with rfl | rfl | rfl | rfl | rfl | rfl | rfl | rfl | rfl <;> rfl
 obtain ⟨v', W', X', hrun, h4, h5⟩ := app_run (cn := 1) (m := 1) (news := (snC p).toList) hr hL hm rfl Tryz.underlying53 hi hz0 hz1 hz2 rfl (by decide) rfl h1 (by omega) (by decide) ty
 exact ⟨v', W', X', hrun, by rw [List.length_append, snF_app]; exact h4, h5⟩
theorem rf_results3 {f : Func} (hf : f.results = #[.cell 4 55, .tmp 5, .tmp 6]) {tmps : Array Value} {x y : Value} (hp : tmps.getD 4 undef = .pointer (some ⟨g, 0, none⟩)) (hx : tmps.getD 5 undef = x) (hy : tmps.getD 6 undef = y) (hg : w.heap[g]? = some (.cells (rfC S vo vL) 55 (0, 0))) :
  (results f tmps).run Tryz.prog w = .ok (.tuple #[.agg (rfC S vo vL), x, y]) w := by
 have h := run_loadVar_row (P := Tryz.prog) w g 55 55 (rfC S vo vL) (0, 0) _ hg Tryz.underlying55 rfl infoRf
 have e : (results f tmps).run Tryz.prog w = ((asAddr (tmps.getD 4 undef)).run Tryz.prog w).andThen fun a w₁ => ((loadVar 55 a).run Tryz.prog w₁).andThen fun v w₂ => .ok (.tuple #[v, tmps.getD 5 undef, tmps.getD 6 undef]) w₂ := by
  simp only [results, hf]
  simp [Sem.run_bind, Result.andThen]
 rw [e, hp, hx, hy]
 simp [asAddr, h]
theorem rf_results2 {f : Func} {p u : Tmp} (hf : f.results = #[.cell p 55, .tmp u]) {tmps : Array Value} {x : Value} (hp : tmps.getD p undef = .pointer (some ⟨g, 0, none⟩)) (hx : tmps.getD u undef = x) (hg : w.heap[g]? = some (.cells (rfC S vo vL) 55 (0, 0))) :
  (results f tmps).run Tryz.prog w = .ok (.tuple #[.agg (rfC S vo vL), x]) w := by
 have h := run_loadVar_row (P := Tryz.prog) w g 55 55 (rfC S vo vL) (0, 0) _ hg Tryz.underlying55 rfl infoRf
 rw [results_cell_tmp (p := p) (u := u) (ty := 55) hf, hp, hx]
 simp [asAddr, h]
end
end Go.Proofs.YthkeiclhllikjaaGreat
