/-
  What stands of a source, whatever comes; what goes out of the document's.
-/
import Derived.Test.YthkeiclhllikjaaGreatPlC
import Derived.Test.YthkeiclhllikjaaGreatRfC
set_option linter.unusedSimpArgs false
set_option linter.unusedVariables false
namespace Go.Proofs.YthkeiclhllikjaaGreat
open Go.RowKit R
structure PlayI (S : PSrc) (i : Nat) : Prop where
 src0 : 0 ≤ S.src
 src1 : S.src ≤ 3
 rt : rightT S.t = true
 len : S.L.length ≤ i
 it : ∀ (j : Nat) p, S.L[j]? = some p → p.1.Ok ∧ p.1.seq = ((j + 1 : Nat) : Int) ∧ p.1.src = S.src ∧ p.1.key.size ≤ 255 ∧ 0 ≤ p.1.part ∧ p.1.part < S.t.own.length ∧ (p.1.kind = 1 ∨ p.1.kind = 2)
section
variable {S : PSrc} {i j : Nat} {y x : PItem} {m : PMsg} {t : PTab} {k c : Int} {M : List (PItem × Nat)}
theorem rightT_len (h : rightT t = true) : 1 ≤ t.own.length ∧ t.own.length ≤ 8 := by
 unfold rightT at h
 simp only [Bool.and_eq_true, decide_eq_true_eq] at h
 have h1 := h.1.1.2
 have h2 := h.1.2
 omega
theorem PlayI.mono (h : PlayI S i) : PlayI S (i + 1) := ⟨h.src0, h.src1, h.rt, Nat.le_succ_of_le h.len, h.it⟩
theorem PlayI.ok (h : PlayI S i) : ∀ q ∈ S.L, q.1.Ok := fun q hq => by
 obtain ⟨j, hj, rfl⟩ := List.mem_iff_getElem.1 hq
 exact (h.it j _ (List.getElem?_eq_getElem hj)).1
theorem play_send (h : PlayI S i) (hx : x.Ok) : PlayI (sendM S x).1 (i + 1) := by
 unfold sendM
 split
 ·exact h.mono
 split
 ·exact h.mono
 split
 ·exact h.mono
 split
 ·exact h.mono
 ·rename_i h1 h2 h3 h4
  simp only [Bool.or_eq_true, decide_eq_true_eq, not_or] at h3
  refine ⟨h.src0, h.src1, h.rt, ?_, fun j p hp => ?_⟩
  ·have := h.len
   show (S.L ++ [_]).length ≤ i + 1
   rw [List.length_append]
   simp only [List.length_cons, List.length_nil]
   omega
  ·rcases Nat.lt_or_ge j S.L.length with hj | hj
   ·rw [show (S.L ++ [_])[j]? = S.L[j]? from List.getElem?_append_left hj] at hp
    exact h.it j p hp
   ·have hj2 := (List.getElem?_eq_some_iff.1 hp).1
    rw [List.length_append] at hj2
    simp only [List.length_cons, List.length_nil] at hj2
    obtain rfl : j = S.L.length := by omega
    rw [List.getElem?_append_right (Nat.le_refl _), Nat.sub_self] at hp
    cases hp
    exact ⟨⟨hx.kind, hx.key, hx.at0, hx.at1, hx.n0, hx.n1⟩, rfl, rfl, by show x.key.size ≤ 255; omega, by show 0 ≤ x.part; omega, by show x.part < (S.t.own.length : Int); omega, by show x.kind = 1 ∨ x.kind = 2; omega⟩
theorem play_ans (h : PlayI S i) : PlayI (ansM S k c).1 i := by
 unfold ansM
 split
 ·exact h
 ·rename_i hn
  simp only [Bool.or_eq_true, Bool.not_eq_true', decide_eq_true_eq, not_or, Bool.not_eq_false] at hn
  obtain ⟨i2, p, hi, rfl, e⟩ := setA_eq (c := c) hn.1.1
  rw [setA_at hi]
  refine ⟨h.src0, h.src1, h.rt, ?_, fun j p hp => ?_⟩
  ·show (S.L.set _ _).length ≤ i
   rw [List.length_set]
   exact h.len
  ·have hp : (S.L.set i2 (S.L[i2].1, c.toNat))[j]? = some p := hp
   rw [List.getElem?_set] at hp
   by_cases hj : i2 = j
   ·subst hj
    rw [if_pos rfl, if_pos hi] at hp
    cases hp
    exact h.it i2 S.L[i2] (List.getElem?_eq_getElem hi)
   ·rw [if_neg hj] at hp
    exact h.it j p hp
theorem keepT_rt {u : PTab} (h : rightT t = true) : rightT (keepT t u).1 = true := by
 unfold keepT
 split
 ·rename_i h2
  unfold newerT at h2
  simp only [Bool.and_eq_true] at h2
  exact h2.1.1.1.1
 ·exact h
theorem play_handle (h : PlayI S i) : PlayI (handleM S m).1 i := by
 unfold handleM
 split
 ·exact play_ans h
 ·split
  ·refine ⟨h.src0, h.src1, keepT_rt h.rt, h.len, fun j p hp => ?_⟩
   have h2 := h.it j p hp
   rw [← keepT_own (t := S.t) (u := ⟨m.epoch, m.nodes, m.owner⟩)] at h2
   exact h2
  ·exact h
theorem play_out (h : PlayI S i) (hi : i ≤ 100000) (hj : S.L[j]? = some (y, 0)) : (outI S y).Good ∧ 0 ≤ partS S.t (outI S y) ∧ partS S.t (outI S y) < S.t.own.length ∧ toN S y = S.t.own.getD (partS S.t (outI S y)).toNat 0 ∧ pkt S y = some (4 + S.src, toN S y, itD (outI S y)) := by
 obtain ⟨ho, h1, h2, h3, h4, h5, h6⟩ := h.it j _ hj
 have hjl := (List.getElem?_eq_some_iff.1 hj).1
 have hl := h.len
 have hlo := lowN_le (L := S.L)
 have hr := rightT_len h.rt
 have hs0 := h.src0
 have hs1 := h.src1
 simp only at h1 h2 h3 h4 h5 h6 ho
 have hg : (outI S y).Good := by
  refine ⟨⟨ho.kind, ho.key, ho.at0, ho.at1, ho.n0, ho.n1⟩, ?_, ?_, ?_, ?_, ?_, ?_, h4, ?_, h3⟩
  ·show 0 ≤ y.src
   omega
  ·show y.src ≤ 2147483647
   omega
  ·show 0 ≤ y.seq
   omega
  ·show y.seq ≤ 2147483647
   omega
  ·show (0 : Int) ≤ (lowN S.L : Nat)
   omega
  ·show ((lowN S.L : Nat) : Int) ≤ 2147483647
   omega
  ·show y.part ≤ 2147483647
   omega
 have hp : 0 ≤ partS S.t (outI S y) ∧ partS S.t (outI S y) < S.t.own.length := by
  unfold partS
  split
  ·exact ⟨h4, h5⟩
  ·exact ofS_in (by omega)
 have e : ownT S.t (partS S.t (outI S y)) = (S.t.own.getD (partS S.t (outI S y)).toNat 0, true) := by
  unfold ownT
  rw [h.rt, decide_eq_false (by omega), decide_eq_false (by omega)]
  rfl
 refine ⟨hg, hp.1, hp.2, ?_, ?_⟩
 ·unfold toN
  rw [e]
 ·have e2 := item_data hg
  unfold pkt
  unfold toN
  unfold outI at e2 e ⊢
  rw [e2, e]
  rfl
def pkO (S : PSrc) (y : PItem) : Int × Int × ByteArray := (4 + S.src, toN S y, itD (outI S y))
theorem play_all (h : PlayI S i) (hi : i ≤ 100000) : pktsM S = (opItems S.L).map (pkO S) :=
 filt_all fun y hy => by
  obtain ⟨j, hj⟩ := opItems_at hy
  exact (play_out h hi hj).2.2.2.2
theorem opItems_more {j : Nat} (hj : j < M.length) : opItems (M.take (j + 1)) = opItems (M.take j) ++ (if M[j].2 = 0 then [M[j].1] else []) := by
 unfold opItems
 rw [List.take_add_one, List.getElem?_eq_getElem hj, List.filter_append, List.map_append]
 by_cases h : M[j].2 = 0 <;> simp [h]
theorem right_itm (h : x.Good) : rightR (itm x) = 0 := by
 have h2 : onlyM (itm x) = itm x := rfl
 have h0 : okR (itm x) = true := by
  have e1 : inB (itm x).isrc = true := inB_ok h.src0 h.src1
  have e2 : inB (itm x).iseq = true := inB_ok h.seq0 h.seq1
  have e3 : inB (itm x).ilow = true := inB_ok h.low0 h.low1
  have e4 : inB (itm x).ipart = true := inB_ok h.part0 h.part1
  have e5 : decide (((itm x).ikey.size : Int) ≤ 255) = true := decide_eq_true (by have := h.key; show (x.key.size : Int) ≤ 255; omega)
  unfold okR itemB
  rw [h2, sameB_self, e1, e2, e3, e4, e5]
  rfl
 unfold rightR
 rw [if_pos ⟨Nat.le_refl _, by show (1 : Nat) ≤ 14; decide⟩, if_pos h0]
end
section
variable {P : Program} {ops : Array Oper} {Q : Exit → Act → World → Prop} {o : Oper} {a : Act} {w w' : World} {n d : Nat} {v : Value} {m m' : List (Nat × Value)} {w0 : World}
theorem o_opS {K : Act → World → Prop} (L' : List Thg) (i : Nat) (H : Fr a n m) (hi : ops[i]? = some o) (hd : o.dst = some d) (hg : Region.wanted o (yielded ops a.tmps) = true) (hr : (execOp a.eval o).run P w = .ok (.value v) w') (hL : LV w0 L' w') (hn : Nat.blt d n = true) (hp : Picks ((d, v) :: m) m')
  (k : ∀ a' w', Fr a' n m' → LV w0 L' w' → K a' w') : wpOp P ops Q i K a w :=
 o_op i H hi hd hg hr hn hp fun a' H' => k a' w' H' hL
end
section
variable {w0 W w : World} {L X R : List Thg} {S : PSrc} {vo vL v : Value} {M : List (PItem × Nat)} {g i j n c : Nat} {a : Addr} {A : Option Addr} {p q : Thg}
theorem LV.pull2 (h : LV w0 (X ++ (p :: q :: R)) w) : LV w0 (p :: q :: (X ++ R)) w := h.perm (List.perm_append_comm_assoc X [p, q] R)
theorem LV.front2b (h : LV w0 (p :: q :: (X ++ R)) w) : LV w0 (X ++ (p :: q :: R)) w := h.perm (List.perm_append_comm_assoc [p, q] X R)
theorem opItems_len : (opItems M).length ≤ M.length := by
 unfold opItems
 rw [List.length_map]
 exact List.length_filter_le _ _
theorem ld_snI (h : RdC w 9 (.slice A M.length c) (M.map snC)) (e : A = some a) (hj : j < M.length) : (Instr.loadAt 33 (.pointer (some (a.add (j * 9))))).run Tryz.prog w = .ok (.agg (itC M[j].1)) w :=
 ld_itA fun k u hu => by
  refine snc_cell h e hj ?_
  rcases k with _ | _ | _ | _ | _ | _ | _ | _ | k
  all_goals first | exact hu | simp at hu
set_option maxRecDepth 100000 in
set_option maxHeartbeats 8000000 in
theorem rtick_any (hI : PlayI S i) (hi : i ≤ 100000) (hv : Rd W vo S.t.own) (hr : RdC W 9 vL (S.L.map snC)) (hn : S.L.length < 100000) : Calls Tryz.prog 27 #[.agg (rfC S vo vL)] W fun e W' => ∃ v X, e = .returned v ∧ PRow 45 3 v (pktsM S).length (pkF (pktsM S)) X ∧ LV W X W' := by
 have hown := rightT_len hI.rt
 obtain ⟨A, c, rfl⟩ := hv.slc
 have K1 : ∀ {w}, Below W.heap.size W w → Rd w (.slice A S.t.own.length c) S.t.own := fun hb => hv.kept fun k hk => hb.block k hk
 have K2 : ∀ {w}, Below W.heap.size W w → RdC w 9 vL (S.L.map snC) := fun hb => hr.kept fun k hk => hb.block k hk
 obtain ⟨A2, c2, rfl⟩ := hr.slc
 rw [List.length_map] at K2
 clear hr
 rw [List.length_map] at *
 obtain ⟨i0, hi, hz0, hz1, hz2⟩ := info_parts infoPk
 have hL := LV.init W
 go_enter Tryz.func27, Tryz.ntmps27
 refine wp_fr (n := 72) (m := [(0, _)]) ⟨rfl, rfl, by intro p hp; simp only [List.mem_cons, List.not_mem_nil, or_false] at hp; rcases hp with rfl <;> rfl⟩ fun a0 H0 => ?_
 repeat (go_not_at_region 0; go_step)
 refine wp_region_lit ?_
 refine h_opS [bk W.heap.size (rfC S (.slice A S.t.own.length c) (.slice A2 S.L.length c2)) 55] H0 rfl (wn rfl) (R_box H0 rfl rfl bx_rf) (hL.alloc _ _) rfl (P1 1 rfl) fun _ w1 H1 hL => ?_
 refine h_o H1 rfl (R_as H1 rfl rfl) (P1 1 rfl) fun _ H2 => ?_
 refine h_end ?_
 repeat (go_not_at_region 1; go_step)
 refine wp_region_lit ?_
 refine h_o H2 rfl (R_as H2 rfl rfl) (P2 3 1 rfl rfl) fun _ H3 => ?_
 refine h_end ?_
 repeat (go_not_at_region 2; go_step)
 refine wp_region_lit ?_
 refine h_o H3 rfl (R_as H3 rfl rfl) (P3 4 3 1 rfl rfl rfl) fun _ H4 => ?_
 refine h_end ?_
 repeat (go_not_at_region 3; go_step)
 obtain ⟨I, hI⟩ : ∃ I : Nat → Act → World → Prop, ∀ n a' w', I n a' w' ↔ ∃ (j : Nat) (v : Value) (X : List Thg), n = S.L.length - j ∧ j ≤ S.L.length ∧ Fr a' 72 [(1, .pointer (some ⟨W.heap.size, 0, none⟩)), (3, v), (4, .int .i64 (j : Nat))] ∧ PRow 45 3 v ((opItems (S.L.take j)).map (pkO S)).length (pkF ((opItems (S.L.take j)).map (pkO S))) X ∧ LV W (X ++ [bk W.heap.size (rfC S (.slice A S.t.own.length c) (.slice A2 S.L.length c2)) 55]) w' := ⟨_, fun _ _ _ => Iff.rfl⟩
 have HI := Lib.hid hI
 clear hI
 refine wp_loop_ghost I (S.L.length) ((HI.out _ _ _).2 ⟨0, _, [], rfl, Nat.zero_le _, H4.pick _ (P3 1 3 4 rfl rfl rfl), PRow.nil, hL⟩) ?_
 clear hL H4
 intro n a1 wl hi
 obtain ⟨j, v, X, rfl, hj, H0, hp, hL⟩ := (HI.out _ _ _).1 hi
 clear hi
 by_cases hjl : j < S.L.length
 ·repeat (go_not_at_region 3; go_step)
  refine wp_region_lit ?_
  refine h_o H0 rfl (R_mv H0 rfl rfl) (P4 11 1 3 4 rfl rfl rfl rfl) fun _ H1 => ?_
  refine h_o H1 rfl (R_fa H1 rfl rfl fa_rf2) (P5 12 11 1 3 4 rfl rfl rfl rfl rfl) fun _ H2 => ?_
  refine h_o H2 rfl (R_ld H2 rfl rfl (ld_sn (LV.cell hL.dropl 4))) (P5 13 11 1 3 4 rfl rfl rfl rfl rfl) fun _ H3 => ?_
  refine h_o H3 rfl (R_lenS H3 rfl rfl Tryz.underlying53) (P5 14 11 1 3 4 rfl rfl rfl rfl rfl) fun _ H4 => ?_
  refine h_o H4 rfl (R_bin H4 rfl rfl rfl (B_to (y := true) (B_lt Tryz.underlying3 _ _) (decide_eq_true (by omega)))) (P4 15 1 3 4 rfl rfl rfl rfl) fun _ H5 => ?_
  refine h_end ?_
  repeat (go_not_at_region 5; go_step)
  refine wp_cond_true (H5.ev (x := .tmp 15) rfl) ?_
  obtain ⟨ad, hA⟩ := snc_addr (K2 hL.1) hjl
  have hmore := opItems_more hjl
  repeat (go_not_at_region 5; go_step)
  refine wp_region_lit ?_
  refine h_o H5 rfl (R_fa H5 rfl rfl fa_rf2) (P4 18 1 3 4 rfl rfl rfl rfl) fun _ H6 => ?_
  refine h_o H6 rfl (R_ld H6 rfl rfl (ld_sn (LV.cell hL.dropl 4))) (P4 19 1 3 4 rfl rfl rfl rfl) fun _ H7 => ?_
  refine h_o H7 rfl (R_mv H7 rfl rfl) (P5 20 19 1 3 4 rfl rfl rfl rfl rfl) fun _ H8 => ?_
  refine h_o H8 rfl (R_ixa H8 rfl rfl rfl (ix_sn hA hjl)) (P4 21 1 3 4 rfl rfl rfl rfl) fun _ H9 => ?_
  refine h_o H9 rfl (R_fa H9 rfl rfl fa_sn1) (P4 22 1 3 4 rfl rfl rfl rfl) fun _ H10 => ?_
  refine h_o H10 rfl (R_ld H10 rfl rfl (ld_int (snc_cell (K2 hL.1) hA hjl rfl))) (P4 23 1 3 4 rfl rfl rfl rfl) fun _ H11 => ?_
  refine h_o H11 rfl (R_bin H11 rfl rfl rfl (B_ne Tryz.underlying3 _ _)) (P4 24 1 3 4 rfl rfl rfl rfl) fun _ H12 => ?_
  refine h_end ?_
  by_cases h0 : S.L[j].2 = 0
  rotate_left
  ·rw [bne_iff_ne.2 (show ((S.L[j].2 : Nat) : Int) ≠ 0 by omega)] at H12
   repeat (go_not_at_region 4; go_step)
   refine wp_cond_true (H12.ev (x := .tmp 24) rfl) ?_
   repeat (go_not_at_region 4; go_step)
   refine wp_region_lit ?_
   refine h_o H12 rfl (R_mv H12 rfl rfl) (P4 16 1 3 4 rfl rfl rfl rfl) fun _ H13 => ?_
   refine h_o H13 rfl (R_bin H13 rfl rfl rfl (B_add Tryz.underlying3 _ _ (by omega) (by omega))) (P4 17 1 3 4 rfl rfl rfl rfl) fun _ H14 => ?_
   refine h_o H14 rfl (R_as H14 rfl rfl) (P3 4 1 3 rfl rfl rfl) fun _ H15 => ?_
   refine h_end ?_
   repeat (go_not_at_region 999; go_step)
   rw [if_neg h0, List.append_nil] at hmore
   rw [← hmore] at hp
   exact ⟨S.L.length - (j + 1), by omega, (HI.out _ _ _).2 ⟨j + 1, _, _, rfl, hjl, H15.pick _ (P3 1 3 4 rfl rfl rfl), hp, hL⟩⟩
  rw [h0] at H12
  rw [if_pos h0] at hmore
  obtain ⟨x, hx⟩ : ∃ x, x = S.L[j].1 := ⟨_, rfl⟩
  have hxj : S.L[j]? = some (x, 0) := by
   rw [List.getElem?_eq_getElem hjl, hx, ← h0]
  obtain ⟨hgood, hp0, hp1, hto, _⟩ := play_out hI (by omega) hxj
  obtain ⟨hxo, hxs, hxc, hxk, hx0, hx1, hkd⟩ := hI.it j _ hxj
  simp only at hxo hxs hxc hxk hx0 hx1 hkd
  rw [← hx] at hmore
  repeat (go_not_at_region 6; go_step)
  refine wp_cond_false (H12.ev (x := .tmp 24) rfl) ?_
  repeat (go_not_at_region 6; go_step)
  refine wp_region_lit ?_
  refine h_o H12 rfl (R_fa H12 rfl rfl fa_rf2) (P4 25 1 3 4 rfl rfl rfl rfl) fun _ H13 => ?_
  refine h_o H13 rfl (R_ld H13 rfl rfl (ld_sn (LV.cell hL.dropl 4))) (P4 26 1 3 4 rfl rfl rfl rfl) fun _ H14 => ?_
  refine h_o H14 rfl (R_mv H14 rfl rfl) (P5 27 26 1 3 4 rfl rfl rfl rfl rfl) fun _ H15 => ?_
  refine h_o H15 rfl (R_ixa H15 rfl rfl rfl (ix_sn hA hjl)) (P4 28 1 3 4 rfl rfl rfl rfl) fun _ H16 => ?_
  refine h_o H16 rfl (R_fa H16 rfl rfl fa_sn0) (P4 29 1 3 4 rfl rfl rfl rfl) fun _ H17 => ?_
  refine h_o H17 rfl (R_ld H17 rfl rfl (ld_snI (K2 hL.1) hA hjl)) (P4 30 1 3 4 rfl rfl rfl rfl) fun _ H18 => ?_
  refine h_opS (bk wl.heap.size (itC itZ) 33 :: (X ++ [bk W.heap.size (rfC S (.slice A S.t.own.length c) (.slice A2 S.L.length c2)) 55])) H18 rfl (wn rfl) (R_alloc rfl al_it) (hL.alloc _ _) rfl (P5 5 30 1 3 4 rfl rfl rfl rfl rfl) fun _ w19 H19 hL => ?_
  refine h_stS (bk wl.heap.size (itC S.L[j].1) 33 :: (X ++ [bk W.heap.size (rfC S (.slice A S.t.own.length c) (.slice A2 S.L.length c2)) 55])) H19 rfl (wn rfl) (R_st H19 rfl rfl rfl (st_it (x := itZ) (y := S.L[j].1) hL.at_)) (hL.row _) fun _ w20 H20 hL => ?_
  refine h_end ?_
  rw [← hx] at hL
  obtain ⟨gi, hgi⟩ : ∃ g, g = wl.heap.size := ⟨_, rfl⟩
  rw [← hgi] at H20 hL
  clear hgi
  repeat (go_not_at_region 7; go_step)
  refine wp_region_lit ?_
  refine h_o H20 rfl (R_fa H20 rfl rfl (fi_k (by decide))) (P5 31 5 1 3 4 rfl rfl rfl rfl rfl) fun _ H21 => ?_
  refine h_o H21 rfl (R_ld H21 rfl rfl (ld_int (hL.cell 5))) (P5 32 5 1 3 4 rfl rfl rfl rfl rfl) fun _ H22 => ?_
  refine h_o H22 rfl (R_as H22 rfl rfl) (P5 6 5 1 3 4 rfl rfl rfl rfl rfl) fun _ H23 => ?_
  refine h_end ?_
  repeat (go_not_at_region 8; go_step)
  refine wp_region_lit ?_
  refine h_o H23 rfl (R_fa H23 rfl rfl (fi_k (by decide))) (P6 33 6 5 1 3 4 rfl rfl rfl rfl rfl rfl) fun _ H24 => ?_
  refine h_o H24 rfl (R_ld H24 rfl rfl (ld_u8 (hL.cell 3))) (P6 34 6 5 1 3 4 rfl rfl rfl rfl rfl rfl) fun _ H25 => ?_
  refine h_o H25 rfl (R_bin H25 rfl rfl rfl (B8_eq _ _)) (P6 35 6 5 1 3 4 rfl rfl rfl rfl rfl rfl) fun _ H26 => ?_
  refine h_end ?_
  repeat (go_not_at_region 9; go_step)
  refine wp_cut (fun a' w' => Fr a' 72 [(1, .pointer (some ⟨W.heap.size, 0, none⟩)), (3, v), (4, .int .i64 (j : Nat)), (5, .pointer (some ⟨gi, 0, none⟩)), (6, .int .i64 (partS S.t (outI S x)))] ∧ LV W (bk gi (itC x) 33 :: (X ++ [bk W.heap.size (rfC S (.slice A S.t.own.length c) (.slice A2 S.L.length c2)) 55])) w') ?_ ?_
  rotate_left
  ·intro J K' hJ hM
   by_cases hk1 : x.kind = 1
   ·have hpe : partS S.t (outI S x) = ofS x.key (S.t.own.length : Nat) := by
     unfold partS
     rw [if_neg (by show ¬ x.kind = 2; omega)]
     rfl
    refine wp_cond (t := true) ((H26.ev (x := .tmp 35) rfl).trans (by rw [hk1]; rfl)) ?_
    simp only [if_true]
    repeat (go_not_at_region 9; go_step)
    refine wp_region_lit ?_
    refine h_o H26 rfl (R_fa H26 rfl rfl (fi_k (by decide))) (P6 36 6 5 1 3 4 rfl rfl rfl rfl rfl rfl) fun _ H27 => ?_
    refine h_o H27 rfl (R_ld H27 rfl rfl (ld_str (hL.cell 4))) (P6 37 6 5 1 3 4 rfl rfl rfl rfl rfl rfl) fun _ H28 => ?_
    refine h_o H28 rfl (R_fa H28 rfl rfl fa_rf1) (P7 38 37 6 5 1 3 4 rfl rfl rfl rfl rfl rfl rfl) fun _ H29 => ?_
    refine h_o H29 rfl (R_fa H29 rfl rfl (ft_2 _ _ _)) (P7 39 37 6 5 1 3 4 rfl rfl rfl rfl rfl rfl rfl) fun _ H30 => ?_
    refine h_o H30 rfl (R_ld H30 rfl rfl (ld_sl (LV.cell hL.tail.dropl 3))) (P7 40 37 6 5 1 3 4 rfl rfl rfl rfl rfl rfl rfl) fun _ H31 => ?_
    refine h_o H31 rfl (R_lenS H31 rfl rfl Tryz.underlying26) (P7 41 37 6 5 1 3 4 rfl rfl rfl rfl rfl rfl rfl) fun _ H32 => ?_
    refine h_call H32 rfl (wn rfl) (R_call2 H32 rfl rfl rfl (fun w => by simp [go_sem])) rfl ?_
    refine (rOf_any (by omega) _ (by omega)).mono ?_
    rintro e w33 ⟨rfl, rfl⟩
    refine ⟨_, rfl, fun a33 HH => ?_⟩
    have H33 := HH _ (P6 42 6 5 1 3 4 rfl rfl rfl rfl rfl rfl)
    refine h_o H33 rfl (R_as H33 rfl rfl) (P5 6 5 1 3 4 rfl rfl rfl rfl rfl) fun _ H34 => ?_
    refine h_end ?_
    rw [← hpe] at H34
    exact hM _ _ (Met.intro (hJ _ _ ⟨H34.pick _ (P5 1 3 4 5 6 rfl rfl rfl rfl rfl), hL⟩))
   ·have hpe : partS S.t (outI S x) = x.part := by
     unfold partS
     rw [if_pos (by show x.kind = 2; omega)]
     rfl
    refine wp_cond (t := false) ((H26.ev (x := .tmp 35) rfl).trans (by rw [beq_eq_false_iff_ne.2 (show (x.kind : Int) ≠ 1 by omega)])) ?_
    simp only [Bool.false_eq_true, if_false]
    refine wp_skip ?_
    rw [← hpe] at H26
    exact hM _ _ (Met.intro (hJ _ _ ⟨H26.pick _ (P5 1 3 4 5 6 rfl rfl rfl rfl rfl), hL⟩))
  clear hL H26
  intro ac wc hcut
  obtain ⟨H0, hL⟩ := hcut
  repeat (go_not_at_region 10; go_step)
  refine wp_region_lit ?_
  refine h_o H0 rfl (R_ld H0 rfl rfl (ld_rf (LV.at_ hL.tail.dropl))) (P6 43 1 3 4 5 6 rfl rfl rfl rfl rfl rfl) fun _ H1 => ?_
  refine h_call H1 rfl (wn rfl) (R_call1 H1 rfl rfl (fun w => by simp [go_sem])) rfl ?_
  refine (rlow_any (K2 hL.1) hn).mono ?_
  rintro e w2 ⟨rfl, hb⟩
  replace hL := hL.call hb
  clear hb
  refine ⟨_, rfl, fun a2 HH => ?_⟩
  have H2 := HH _ (P6 44 1 3 4 5 6 rfl rfl rfl rfl rfl rfl)
  refine h_o H2 rfl (R_fa H2 rfl rfl (fi_k (by decide))) (P7 45 44 1 3 4 5 6 rfl rfl rfl rfl rfl rfl rfl) fun _ H3 => ?_
  refine h_stS (bk gi (itC { x with low := (lowN S.L : Nat) }) 33 :: (X ++ [bk W.heap.size (rfC S (.slice A S.t.own.length c) (.slice A2 S.L.length c2)) 55])) H3 rfl (wn rfl) (R_st H3 rfl rfl rfl (st_i (i := 2) hL rfl)) (hL.put 2 _) fun _ w4 H4 hL => ?_
  refine h_end ?_
  replace hL : LV W (bk gi (itC (outI S x)) 33 :: (X ++ [bk W.heap.size (rfC S (.slice A S.t.own.length c) (.slice A2 S.L.length c2)) 55])) w4 := hL
  have hB := fun w => rBytes_1 (W := w) (m := itm (outI S x)) (itm_fits hgood.ok) rfl hgood.ok.kind (rd_nul w) (rd_nul w) (Nat.zero_le _) (Nat.zero_le _) (right_itm hgood)
  have hsz := bytes_len_le (itm_fits hgood.ok) (show (1 : Nat) < 256 by decide) hgood.ok.kind (item_bytes hgood)
  have hP := fun w => rPut_any (W := w) (s := packL (outM (itm (outI S x)))) (Nat.le_trans hsz (by decide))
  replace hP : ∀ w, Calls Tryz.prog 48 #[.string (packL (outM (itm (outI S x))))] w fun e W' => e = .returned (.tuple #[.string (itD (outI S x)), .int .i64 0]) ∧ Below w.heap.size w W' := hP
  repeat (go_not_at_region 11; go_step)
  refine wp_region_lit ?_
  refine h_o H4 rfl (R_ld H4 rfl rfl (ld_it (x := outI S x) hL.at_)) (P6 47 1 3 4 5 6 rfl rfl rfl rfl rfl rfl) fun _ H5 => ?_
  refine h_o H5 rfl (R_bd2 H5 rfl rfl rfl bd_msg) (P6 48 1 3 4 5 6 rfl rfl rfl rfl rfl rfl) fun _ H6 => ?_
  refine h_call H6 rfl (wn rfl) (R_call1 H6 rfl rfl (fun w => by simp [go_sem])) rfl ?_
  refine (hB _).mono ?_
  rintro e w7 ⟨rfl, hb⟩
  replace hL := hL.call hb
  clear hb
  refine ⟨_, rfl, fun a7 HH => ?_⟩
  have H7 := HH _ (P6 49 1 3 4 5 6 rfl rfl rfl rfl rfl rfl)
  refine h_o H7 rfl (R_mv H7 rfl rfl) (P6 46 1 3 4 5 6 rfl rfl rfl rfl rfl rfl) fun _ H8 => ?_
  refine h_o H8 rfl (R_ext H8 rfl rfl rfl) (P7 50 46 1 3 4 5 6 rfl rfl rfl rfl rfl rfl rfl) fun _ H9 => ?_
  refine h_o H9 rfl (R_ext H9 rfl rfl rfl) (P7 51 50 1 3 4 5 6 rfl rfl rfl rfl rfl rfl rfl) fun _ H10 => ?_
  refine h_o H10 rfl (R_as H10 rfl rfl) (P7 7 51 1 3 4 5 6 rfl rfl rfl rfl rfl rfl rfl) fun _ H11 => ?_
  refine h_o H11 rfl (R_as H11 rfl rfl) (P6 7 1 3 4 5 6 rfl rfl rfl rfl rfl rfl) fun _ H12 => ?_
  refine h_end ?_
  repeat (go_not_at_region 12; go_step)
  refine wp_region_lit ?_
  refine h_o H12 rfl (R_mv H12 rfl rfl) (P6 53 1 3 4 5 6 rfl rfl rfl rfl rfl rfl) fun _ H13 => ?_
  refine h_call H13 rfl (wn rfl) (R_call1 H13 rfl rfl (fun w => by simp [go_sem])) rfl ?_
  refine (hP _).mono ?_
  rintro e w14 ⟨rfl, hb⟩
  replace hL := hL.call hb
  clear hb
  refine ⟨_, rfl, fun a14 HH => ?_⟩
  have H14 := HH _ (P6 54 1 3 4 5 6 rfl rfl rfl rfl rfl rfl)
  refine h_o H14 rfl (R_mv H14 rfl rfl) (P6 52 1 3 4 5 6 rfl rfl rfl rfl rfl rfl) fun _ H15 => ?_
  refine h_o H15 rfl (R_ext H15 rfl rfl rfl) (P7 55 52 1 3 4 5 6 rfl rfl rfl rfl rfl rfl rfl) fun _ H16 => ?_
  refine h_o H16 rfl (R_ext H16 rfl rfl rfl) (P7 56 55 1 3 4 5 6 rfl rfl rfl rfl rfl rfl rfl) fun _ H17 => ?_
  refine h_o H17 rfl (R_as H17 rfl rfl) (P7 9 56 1 3 4 5 6 rfl rfl rfl rfl rfl rfl rfl) fun _ H18 => ?_
  refine h_o H18 rfl (R_as H18 rfl rfl) (P6 9 1 3 4 5 6 rfl rfl rfl rfl rfl rfl) fun _ H19 => ?_
  refine h_end ?_
  clear hB hP
  obtain ⟨pn, hpn⟩ : ∃ p : Nat, partS S.t (outI S x) = p := ⟨(partS S.t (outI S x)).toNat, by omega⟩
  rw [hpn] at hto hp1 H19
  rw [Int.toNat_natCast] at hto
  obtain ⟨ad2, hA2, _⟩ := (K1 hL.1).elem (j := pn) (by omega)
  have hs0 := hI.src0
  have hs1 := hI.src1
  repeat (go_not_at_region 13; go_step)
  refine wp_region_held_drew (S := fun w' => LV W [bk W.heap.size (rfC S (.slice A S.t.own.length c) (.slice A2 S.L.length c2)) 55] w') (by kernel_rfl) ((LV.only hL.drew (by simp) : LV W [bk W.heap.size (rfC S (.slice A S.t.own.length c) (.slice A2 S.L.length c2)) 55] _)) (fun _ => ?_)
  replace hL := hL.drew
  refine a_opZ 0 H19 rfl rfl (by kernel_rfl) (wn rfl) (fun w hL => R_mv H19 rfl rfl) ((LV.only hL (by simp) : LV W [bk W.heap.size (rfC S (.slice A S.t.own.length c) (.slice A2 S.L.length c2)) 55] _)) rfl (P6 57 9 1 3 4 6 rfl rfl rfl rfl rfl rfl) fun _ H20 => ?_
  refine a_opZ 1 H20 rfl rfl (by kernel_rfl) (wn rfl) (fun w hL => R_fa H20 rfl rfl fa_rf0) ((LV.only hL (by simp) : LV W [bk W.heap.size (rfC S (.slice A S.t.own.length c) (.slice A2 S.L.length c2)) 55] _)) rfl (P7 58 57 9 1 3 4 6 rfl rfl rfl rfl rfl rfl rfl) fun _ H21 => ?_
  refine a_opZ 4 H21 rfl rfl (by kernel_rfl) (wn rfl) (fun w hL => R_fa H21 rfl rfl fa_rf1) ((LV.only hL (by simp) : LV W [bk W.heap.size (rfC S (.slice A S.t.own.length c) (.slice A2 S.L.length c2)) 55] _)) rfl (P8 61 58 57 9 1 3 4 6 rfl rfl rfl rfl rfl rfl rfl rfl) fun _ H22 => ?_
  refine a_opZ 7 H22 rfl rfl (by kernel_rfl) (wn rfl) (fun w hL => R_mv H22 rfl rfl) ((LV.only hL (by simp) : LV W [bk W.heap.size (rfC S (.slice A S.t.own.length c) (.slice A2 S.L.length c2)) 55] _)) rfl (P8 64 61 58 57 9 1 3 4 rfl rfl rfl rfl rfl rfl rfl rfl) fun _ H23 => ?_
  refine a_opZ 10 H23 rfl rfl (by kernel_rfl) (wn rfl) (fun w hL => R_mv H23 rfl rfl) ((LV.only hL (by simp) : LV W [bk W.heap.size (rfC S (.slice A S.t.own.length c) (.slice A2 S.L.length c2)) 55] _)) rfl (P8 67 64 61 58 57 1 3 4 rfl rfl rfl rfl rfl rfl rfl rfl) fun _ H24 => ?_
  refine a_opZ 2 H24 rfl rfl (by kernel_rfl) (wn rfl) (fun w hL => R_ld H24 rfl rfl (ld_int (hL.cell 0))) ((LV.only hL (by simp) : LV W [bk W.heap.size (rfC S (.slice A S.t.own.length c) (.slice A2 S.L.length c2)) 55] _)) rfl (P8 59 67 64 61 57 1 3 4 rfl rfl rfl rfl rfl rfl rfl rfl) fun _ H25 => ?_
  refine a_opZ 5 H25 rfl rfl (by kernel_rfl) (wn rfl) (fun w hL => R_fa H25 rfl rfl (ft_2 _ _ _)) ((LV.only hL (by simp) : LV W [bk W.heap.size (rfC S (.slice A S.t.own.length c) (.slice A2 S.L.length c2)) 55] _)) rfl (P8 62 59 67 64 57 1 3 4 rfl rfl rfl rfl rfl rfl rfl rfl) fun _ H26 => ?_
  refine a_opZ 3 H26 rfl rfl (by kernel_rfl) (wn rfl) (fun w hL => R_bin H26 rfl rfl rfl (B_add Tryz.underlying3 _ _ (by omega) (by omega))) ((LV.only hL (by simp) : LV W [bk W.heap.size (rfC S (.slice A S.t.own.length c) (.slice A2 S.L.length c2)) 55] _)) rfl (P8 60 62 67 64 57 1 3 4 rfl rfl rfl rfl rfl rfl rfl rfl) fun _ H27 => ?_
  refine a_opZ 6 H27 rfl rfl (by kernel_rfl) (wn rfl) (fun w hL => R_ld H27 rfl rfl (ld_sl (hL.cell 3))) ((LV.only hL (by simp) : LV W [bk W.heap.size (rfC S (.slice A S.t.own.length c) (.slice A2 S.L.length c2)) 55] _)) rfl (P8 63 60 67 64 57 1 3 4 rfl rfl rfl rfl rfl rfl rfl rfl) fun _ H28 => ?_
  refine a_opZ 8 H28 rfl rfl (by kernel_rfl) (wn rfl) (fun w hL => R_ixa H28 rfl rfl rfl (ix_atE hA2 (by omega))) ((LV.only hL (by simp) : LV W [bk W.heap.size (rfC S (.slice A S.t.own.length c) (.slice A2 S.L.length c2)) 55] _)) rfl (P7 65 60 67 57 1 3 4 rfl rfl rfl rfl rfl rfl rfl) fun _ H29 => ?_
  refine a_opZ 9 H29 rfl rfl (by kernel_rfl) (wn rfl) (fun w hL => R_ld H29 rfl rfl (ld_int (Rdc (K1 hL.1) hA2 (by omega)))) ((LV.only hL (by simp) : LV W [bk W.heap.size (rfC S (.slice A S.t.own.length c) (.slice A2 S.L.length c2)) 55] _)) rfl (P7 66 60 67 57 1 3 4 rfl rfl rfl rfl rfl rfl rfl) fun _ H30 => ?_
  refine a_opZ 11 H30 rfl rfl (by kernel_rfl) (wn rfl) (fun w hL => R_bd3 H30 rfl rfl rfl rfl bd_pk) ((LV.only hL (by simp) : LV W [bk W.heap.size (rfC S (.slice A S.t.own.length c) (.slice A2 S.L.length c2)) 55] _)) rfl (P5 68 57 1 3 4 rfl rfl rfl rfl rfl) fun _ H31 => ?_
  refine a_all1 12 (by kernel_rfl) ?_
  refine o_opS (bk _ #[.int .i64 (4 + S.src), .int .i64 (S.t.own.getD pn 0), .string (itD (outI S x))] 45 :: bk gi (itC (outI S x)) 33 :: (X ++ [bk W.heap.size (rfC S (.slice A S.t.own.length c) (.slice A2 S.L.length c2)) 55])) 12 H31 rfl rfl (wn rfl) (R_bs1 H31 rfl rfl bs_pk) (hL.alloc _ _) rfl (P5 69 57 1 3 4 rfl rfl rfl rfl rfl) fun a32 w32 H32 hL' => ⟨(LV.only hL' (by simp) : LV W [bk W.heap.size (rfC S (.slice A S.t.own.length c) (.slice A2 S.L.length c2)) 55] _), ?_⟩
  replace hL := hL'
  refine a_all1 13 (by kernel_rfl) ?_
  obtain ⟨v2, W2, X2, hrun, hp2, hL2⟩ := app_run (cn := 1) (m := 1) hp hL.front2b (List.mem_cons_self) rfl Tryz.underlying41 hi hz0 hz1 hz2 rfl (by decide) rfl (by simp only [List.all_eq_true] at *; intro u hu; simp only [List.mem_cons, List.not_mem_nil, or_false] at hu; rcases hu with rfl | rfl | rfl <;> rfl) (by rw [List.length_map]; have := opItems_len (M := S.L.take j); rw [List.length_take] at this; omega) (by decide) 41
  refine o_opS (X2 ++ (bk _ #[.int .i64 (4 + S.src), .int .i64 (S.t.own.getD pn 0), .string (itD (outI S x))] 45 :: bk gi (itC (outI S x)) 33 :: [bk W.heap.size (rfC S (.slice A S.t.own.length c) (.slice A2 S.L.length c2)) 55])) 13 H32 rfl rfl (wn rfl) (R_app H32 rfl rfl rfl hrun) (hL2) rfl (P4 70 1 3 4 rfl rfl rfl rfl) fun a33 w33 H33 hL' => ⟨(LV.only hL' (by simp) : LV W [bk W.heap.size (rfC S (.slice A S.t.own.length c) (.slice A2 S.L.length c2)) 55] _), ?_⟩
  replace hL := hL'
  refine a_opZ 14 H33 rfl rfl (by kernel_rfl) (wn rfl) (fun w hL => R_as H33 rfl rfl) ((LV.only hL (by simp) : LV W [bk W.heap.size (rfC S (.slice A S.t.own.length c) (.slice A2 S.L.length c2)) 55] _)) rfl (P3 3 1 4 rfl rfl rfl) fun _ H34 => ?_
  refine wpAnyH_done (by kernel_rfl) ?_ _
  repeat (go_not_at_region 4; go_step)
  refine wp_region_lit ?_
  refine h_o H34 rfl (R_mv H34 rfl rfl) (P4 16 3 1 4 rfl rfl rfl rfl) fun _ H35 => ?_
  refine h_o H35 rfl (R_bin H35 rfl rfl rfl (B_add Tryz.underlying3 _ _ (by omega) (by omega))) (P4 17 3 1 4 rfl rfl rfl rfl) fun _ H36 => ?_
  refine h_o H36 rfl (R_as H36 rfl rfl) (P3 4 3 1 rfl rfl rfl) fun _ H37 => ?_
  refine h_end ?_
  repeat (go_not_at_region 999; go_step)
  replace hL := hL.pull2.tail.tail
  have e2 : pkF ((opItems (S.L.take j)).map (pkO S)) ++ [.int .i64 (4 + S.src), .int .i64 (S.t.own.getD pn 0), .string (itD (outI S x))] = pkF ((opItems (S.L.take (j + 1))).map (pkO S)) := by
   rw [hmore, List.map_append, List.map_cons, List.map_nil, pkF_app]
   unfold pkO
   rw [hto]
  have e3 : ((opItems (S.L.take j)).map (pkO S)).length + 1 = ((opItems (S.L.take (j + 1))).map (pkO S)).length := by
   rw [hmore, List.map_append, List.length_append]
   rfl
  rw [e2, e3] at hp2
  clear hp
  have hp := hp2
  exact ⟨S.L.length - (j + 1), by omega, (HI.out _ _ _).2 ⟨j + 1, _, _, rfl, hjl, H37.pick _ (P3 1 3 4 rfl rfl rfl), hp, hL⟩⟩
 ·obtain rfl : j = S.L.length := by omega
  rw [List.take_length, ← play_all hI (by omega)] at hp
  repeat (go_not_at_region 3; go_step)
  refine wp_region_lit ?_
  refine h_o H0 rfl (R_mv H0 rfl rfl) (P4 11 1 3 4 rfl rfl rfl rfl) fun _ H1 => ?_
  refine h_o H1 rfl (R_fa H1 rfl rfl fa_rf2) (P5 12 11 1 3 4 rfl rfl rfl rfl rfl) fun _ H2 => ?_
  refine h_o H2 rfl (R_ld H2 rfl rfl (ld_sn (LV.cell hL.dropl 4))) (P5 13 11 1 3 4 rfl rfl rfl rfl rfl) fun _ H3 => ?_
  refine h_o H3 rfl (R_lenS H3 rfl rfl Tryz.underlying53) (P5 14 11 1 3 4 rfl rfl rfl rfl rfl) fun _ H4 => ?_
  refine h_o H4 rfl (R_bin H4 rfl rfl rfl (B_to (y := false) (B_lt Tryz.underlying3 _ _) (decide_eq_false (by omega)))) (P4 15 1 3 4 rfl rfl rfl rfl) fun _ H5 => ?_
  refine h_end ?_
  repeat (go_not_at_region 14; go_step)
  refine wp_cond_false (H5.ev (x := .tmp 15) rfl) ?_
  repeat (go_not_at_region 14; go_step)
  refine wp_region_lit ?_
  refine h_o H5 rfl (R_mv H5 rfl rfl) (P1 71 rfl) fun _ H6 => ?_
  refine h_o H6 rfl (R_as H6 rfl rfl) (P1 2 rfl) fun _ H7 => ?_
  refine h_end ?_
  repeat (go_not_at_region 999; go_step)
  exact H7.ret1 rfl rfl ⟨_, X, rfl, hp, (hL.perm List.perm_append_comm).tail⟩
end
end Go.Proofs.YthkeiclhllikjaaGreat
